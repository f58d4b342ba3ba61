-- Written by this session's own program (wip/xprint.py) out of the translation; Lean checks it.
import Derived.Test.YtnphabcbnpenjaaXFnMostx0
import Derived.Test.YtnphabcbnpenjaaXFnMostx2
import Derived.Test.YtnphabcbnpenjaaXFnMostx3
namespace Go.Proofs.Ytnphabcbnpenjaa.XFnMost
open Go.RowKit Go.Proofs.YtnphabcbnpenjaaW.PrintWords Go.Proofs.YtnphabcbnpenjaaW.PrintLast Go.Proofs.YtnphabcbnpenjaaW.PrintMore
attribute [local go_sem] max2_int min2_int max_two min_two max_three min_three max_four min_four   -- for this text's walks alone
set_option linter.unusedVariables false
set_option linter.unusedSimpArgs false

/-! ### spec_l1Cur_times: function 108 -/
mutual
def spec_l1Cur_times.j0 : Nat → List Int → Int → Int → List Int → Int → Int → Option (List Int × Int × Int)
  | 0, _, _, _, _, _, _ => none
  | k + 1, x3, x4, x5, x1000, x1001, x1002 => spec_l1Cur_times.l0 k x3 x4 x5 x1000 x1001 x1002
def spec_l1Cur_times.l0 : Nat → List Int → Int → Int → List Int → Int → Int → Option (List Int × Int × Int)
  | 0, _, _, _, _, _, _ => none
  | k + 1, x3, x4, x5, x1000, x1001, x1002 => if x5 > 0 then (if x3.length < 17592186044416 then ((spec_l1Cur_among.f x1000 x1001 x1002 (([0, 0, 1, 2, 5, 20] : List Int))).bind fun bt225 => (spec_l1Cur_times.l0 k (x3 ++ [x4]) (wrap64 (x4 + bt225.1)) (wrap64 (x5 - 1)) x1000 bt225.2.1 bt225.2.2)) else (none)) else (if (x3.length : Int) > 0 then ((spec_l1Cur_one.f x1000 x1001 x1002 30).bind fun bt228 => (if bt228.1 = true then ((spec_l1Cur_among.f x1000 bt228.2.1 bt228.2.2 (([(-1), 1000000, 1000001] : List Int))).bind fun bt234 => (if 0 ≤ (wrap64 ((x3.length : Int) - 1)) then (if (wrap64 ((x3.length : Int) - 1)) < (x3.length : Int) then (some ((x3.set ((wrap64 ((x3.length : Int) - 1)) : Int).toNat bt234.1), bt234.2.1, bt234.2.2)) else (none)) else (none))) else (some (x3, bt228.2.1, bt228.2.2)))) else (some (x3, x1001, x1002)))
end
def spec_l1Cur_times.f (k : Nat) (s0_0 : List Int) (s0_1 : Int) (s0_2 : Int) : Option (List Int × Int × Int) := (spec_l1Cur_pick.f s0_0 s0_1 s0_2 4).bind fun bt207 => ((spec_l1Cur_pick.f s0_0 bt207.2.1 bt207.2.2 20).bind fun bt210 => ((spec_l1Cur_one.f s0_0 bt210.2.1 bt210.2.2 20).bind fun bt213 => (if bt213.1 = true then ((spec_l1Cur_pick.f s0_0 bt213.2.1 bt213.2.2 2).bind fun bt216 => (spec_l1Cur_times.j0 k ([] : List Int) bt207.1 (wrap64 (60 + bt216.1)) s0_0 bt216.2.1 bt216.2.2)) else (spec_l1Cur_times.j0 k ([] : List Int) bt207.1 bt210.1 s0_0 bt213.2.1 bt213.2.2))))
theorem spec_l1Cur_times.mono_l : ∀ k, (∀ y0 y1 y2 y3 y4 y5, LeO (spec_l1Cur_times.j0 k y0 y1 y2 y3 y4 y5) (spec_l1Cur_times.j0 (k + 1) y0 y1 y2 y3 y4 y5)) ∧ (∀ y0 y1 y2 y3 y4 y5, LeO (spec_l1Cur_times.l0 k y0 y1 y2 y3 y4 y5) (spec_l1Cur_times.l0 (k + 1) y0 y1 y2 y3 y4 y5))
  | 0 => ⟨fun _ _ _ _ _ _ r h => by simp [spec_l1Cur_times.j0] at h, fun _ _ _ _ _ _ r h => by simp [spec_l1Cur_times.l0] at h⟩
  | k + 1 => by
    obtain ⟨ih0, ih1⟩ := spec_l1Cur_times.mono_l k
    refine ⟨?_, ?_⟩
    · intro y0 y1 y2 y3 y4 y5
      unfold spec_l1Cur_times.j0
      repeat' first
      | (with_reducible exact ih0 _ _ _ _ _ _)
      | (with_reducible exact ih1 _ _ _ _ _ _)
      | (with_reducible exact LeO.refl _)
      | (with_reducible exact LeO.none _)
      | (with_reducible refine LeO.ite ?_ ?_)
      | (with_reducible refine LeO.bind ?_ (fun _ => ?_))
      | exact ih0 _ _ _ _ _ _
      | exact ih1 _ _ _ _ _ _
      | exact LeO.none _
      | refine LeO.ite ?_ ?_
      | refine LeO.bind ?_ (fun _ => ?_)
    · intro y0 y1 y2 y3 y4 y5
      unfold spec_l1Cur_times.l0
      repeat' first
      | (with_reducible exact ih0 _ _ _ _ _ _)
      | (with_reducible exact ih1 _ _ _ _ _ _)
      | (with_reducible exact LeO.refl _)
      | (with_reducible exact LeO.none _)
      | (with_reducible refine LeO.ite ?_ ?_)
      | (with_reducible refine LeO.bind ?_ (fun _ => ?_))
      | exact ih0 _ _ _ _ _ _
      | exact ih1 _ _ _ _ _ _
      | exact LeO.none _
      | refine LeO.ite ?_ ?_
      | refine LeO.bind ?_ (fun _ => ?_)
theorem spec_l1Cur_times.mono : ∀ a0 a1 a2 k, LeO (spec_l1Cur_times.f k a0 a1 a2) (spec_l1Cur_times.f (k + 1) a0 a1 a2) := by
  intro a0 a1 a2 k
  obtain ⟨ih0, ih1⟩ := spec_l1Cur_times.mono_l k
  unfold spec_l1Cur_times.f
  repeat' first
      | (with_reducible exact ih0 _ _ _ _ _ _)
      | (with_reducible exact ih1 _ _ _ _ _ _)
      | (with_reducible exact LeO.refl _)
      | (with_reducible exact LeO.none _)
      | (with_reducible refine LeO.ite ?_ ?_)
      | (with_reducible refine LeO.bind ?_ (fun _ => ?_))
      | exact ih0 _ _ _ _ _ _
      | exact ih1 _ _ _ _ _ _
      | exact LeO.none _
      | refine LeO.ite ?_ ?_
      | refine LeO.bind ?_ (fun _ => ?_)
set_option maxHeartbeats 8000000 in
set_option maxRecDepth 100000 in
theorem spec_l1Cur_times.calls (k : Nat) (g : Nat) (s0_0 : List Int) (s0_1 : Int) (s0_2 : Int) (r1 : List Int) (r2 : Int) (r3 : Int) (w0 w : World) (hI : IsS140 w0 w g s0_0 s0_1 s0_2) (hB : Below w0.heap.size w0 w) (h : spec_l1Cur_times.f k s0_0 s0_1 s0_2 = some (r1, r2, r3)) :
    Calls Try.prog 108 #[.pointer (some ⟨g, 0, none⟩)] w fun e w' => ∃ v0_ : Value, e = .returned (v0_) ∧ Kd.R (Kd.int .i64) 3 w' w.heap.size (fun _ => True) v0_ r1 ∧ IsS140 w0 w' g s0_0 r2 r3 ∧ Below w0.heap.size w0 w' ∧ KeepBut w w' g none := by
  have HI0 := Aside0.mk hI
  have HK := Aside0.mk (KeepBut.refl w g none)
  have HL := Aside0.mk hB.size
  clear hI
  have HW0 := Aside0.mk hB.size
  have HB := Aside0.mk hB
  clear hB
  have H : ((spec_l1Cur_pick.f s0_0 s0_1 s0_2 4).bind fun bt207 => ((spec_l1Cur_pick.f s0_0 bt207.2.1 bt207.2.2 20).bind fun bt210 => ((spec_l1Cur_one.f s0_0 bt210.2.1 bt210.2.2 20).bind fun bt213 => (if bt213.1 = true then ((spec_l1Cur_pick.f s0_0 bt213.2.1 bt213.2.2 2).bind fun bt216 => (spec_l1Cur_times.j0 k ([] : List Int) bt207.1 (wrap64 (60 + bt216.1)) s0_0 bt216.2.1 bt216.2.2)) else (spec_l1Cur_times.j0 k ([] : List Int) bt207.1 bt210.1 s0_0 bt213.2.1 bt213.2.2))))) = some (r1, r2, r3) := h
  clear h
  replace H := Option.bind_eq_some_iff.mp H
  obtain ⟨⟨t207, t208, t209⟩, A20, H⟩ := H
  replace H : ((spec_l1Cur_pick.f s0_0 t208 t209 20).bind fun bt210 => ((spec_l1Cur_one.f s0_0 bt210.2.1 bt210.2.2 20).bind fun bt213 => (if bt213.1 = true then ((spec_l1Cur_pick.f s0_0 bt213.2.1 bt213.2.2 2).bind fun bt216 => (spec_l1Cur_times.j0 k ([] : List Int) t207 (wrap64 (60 + bt216.1)) s0_0 bt216.2.1 bt216.2.2)) else (spec_l1Cur_times.j0 k ([] : List Int) t207 bt210.1 s0_0 bt213.2.1 bt213.2.2)))) = some (r1, r2, r3) := H
  have A2 := Aside0.mk A20
  clear A20
  replace H := Option.bind_eq_some_iff.mp H
  obtain ⟨⟨t210, t211, t212⟩, A30, H⟩ := H
  replace H : ((spec_l1Cur_one.f s0_0 t211 t212 20).bind fun bt213 => (if bt213.1 = true then ((spec_l1Cur_pick.f s0_0 bt213.2.1 bt213.2.2 2).bind fun bt216 => (spec_l1Cur_times.j0 k ([] : List Int) t207 (wrap64 (60 + bt216.1)) s0_0 bt216.2.1 bt216.2.2)) else (spec_l1Cur_times.j0 k ([] : List Int) t207 t210 s0_0 bt213.2.1 bt213.2.2))) = some (r1, r2, r3) := H
  have A3 := Aside0.mk A30
  clear A30
  replace H := Option.bind_eq_some_iff.mp H
  obtain ⟨⟨t213, t214, t215⟩, A40, H⟩ := H
  replace H : (if t213 = true then ((spec_l1Cur_pick.f s0_0 t214 t215 2).bind fun bt216 => (spec_l1Cur_times.j0 k ([] : List Int) t207 (wrap64 (60 + bt216.1)) s0_0 bt216.2.1 bt216.2.2)) else (spec_l1Cur_times.j0 k ([] : List Int) t207 t210 s0_0 t214 t215)) = some (r1, r2, r3) := H
  have A4 := Aside0.mk A40
  clear A40
  have HC5 := Aside0.mk H
  clear H
  go_enter Try.func108, Try.ntmps108
  go_upto_if 11 with (first | ((with_reducible refine gate_callee (f := 111) rfl ?_); refine goesA (some 7) rfl rfl Try.func111 #[.pointer (some ⟨g, 0, none⟩), .int .i64 4] rfl ?_; (with_reducible refine (spec_l1Cur_pick.calls g s0_0 s0_1 s0_2 4 t207 t208 t209 w0 _ ?side1 ?side2 A2.out).mono ?_); (case side1 => repeat (first | (with_reducible first | exact HI0.out | apply IsS140.alloc | apply IsS140.drewN | apply IsS140.drew | apply IsS140.set_1 | apply IsS140.set_2) | exact HI0.out)); (case side2 => repeat (first | (with_reducible first | exact HB.out | apply below_alloc | apply pw_below_drewN | apply below_drew1 | refine below_set ?_ (IsS140.ge HI0.out)) | exact HB.out)); rintro e w6 ⟨rfl, hi, hb, hk⟩; refine ⟨_, rfl, ?_⟩; have n0_ := Aside0.mk (KeepBut.trans (by repeat (first | (with_reducible first | exact HK.out | apply KeepBut.set_ | apply keep_drewN | apply keep_drew | apply keep_alloc) | exact HK.out)) hk (.inl rfl)); have n1_ := Aside0.mk (hb); have n2_ := Aside0.mk (hi); clear HK; clear HB; clear HI0; have HK := n0_; have HB := n1_; have HI0 := n2_; clear n0_ n1_ n2_; (try clear hb); (try clear hb2); (try clear hk); (try clear hi)) | ((with_reducible refine gate_callee (f := 111) rfl ?_); refine goesA (some 9) rfl rfl Try.func111 #[.pointer (some ⟨g, 0, none⟩), .int .i64 20] rfl ?_; (with_reducible refine (spec_l1Cur_pick.calls g s0_0 t208 t209 20 t210 t211 t212 w0 _ ?side1 ?side2 A3.out).mono ?_); (case side1 => repeat (first | (with_reducible first | exact HI0.out | apply IsS140.alloc | apply IsS140.drewN | apply IsS140.drew | apply IsS140.set_1 | apply IsS140.set_2) | exact HI0.out)); (case side2 => repeat (first | (with_reducible first | exact HB.out | apply below_alloc | apply pw_below_drewN | apply below_drew1 | refine below_set ?_ (IsS140.ge HI0.out)) | exact HB.out)); rintro e w7 ⟨rfl, hi, hb, hk⟩; refine ⟨_, rfl, ?_⟩; have n0_ := Aside0.mk (KeepBut.trans (by repeat (first | (with_reducible first | exact HK.out | apply KeepBut.set_ | apply keep_drewN | apply keep_drew | apply keep_alloc) | exact HK.out)) hk (.inl rfl)); have n1_ := Aside0.mk (hb); have n2_ := Aside0.mk (hi); clear HK; clear HB; clear HI0; have HK := n0_; have HB := n1_; have HI0 := n2_; clear n0_ n1_ n2_; (try clear hb); (try clear hb2); (try clear hk); (try clear hi)) | ((with_reducible refine gate_callee (f := 121) rfl ?_); refine goesA (some 11) rfl rfl Try.func121 #[.pointer (some ⟨g, 0, none⟩), .int .i64 20] rfl ?_; (with_reducible refine (spec_l1Cur_one.calls g s0_0 t211 t212 20 t213 t214 t215 w0 _ ?side1 ?side2 A4.out).mono ?_); (case side1 => repeat (first | (with_reducible first | exact HI0.out | apply IsS140.alloc | apply IsS140.drewN | apply IsS140.drew | apply IsS140.set_1 | apply IsS140.set_2) | exact HI0.out)); (case side2 => repeat (first | (with_reducible first | exact HB.out | apply below_alloc | apply pw_below_drewN | apply below_drew1 | refine below_set ?_ (IsS140.ge HI0.out)) | exact HB.out)); rintro e w8 ⟨rfl, hi, hb, hk⟩; refine ⟨_, rfl, ?_⟩; have n0_ := Aside0.mk (KeepBut.trans (by repeat (first | (with_reducible first | exact HK.out | apply KeepBut.set_ | apply keep_drewN | apply keep_drew | apply keep_alloc) | exact HK.out)) hk (.inl rfl)); have n1_ := Aside0.mk (hb); have n2_ := Aside0.mk (hi); clear HK; clear HB; clear HI0; have HK := n0_; have HB := n1_; have HI0 := n2_; clear n0_ n1_ n2_; (try clear hb); (try clear hb2); (try clear hk); (try clear hi)))
  (try simp only [Act.put, List.setIfInBounds_toArray, List.set_cons_zero, List.set_cons_succ])
  go_cut [5] (fun v5 wc => ∃ (kq : Nat) (x5_4 : Int) (x1001_4 : Int) (x1002_4 : Int), v5 = .int .i64 x5_4 ∧ Aside0 (spec_l1Cur_times.j0 kq ([] : List Int) t207 x5_4 s0_0 x1001_4 x1002_4 = some (r1, r2, r3)) ∧ Aside0 (kq ≤ k) ∧ Aside0 (Kd.R (Kd.int .i64) 3 wc w.heap.size (fun _ => True) (.slice none 0 0) ([] : List Int)) ∧ Aside0 (IsS140 w0 wc g s0_0 x1001_4 x1002_4) ∧ Aside0 (KeepBut w wc g none) ∧ Aside0 (Below w0.heap.size w0 wc))
  case first =>
    have H := HC5.out
    clear HC5
    by_cases c9 : t213 = true
    · subst c9
      have H1 : ((spec_l1Cur_pick.f s0_0 t214 t215 2).bind fun bt216 => (spec_l1Cur_times.j0 k ([] : List Int) t207 (wrap64 (60 + bt216.1)) s0_0 bt216.2.1 bt216.2.2)) = some (r1, r2, r3) := by rw [if_pos rfl] at H; exact H
      clear H
      have H := H1
      clear H1
      replace H := Option.bind_eq_some_iff.mp H
      obtain ⟨⟨t216, t217, t218⟩, A100, H⟩ := H
      replace H : (spec_l1Cur_times.j0 k ([] : List Int) t207 (wrap64 (60 + t216)) s0_0 t217 t218) = some (r1, r2, r3) := H
      have A10 := Aside0.mk A100
      clear A100
      have H' := Aside0.mk H
      clear H
      go_wp2_with (first | ((with_reducible refine gate_callee (f := 111) rfl ?_); refine goesA (some 13) rfl rfl Try.func111 #[.pointer (some ⟨g, 0, none⟩), .int .i64 2] rfl ?_; (with_reducible refine (spec_l1Cur_pick.calls g s0_0 t214 t215 2 t216 t217 t218 w0 _ ?side1 ?side2 A10.out).mono ?_); (case side1 => repeat (first | (with_reducible first | exact HI0.out | apply IsS140.alloc | apply IsS140.drewN | apply IsS140.drew | apply IsS140.set_1 | apply IsS140.set_2) | exact HI0.out)); (case side2 => repeat (first | (with_reducible first | exact HB.out | apply below_alloc | apply pw_below_drewN | apply below_drew1 | refine below_set ?_ (IsS140.ge HI0.out)) | exact HB.out)); rintro e w11 ⟨rfl, hi, hb, hk⟩; refine ⟨_, rfl, ?_⟩; have n0_ := Aside0.mk (KeepBut.trans (by repeat (first | (with_reducible first | exact HK.out | apply KeepBut.set_ | apply keep_drewN | apply keep_drew | apply keep_alloc) | exact HK.out)) hk (.inl rfl)); have n1_ := Aside0.mk (hb); have n2_ := Aside0.mk (hi); clear HK; clear HB; clear HI0; have HK := n0_; have HB := n1_; have HI0 := n2_; clear n0_ n1_ n2_; (try clear hb); (try clear hb2); (try clear hk); (try clear hi)))
      go_meet
      case rel => exact ⟨_, (wrap64 (60 + t216)), (t217), (t218), (by first | rfl | (simp; done) | (simp [*]; done)), H', ⟨by first | omega | exact Nat.le_refl _⟩, ⟨by first | exact Kd.R_nil _ _ _ _ _ | exact Kd.N_nil _ _ _ _ _ | exact Kd.V_nil _ _ _ _ _ | exact Kd.Q_nil _ _ _ _ _ | exact Kd.S_nil _ _ _ _ _⟩, ⟨by repeat (first | (with_reducible first | exact HI0.out | apply IsS140.alloc | apply IsS140.drewN | apply IsS140.drew | apply IsS140.set_1 | apply IsS140.set_2) | exact HI0.out)⟩, ⟨by repeat (first | (with_reducible first | exact HK.out | apply KeepBut.set_ | apply keep_drewN | apply keep_drew | apply keep_alloc) | exact HK.out)⟩, ⟨by repeat (first | (with_reducible first | exact HB.out | apply below_alloc | apply pw_below_drewN | apply below_drew1 | refine below_set ?_ (IsS140.ge HI0.out)) | exact HB.out)⟩⟩
    · replace c9 := Bool.eq_false_iff.mpr c9
      subst c9
      have H1 : (spec_l1Cur_times.j0 k ([] : List Int) t207 t210 s0_0 t214 t215) = some (r1, r2, r3) := by rw [if_neg (show ¬ (false = true) by decide)] at H; exact H
      clear H
      have H := H1
      clear H1
      have H' := Aside0.mk H
      clear H
      go_wp2
      go_meet
      case rel => exact ⟨_, (t210), (t214), (t215), (by first | rfl | (simp; done) | (simp [*]; done)), H', ⟨by first | omega | exact Nat.le_refl _⟩, ⟨by first | exact Kd.R_nil _ _ _ _ _ | exact Kd.N_nil _ _ _ _ _ | exact Kd.V_nil _ _ _ _ _ | exact Kd.Q_nil _ _ _ _ _ | exact Kd.S_nil _ _ _ _ _⟩, ⟨by repeat (first | (with_reducible first | exact HI0.out | apply IsS140.alloc | apply IsS140.drewN | apply IsS140.drew | apply IsS140.set_1 | apply IsS140.set_2) | exact HI0.out)⟩, ⟨by repeat (first | (with_reducible first | exact HK.out | apply KeepBut.set_ | apply keep_drewN | apply keep_drew | apply keep_alloc) | exact HK.out)⟩, ⟨by repeat (first | (with_reducible first | exact HB.out | apply below_alloc | apply pw_below_drewN | apply below_drew1 | refine below_set ?_ (IsS140.ge HI0.out)) | exact HB.out)⟩⟩
  case rest =>
    clear HC5
    try clear c1
    try clear p2
    try clear p6
    try clear c9
    try clear c10
    try clear c11
    obtain ⟨kq, x5_4, x1001_4, x1002_4, rfl, HA, HJ4, HO_3, HI0, HK, HB⟩ := hcut
    cases kq with
    | zero => exact absurd HA.out (by simp [spec_l1Cur_times.j0])
    | succ kj4 =>
      have H := HA.out
      clear HA
      simp only [spec_l1Cur_times.j0] at H
      have H' := Aside0.mk H
      clear H
      go_wp2
      go_loopg [3, 4, 5] kj4 (fun kq v3 v4 v5 w' => ∃ (x3_2 : List Int) (x4_2 : Int) (x5_2 : Int) (x1001_2 : Int) (x1002_2 : Int), v4 = .int .i64 x4_2 ∧ v5 = .int .i64 x5_2 ∧ Aside0 (spec_l1Cur_times.l0 kq x3_2 x4_2 x5_2 s0_0 x1001_2 x1002_2 = some (r1, r2, r3)) ∧ Aside0 (kq ≤ kj4) ∧ Aside0 (Kd.R (Kd.int .i64) 3 w' w.heap.size (fun _ => True) v3 x3_2) ∧ Aside0 (IsS140 w0 w' g s0_0 x1001_2 x1002_2) ∧ Aside0 (KeepBut w w' g none) ∧ Aside0 (Below w0.heap.size w0 w'))
      case atStart => exact ⟨(([] : List Int)), (t207), (x5_4), (x1001_4), (x1002_4), (by first | rfl | (simp; done) | (simp [*]; done)), (by first | rfl | (simp; done) | (simp [*]; done)), H', ⟨Nat.le_refl _⟩, ⟨by (with_reducible repeat (first | apply Kd.R_alloc | apply Kd.R_drewN | apply Kd.R_drew)); exact HO_3.out⟩, ⟨by repeat (first | (with_reducible first | exact HI0.out | apply IsS140.alloc | apply IsS140.drewN | apply IsS140.drew | apply IsS140.set_1 | apply IsS140.set_2) | exact HI0.out)⟩, ⟨by repeat (first | (with_reducible first | exact HK.out | apply KeepBut.set_ | apply keep_drewN | apply keep_drew | apply keep_alloc) | exact HK.out)⟩, ⟨by repeat (first | (with_reducible first | exact HB.out | apply below_alloc | apply pw_below_drewN | apply below_drew1 | refine below_set ?_ (IsS140.ge HI0.out)) | exact HB.out)⟩⟩
      case round =>
        clear H'
        try clear c1
        try clear p2
        try clear p6
        try clear c9
        try clear c10
        try clear c11
        try clear p2
        try clear p6
        obtain ⟨x3_2, x4_2, x5_2, x1001_2, x1002_2, rfl, rfl, HA, HK2, HO_3, HI0, HK, HB⟩ := hrel
        cases gk with
        | zero => exact absurd HA.out (by simp [spec_l1Cur_times.l0])
        | succ k2 =>
          have H := HA.out
          clear HA
          simp only [spec_l1Cur_times.l0] at H
          by_cases c12 : x5_2 > 0
          · rw [if_pos c12] at H
            have c12b0 : decide (0 < x5_2) = true := decide_eq_true c12
            clear c12
            by_cases c13 : x3_2.length < 17592186044416
            · rw [if_pos c13] at H
              have LMc13 := Aside0.mk c13
              clear c13
              obtain ⟨y219, hy219⟩ : ∃ y_ : List Int, y_ = (x3_2 ++ [x4_2]) := ⟨_, rfl⟩
              replace H : ((spec_l1Cur_among.f s0_0 x1001_2 x1002_2 (([0, 0, 1, 2, 5, 20] : List Int))).bind fun bt225 => (spec_l1Cur_times.l0 k2 y219 (wrap64 (x4_2 + bt225.1)) (wrap64 (x5_2 - 1)) s0_0 bt225.2.1 bt225.2.2)) = some (r1, r2, r3) := by first | (rw [hy219]; with_reducible exact H) | (have H2_ := (Option.bind_some _ _).symm.trans H; rw [hy219]; with_reducible exact H2_) | (have H2_ := (Option.bind_some _ _).symm.trans H; with_reducible exact H2_) | with_reducible exact H | (rw [hy219]; exact H) | exact H
              have Ny219 := Aside0.mk hy219
              clear hy219
              obtain ⟨y222, hy222⟩ : ∃ y_ : List Int, y_ = (([0, 0, 1, 2, 5, 20] : List Int)) := ⟨_, rfl⟩
              replace H : ((spec_l1Cur_among.f s0_0 x1001_2 x1002_2 y222).bind fun bt225 => (spec_l1Cur_times.l0 k2 y219 (wrap64 (x4_2 + bt225.1)) (wrap64 (x5_2 - 1)) s0_0 bt225.2.1 bt225.2.2)) = some (r1, r2, r3) := by first | (rw [hy222]; with_reducible exact H) | (have H2_ := (Option.bind_some _ _).symm.trans H; rw [hy222]; with_reducible exact H2_) | (have H2_ := (Option.bind_some _ _).symm.trans H; with_reducible exact H2_) | with_reducible exact H | (rw [hy222]; exact H) | exact H
              have Ny222 := Aside0.mk hy222
              clear hy222
              replace H := Option.bind_eq_some_iff.mp H
              obtain ⟨⟨t225, t226, t227⟩, A140, H⟩ := H
              replace H : (spec_l1Cur_times.l0 k2 y219 (wrap64 (x4_2 + t225)) (wrap64 (x5_2 - 1)) s0_0 t226 t227) = some (r1, r2, r3) := H
              have A14 := Aside0.mk A140
              clear A140
              have H' := Aside0.mk H
              clear H
              go_wp2_with (first | ((with_reducible refine gate_builtin (b := .append) (xs := #[.tmp 19, .tmp 21]) rfl ?_); at_builtin; refine Kd.R_append (Kd.int .i64) w.heap.size rfl (.tmp 19) (.tmp 21) 33 3 (.int .i64 0) 8 rfl Try.underlying33 info3 rfl (by decide) (by omega) u3 x3_2 x4_2 [.int .i64 x4_2] (fun _ => True) (fun _ => False) rfl rfl ?aP (fun _ hk => hk.elim) ?aF ?aO (Below.refl _ _) ?aS ?aL ?_; (case aP => exact rfl); (case aF => exact (fun _ _ => trivial)); (case aO => exact (by (with_reducible repeat (first | apply Kd.R_alloc | apply Kd.R_drewN | apply Kd.R_drew)); exact HO_3.out)); (case aS => exact (keep_size (w := w) (g := g) (row := none) (by repeat (first | (with_reducible first | exact HK.out | apply KeepBut.set_ | apply keep_drewN | apply keep_drew | apply keep_alloc) | exact HK.out)))); (case aL => have := LMc13.out; omega); intro v220 w15 ho hb hg hat; rw [← Ny219.out] at ho; have n0_ := Aside0.mk (IsS140.grown (by repeat (first | (with_reducible first | exact HI0.out | apply IsS140.alloc | apply IsS140.drewN | apply IsS140.drew | apply IsS140.set_1 | apply IsS140.set_2) | exact HI0.out)) hg (IsS140.own_ne HI0.out HO_3.out (by decide))); have n1_ := Aside0.mk (below_weaken (by repeat (first | (with_reducible first | exact HB.out | apply below_alloc | apply pw_below_drewN | apply below_drew1 | refine below_set ?_ (IsS140.ge HI0.out)) | exact HB.out)) HL.out hb); have n2_ := Aside0.mk (KeepBut.trans (by repeat (first | (with_reducible first | exact HK.out | apply KeepBut.set_ | apply keep_drewN | apply keep_drew | apply keep_alloc) | exact HK.out)) (KeepBut.of_grown hg g) (Kd.R_base2 HO_3.out)); have n3_ := Aside0.mk (ho); clear HI0; clear HB; clear HK; clear HO_3; have HI0 := n0_; have HB := n1_; have HK := n2_; have HO221 := n3_; clear n0_ n1_ n2_ n3_; clear ho hb hg hat) | ((with_reducible refine gate_dst (N := 25) rfl ?_); refine Kd.R_lit (Kd.int .i64) _ 3 ?hg (N := 25) ?hd (xs := ([0, 0, 1, 2, 5, 20] : List Int)) (inner := [.int .i64 0, .int .i64 0, .int .i64 1, .int .i64 2, .int .i64 5, .int .i64 20]) (ok := fun _ => True) (okp := fun _ => True) ?hr ?hp (fun _ hk => hk) trivial (Below.refl _ _) (Nat.le_refl _) (by simp) ?_; (case hd => rfl); (case hg => rfl); (case hr => first | (go_simp; done) | (go_simp; rfl)); (case hp => exact (Reps.one (show Kd.M (Kd.int .i64) _ _ _ 0 [.int .i64 0] from rfl) (Reps.one (show Kd.M (Kd.int .i64) _ _ _ 0 [.int .i64 0] from rfl) (Reps.one (show Kd.M (Kd.int .i64) _ _ _ 1 [.int .i64 1] from rfl) (Reps.one (show Kd.M (Kd.int .i64) _ _ _ 2 [.int .i64 2] from rfl) (Reps.one (show Kd.M (Kd.int .i64) _ _ _ 5 [.int .i64 5] from rfl) (Reps.one (show Kd.M (Kd.int .i64) _ _ _ 20 [.int .i64 20] from rfl) (Reps.none _ _)))))))); intro v223 w16 ho17 hb hg_ hnew_; clear hg_ hnew_; (first | rw [← Ny222.out] at ho17 | (simp only [Int.reduceToNat] at ho17; rw [← Ny222.out] at ho17)); have n0_ := Aside0.mk (Kd.R_elder' (by (with_reducible repeat (first | apply Kd.R_alloc | apply Kd.R_drewN | apply Kd.R_drew)); exact HO221.out) (Kd.R_base ho17) hb); have n1_ := Aside0.mk (Kd.R_lower (Kd.R_new' ho17 (Kd.R_lt (by (with_reducible repeat (first | apply Kd.R_alloc | apply Kd.R_drewN | apply Kd.R_drew)); exact HO221.out))) (keep_size (w := w) (g := g) (row := none) (by repeat (first | (with_reducible first | exact HK.out | apply KeepBut.set_ | apply keep_drewN | apply keep_drew | apply keep_alloc) | exact HK.out)))); have n2_ := Aside0.mk (IsS140.below (by repeat (first | (with_reducible first | exact HI0.out | apply IsS140.alloc | apply IsS140.drewN | apply IsS140.drew | apply IsS140.set_1 | apply IsS140.set_2) | exact HI0.out)) hb); have n3_ := Aside0.mk (KeepBut.trans (by repeat (first | (with_reducible first | exact HK.out | apply KeepBut.set_ | apply keep_drewN | apply keep_drew | apply keep_alloc) | exact HK.out)) (KeepBut.of_below hb g none) (.inl rfl)); have n4_ := Aside0.mk (below_step (by repeat (first | (with_reducible first | exact HB.out | apply below_alloc | apply pw_below_drewN | apply below_drew1 | refine below_set ?_ (IsS140.ge HI0.out)) | exact HB.out)) hb); clear HO221; clear HI0; clear HK; clear HB; have HO221 := n0_; have HO224 := n1_; have HI0 := n2_; have HK := n3_; have HB := n4_; clear n0_ n1_ n2_ n3_ n4_; clear hb ho17; obtain ⟨Ao18, co18, eo18⟩ := Kd.R_slice HO224.out; subst eo18) | ((with_reducible refine gate_callee (f := 113) rfl ?_); refine goesA (some 26) rfl rfl Try.func113 #[.pointer (some ⟨g, 0, none⟩), .slice Ao18 y222.length co18] rfl ?_; (with_reducible refine (spec_l1Cur_among.calls g s0_0 x1001_2 x1002_2 _ _ y222 t225 t226 t227 w0 _ ?side1 ?side2 ?side3 ?side4 ?side5 A14.out).mono ?_); (case side1 => repeat (first | (with_reducible first | exact HI0.out | apply IsS140.alloc | apply IsS140.drewN | apply IsS140.drew | apply IsS140.set_1 | apply IsS140.set_2) | exact HI0.out)); (case side2 => repeat (first | (with_reducible first | exact HB.out | apply below_alloc | apply pw_below_drewN | apply below_drew1 | refine below_set ?_ (IsS140.ge HI0.out)) | exact HB.out)); (case side3 => repeat (first | exact (Kd.R_reads' HO224.out).2.2 | (with_reducible refine Kd.C_alloc ?_ _) | (with_reducible refine Kd.C_drewN ?_ _) | (with_reducible refine Kd.C_drew ?_))); (case side4 => exact (Kd.R_reads' HO224.out).2.1); (case side5 => exact far_slice (IsS140.own_ne HI0.out HO224.out (by decide))); rintro e w19 ⟨rfl, hi, hb, hk⟩; refine ⟨_, rfl, ?_⟩; have n0_ := Aside0.mk (Kd.R_mono (Kd.R_keep (IsS140.apart (show IsS140 w0 _ g s0_0 x1001_2 x1002_2 from by repeat (first | (with_reducible first | exact HI0.out | apply IsS140.alloc | apply IsS140.drewN | apply IsS140.drew | apply IsS140.set_1 | apply IsS140.set_2) | exact HI0.out)) (by (with_reducible repeat (first | apply Kd.R_alloc | apply Kd.R_drewN | apply Kd.R_drew)); exact HO221.out) (by decide)) hk (fun _ h => h.2)) (fun _ h => h.1)); have n1_ := Aside0.mk (Kd.R_mono (Kd.R_keep (IsS140.apart (show IsS140 w0 _ g s0_0 x1001_2 x1002_2 from by repeat (first | (with_reducible first | exact HI0.out | apply IsS140.alloc | apply IsS140.drewN | apply IsS140.drew | apply IsS140.set_1 | apply IsS140.set_2) | exact HI0.out)) (by (with_reducible repeat (first | apply Kd.R_alloc | apply Kd.R_drewN | apply Kd.R_drew)); exact HO224.out) (by decide)) hk (fun _ h => h.2)) (fun _ h => h.1)); have n2_ := Aside0.mk (KeepBut.trans (by repeat (first | (with_reducible first | exact HK.out | apply KeepBut.set_ | apply keep_drewN | apply keep_drew | apply keep_alloc) | exact HK.out)) hk (.inl rfl)); have n3_ := Aside0.mk (hb); have n4_ := Aside0.mk (hi); clear HO221; clear HO224; clear HK; clear HB; clear HI0; have HO221 := n0_; have HO224 := n1_; have HK := n2_; have HB := n3_; have HI0 := n4_; clear n0_ n1_ n2_ n3_ n4_; (try clear hb); (try clear hb2); (try clear hk); (try clear hi)))
              go_roundg k2
              case measure => have := HJ4.out; have := HK2.out; omega
              case rel => exact ⟨(y219), (wrap64 (x4_2 + t225)), (wrap64 (x5_2 - 1)), (t226), (t227), (by first | rfl | (simp; done) | (simp [*]; done)), (by first | rfl | (simp; done) | (simp [*]; done)), H', ⟨by have := HJ4.out; have := HK2.out; omega⟩, ⟨by (with_reducible repeat (first | apply Kd.R_alloc | apply Kd.R_drewN | apply Kd.R_drew)); exact Kd.R_mono HO221.out (fun _ hk => trivial)⟩, ⟨by repeat (first | (with_reducible first | exact HI0.out | apply IsS140.alloc | apply IsS140.drewN | apply IsS140.drew | apply IsS140.set_1 | apply IsS140.set_2) | exact HI0.out)⟩, ⟨by repeat (first | (with_reducible first | exact HK.out | apply KeepBut.set_ | apply keep_drewN | apply keep_drew | apply keep_alloc) | exact HK.out)⟩, ⟨by repeat (first | (with_reducible first | exact HB.out | apply below_alloc | apply pw_below_drewN | apply below_drew1 | refine below_set ?_ (IsS140.ge HI0.out)) | exact HB.out)⟩⟩
            · rw [if_neg c13] at H
              exact absurd H (by simp)
          · rw [if_neg c12] at H
            have c12b0 : decide (0 < x5_2) = false := decide_eq_false c12
            clear c12
            by_cases c20 : (x3_2.length : Int) > 0
            · rw [if_pos c20] at H
              have c20b0 : decide (0 < (x3_2.length : Int)) = true := decide_eq_true c20
              have c20b1 : decide (0 < x3_2.length) = true := decide_eq_true (by omega)
              clear c20
              replace H := Option.bind_eq_some_iff.mp H
              obtain ⟨⟨t228, t229, t230⟩, A210, H⟩ := H
              replace H : (if t228 = true then ((spec_l1Cur_among.f s0_0 t229 t230 (([(-1), 1000000, 1000001] : List Int))).bind fun bt234 => (if 0 ≤ (wrap64 ((x3_2.length : Int) - 1)) then (if (wrap64 ((x3_2.length : Int) - 1)) < (x3_2.length : Int) then (some ((x3_2.set ((wrap64 ((x3_2.length : Int) - 1)) : Int).toNat bt234.1), bt234.2.1, bt234.2.2)) else (none)) else (none))) else (some (x3_2, t229, t230))) = some (r1, r2, r3) := H
              have A21 := Aside0.mk A210
              clear A210
              by_cases c22 : t228 = true
              · subst c22
                have H1 : ((spec_l1Cur_among.f s0_0 t229 t230 (([(-1), 1000000, 1000001] : List Int))).bind fun bt234 => (if 0 ≤ (wrap64 ((x3_2.length : Int) - 1)) then (if (wrap64 ((x3_2.length : Int) - 1)) < (x3_2.length : Int) then (some ((x3_2.set ((wrap64 ((x3_2.length : Int) - 1)) : Int).toNat bt234.1), bt234.2.1, bt234.2.2)) else (none)) else (none))) = some (r1, r2, r3) := by rw [if_pos rfl] at H; exact H
                clear H
                have H := H1
                clear H1
                obtain ⟨y231, hy231⟩ : ∃ y_ : List Int, y_ = (([(-1), 1000000, 1000001] : List Int)) := ⟨_, rfl⟩
                replace H : ((spec_l1Cur_among.f s0_0 t229 t230 y231).bind fun bt234 => (if 0 ≤ (wrap64 ((x3_2.length : Int) - 1)) then (if (wrap64 ((x3_2.length : Int) - 1)) < (x3_2.length : Int) then (some ((x3_2.set ((wrap64 ((x3_2.length : Int) - 1)) : Int).toNat bt234.1), bt234.2.1, bt234.2.2)) else (none)) else (none))) = some (r1, r2, r3) := by first | (rw [hy231]; with_reducible exact H) | (have H2_ := (Option.bind_some _ _).symm.trans H; rw [hy231]; with_reducible exact H2_) | (have H2_ := (Option.bind_some _ _).symm.trans H; with_reducible exact H2_) | with_reducible exact H | (rw [hy231]; exact H) | exact H
                have Ny231 := Aside0.mk hy231
                clear hy231
                replace H := Option.bind_eq_some_iff.mp H
                obtain ⟨⟨t234, t235, t236⟩, A230, H⟩ := H
                replace H : (if 0 ≤ (wrap64 ((x3_2.length : Int) - 1)) then (if (wrap64 ((x3_2.length : Int) - 1)) < (x3_2.length : Int) then (some ((x3_2.set ((wrap64 ((x3_2.length : Int) - 1)) : Int).toNat t234), t235, t236)) else (none)) else (none)) = some (r1, r2, r3) := H
                have A23 := Aside0.mk A230
                clear A230
                obtain ⟨ji24, hji24⟩ : ∃ j_ : Int, (wrap64 ((x3_2.length : Int) - 1)) = j_ := ⟨_, rfl⟩
                replace H : (if 0 ≤ (ji24) then (if (ji24) < (x3_2.length : Int) then (some ((x3_2.set ((ji24) : Int).toNat t234), t235, t236)) else (none)) else (none)) = some (r1, r2, r3) := by first | (rw [hji24] at H; exact H) | (simp only [hji24] at H ⊢; exact H)
                (try rw [hji24] at A21)
                (try rw [hji24] at A23)
                have hji24w : (IntKind.i64.wrap ((x3_2.length : Int) - 1)) = ji24 := (i64_w _).trans hji24
                by_cases c25 : 0 ≤ (ji24)
                · rw [if_pos c25] at H
                  have c25b0 : decide (0 ≤ (ji24)) = true := decide_eq_true c25
                  clear c25
                  by_cases c26 : (ji24) < (x3_2.length : Int)
                  · rw [if_pos c26] at H
                    have c26b0 : decide ((ji24) < (x3_2.length : Int)) = true := decide_eq_true c26
                    clear c26
                    obtain ⟨y237, hy237⟩ : ∃ y_ : List Int, y_ = (x3_2.set ((ji24) : Int).toNat t234) := ⟨_, rfl⟩
                    replace H : (some (y237, t235, t236)) = some (r1, r2, r3) := by first | (rw [hy237]; with_reducible exact H) | (have H2_ := (Option.bind_some _ _).symm.trans H; rw [hy237]; with_reducible exact H2_) | (have H2_ := (Option.bind_some _ _).symm.trans H; with_reducible exact H2_) | with_reducible exact H | (rw [hy237]; exact H) | exact H
                    have Ny237 := Aside0.mk hy237
                    clear hy237
                    simp only [Option.some.injEq, Prod.mk.injEq] at H
                    obtain ⟨rfl, rfl, rfl⟩ := H
                    obtain ⟨Ao28, co28, eo28⟩ := Kd.R_slice HO_3.out
                    subst eo28
                    go_wp2_with (first | (go_at_call 121; (with_reducible refine (spec_l1Cur_one.calls g s0_0 x1001_2 x1002_2 30 true t229 t230 w0 _ ?side1 ?side2 A21.out).mono ?_); (case side1 => repeat (first | (with_reducible first | exact HI0.out | apply IsS140.alloc | apply IsS140.drewN | apply IsS140.drew | apply IsS140.set_1 | apply IsS140.set_2) | exact HI0.out)); (case side2 => repeat (first | (with_reducible first | exact HB.out | apply below_alloc | apply pw_below_drewN | apply below_drew1 | refine below_set ?_ (IsS140.ge HI0.out)) | exact HB.out)); rintro e w29 ⟨rfl, hi, hb, hk⟩; have n0_ := Aside0.mk (Kd.R_mono (Kd.R_keep (IsS140.apart (show IsS140 w0 _ g s0_0 x1001_2 x1002_2 from by repeat (first | (with_reducible first | exact HI0.out | apply IsS140.alloc | apply IsS140.drewN | apply IsS140.drew | apply IsS140.set_1 | apply IsS140.set_2) | exact HI0.out)) (by (with_reducible repeat (first | apply Kd.R_alloc | apply Kd.R_drewN | apply Kd.R_drew)); exact HO_3.out) (by decide)) hk (fun _ h => h.2)) (fun _ h => h.1)); have n1_ := Aside0.mk (KeepBut.trans (by repeat (first | (with_reducible first | exact HK.out | apply KeepBut.set_ | apply keep_drewN | apply keep_drew | apply keep_alloc) | exact HK.out)) hk (.inl rfl)); have n2_ := Aside0.mk (hb); have n3_ := Aside0.mk (hi); clear HO_3; clear HK; clear HB; clear HI0; have HO_3 := n0_; have HK := n1_; have HB := n2_; have HI0 := n3_; clear n0_ n1_ n2_ n3_; (try clear hb); (try clear hb2); (try clear hk); (try clear hi)) | ((with_reducible refine gate_dst (N := 40) rfl ?_); refine Kd.R_lit (Kd.int .i64) _ 3 ?hg (N := 40) ?hd (xs := ([(-1), 1000000, 1000001] : List Int)) (inner := [.int .i64 (-1), .int .i64 1000000, .int .i64 1000001]) (ok := fun _ => True) (okp := fun _ => True) ?hr ?hp (fun _ hk => hk) trivial (Below.refl _ _) (Nat.le_refl _) (by simp) ?_; (case hd => rfl); (case hg => rfl); (case hr => first | (go_simp; done) | (go_simp; rfl)); (case hp => exact (Reps.one (show Kd.M (Kd.int .i64) _ _ _ (-1) [.int .i64 (-1)] from rfl) (Reps.one (show Kd.M (Kd.int .i64) _ _ _ 1000000 [.int .i64 1000000] from rfl) (Reps.one (show Kd.M (Kd.int .i64) _ _ _ 1000001 [.int .i64 1000001] from rfl) (Reps.none _ _))))); intro v232 w30 ho31 hb hg_ hnew_; clear hg_ hnew_; (first | rw [← Ny231.out] at ho31 | (simp only [Int.reduceToNat] at ho31; rw [← Ny231.out] at ho31)); have n0_ := Aside0.mk (Kd.R_elder' (by (with_reducible repeat (first | apply Kd.R_alloc | apply Kd.R_drewN | apply Kd.R_drew)); exact HO_3.out) (Kd.R_base ho31) hb); have n1_ := Aside0.mk (Kd.R_lower (Kd.R_new' ho31 (Kd.R_lt (by (with_reducible repeat (first | apply Kd.R_alloc | apply Kd.R_drewN | apply Kd.R_drew)); exact HO_3.out))) (keep_size (w := w) (g := g) (row := none) (by repeat (first | (with_reducible first | exact HK.out | apply KeepBut.set_ | apply keep_drewN | apply keep_drew | apply keep_alloc) | exact HK.out)))); have n2_ := Aside0.mk (IsS140.below (by repeat (first | (with_reducible first | exact HI0.out | apply IsS140.alloc | apply IsS140.drewN | apply IsS140.drew | apply IsS140.set_1 | apply IsS140.set_2) | exact HI0.out)) hb); have n3_ := Aside0.mk (KeepBut.trans (by repeat (first | (with_reducible first | exact HK.out | apply KeepBut.set_ | apply keep_drewN | apply keep_drew | apply keep_alloc) | exact HK.out)) (KeepBut.of_below hb g none) (.inl rfl)); have n4_ := Aside0.mk (below_step (by repeat (first | (with_reducible first | exact HB.out | apply below_alloc | apply pw_below_drewN | apply below_drew1 | refine below_set ?_ (IsS140.ge HI0.out)) | exact HB.out)) hb); clear HO_3; clear HI0; clear HK; clear HB; have HO_3 := n0_; have HO233 := n1_; have HI0 := n2_; have HK := n3_; have HB := n4_; clear n0_ n1_ n2_ n3_ n4_; clear hb ho31; obtain ⟨Ao32, co32, eo32⟩ := Kd.R_slice HO233.out; subst eo32) | ((with_reducible refine gate_callee (f := 113) rfl ?_); refine goesA (some 41) rfl rfl Try.func113 #[.pointer (some ⟨g, 0, none⟩), .slice Ao32 y231.length co32] rfl ?_; (with_reducible refine (spec_l1Cur_among.calls g s0_0 t229 t230 _ _ y231 t234 t235 t236 w0 _ ?side1 ?side2 ?side3 ?side4 ?side5 A23.out).mono ?_); (case side1 => repeat (first | (with_reducible first | exact HI0.out | apply IsS140.alloc | apply IsS140.drewN | apply IsS140.drew | apply IsS140.set_1 | apply IsS140.set_2) | exact HI0.out)); (case side2 => repeat (first | (with_reducible first | exact HB.out | apply below_alloc | apply pw_below_drewN | apply below_drew1 | refine below_set ?_ (IsS140.ge HI0.out)) | exact HB.out)); (case side3 => repeat (first | exact (Kd.R_reads' HO233.out).2.2 | (with_reducible refine Kd.C_alloc ?_ _) | (with_reducible refine Kd.C_drewN ?_ _) | (with_reducible refine Kd.C_drew ?_))); (case side4 => exact (Kd.R_reads' HO233.out).2.1); (case side5 => exact far_slice (IsS140.own_ne HI0.out HO233.out (by decide))); rintro e w33 ⟨rfl, hi, hb, hk⟩; refine ⟨_, rfl, ?_⟩; have n0_ := Aside0.mk (Kd.R_mono (Kd.R_keep (IsS140.apart (show IsS140 w0 _ g s0_0 t229 t230 from by repeat (first | (with_reducible first | exact HI0.out | apply IsS140.alloc | apply IsS140.drewN | apply IsS140.drew | apply IsS140.set_1 | apply IsS140.set_2) | exact HI0.out)) (by (with_reducible repeat (first | apply Kd.R_alloc | apply Kd.R_drewN | apply Kd.R_drew)); exact HO_3.out) (by decide)) hk (fun _ h => h.2)) (fun _ h => h.1)); have n1_ := Aside0.mk (Kd.R_mono (Kd.R_keep (IsS140.apart (show IsS140 w0 _ g s0_0 t229 t230 from by repeat (first | (with_reducible first | exact HI0.out | apply IsS140.alloc | apply IsS140.drewN | apply IsS140.drew | apply IsS140.set_1 | apply IsS140.set_2) | exact HI0.out)) (by (with_reducible repeat (first | apply Kd.R_alloc | apply Kd.R_drewN | apply Kd.R_drew)); exact HO233.out) (by decide)) hk (fun _ h => h.2)) (fun _ h => h.1)); have n2_ := Aside0.mk (KeepBut.trans (by repeat (first | (with_reducible first | exact HK.out | apply KeepBut.set_ | apply keep_drewN | apply keep_drew | apply keep_alloc) | exact HK.out)) hk (.inl rfl)); have n3_ := Aside0.mk (hb); have n4_ := Aside0.mk (hi); clear HO_3; clear HO233; clear HK; clear HB; clear HI0; have HO_3 := n0_; have HO233 := n1_; have HK := n2_; have HB := n3_; have HI0 := n4_; clear n0_ n1_ n2_ n3_ n4_; (try clear hb); (try clear hb2); (try clear hk); (try clear hi); have p27 : 0 ≤ ((ji24) : Int) := of_decide_eq_true (by first | (with_reducible assumption) | assumption); have q27 : ((ji24) : Int) < ((x3_2.length : Int) : Int) := of_decide_eq_true (by first | (with_reducible assumption) | assumption); obtain ⟨go27, co27, eo27, gb27, gl27, cl27, HG27⟩ := Kd.R_form HO_3.out (by omega); (first | cases eo27 | (injection eo27 with ea_ en_ ec_; (first | subst ea_ | (injection ea_ with ea_; subst ea_)); subst ec_; clear en_)); have GB27 := Aside0.mk gb27; have GG27 := Aside0.mk HG27; clear gb27 gl27 HG27; obtain ⟨hx27_0, hf27_0⟩ := Kd.R_celln 0 HO_3.out ((ji24) : Int) p27 q27; replace p27 := eq_true p27; replace q27 := eq_true q27; have n_ := Aside0.mk (Kd.R_mono (ok' := (fun k_ => some k_ ≠ (.slice Ao32 y231.length co32 : Value).ownBlock)) HO_3.out (fun k_ hk => hk.2)); clear HO_3; have HO_3 := n_; clear n_; obtain ⟨hy34_, hz34_⟩ := Kd.R_celln 0 HO_3.out ((ji24) : Int) (of_decide_eq_true (by first | (with_reducible assumption) | assumption)) (of_decide_eq_true (by first | (with_reducible assumption) | assumption)); have HP34 := Kd.R_putg HO_3.out ((ji24) : Int) t234) | ((with_reducible refine gate_store (t := 3) (p := 42) rfl ?_); refine store_event (t := 3) (p := 42) (v := ?vo_w35) (w1 := (w33.setCell ⟨go27, ((ji24) : Int).toNat, none⟩ (.int .i64 t234))) ?hg ?ho ?hn ?hr ?_; (case ho => rfl); (case hg => rfl); (case hn => rfl); (case hr => first | (go_simp; done) | (go_simp; rfl)); intro w35 hw; have hg : w33.grownBy w35 (some go27) := (by rw [hw]; exact HP34.2); have hp_ : Kd.R (Kd.int .i64) 3 w35 w.heap.size (fun k_ => some k_ ≠ (.slice Ao32 y231.length co32 : Value).ownBlock) (.slice (some ⟨go27, 0, none⟩) x3_2.length co28) y237 := (by rw [hw, Ny237.out]; exact HP34.1); clear HP34; have n0_ := Aside0.mk (hp_); have n1_ := Aside0.mk (IsS140.grown (by repeat (first | (with_reducible first | exact HI0.out | apply IsS140.alloc | apply IsS140.drewN | apply IsS140.drew | apply IsS140.set_1 | apply IsS140.set_2) | exact HI0.out)) hg (IsS140.own_ne HI0.out HO_3.out (by decide))); have n2_ := Aside0.mk (Kd.R_after (v := (.slice (some ⟨go27, 0, none⟩) x3_2.length co28)) (v1 := (.slice (some ⟨go27, 0, none⟩) x3_2.length co28)) (ok := (fun _ => True)) (by (with_reducible repeat (first | apply Kd.R_alloc | apply Kd.R_drewN | apply Kd.R_drew)); exact HO233.out) hg (.inl rfl)); have n3_ := Aside0.mk ((by rw [hw]; exact below_set (HB.out) (Nat.le_trans HL.out GB27.out) : Below w0.heap.size w0 w35)); have n4_ := Aside0.mk (KeepBut.trans (by repeat (first | (with_reducible first | exact HK.out | apply KeepBut.set_ | apply keep_drewN | apply keep_drew | apply keep_alloc) | exact HK.out)) (KeepBut.of_grown hg g) (Kd.R_base2 HO_3.out)); clear HO_3; clear HI0; clear HO233; clear HB; clear HK; have HO_3 := n0_; have HI0 := n1_; have HO233 := n2_; have HB := n3_; have HK := n4_; clear n0_ n1_ n2_ n3_ n4_; clear hg hw hp_))
                    go_ret
                    exact ⟨_, by first | rfl | (simp [errW_none, errW_some] <;> rfl) | (simp only [← hji24]; first | rfl | (simp [errW_none, errW_some] <;> rfl)) | (simp [*, errW_none, errW_some] <;> rfl), by (with_reducible repeat (first | apply Kd.R_alloc | apply Kd.R_drewN | apply Kd.R_drew)); exact Kd.R_mono HO_3.out (fun _ hk => trivial), by repeat (first | (with_reducible first | exact HI0.out | apply IsS140.alloc | apply IsS140.drewN | apply IsS140.drew | apply IsS140.set_1 | apply IsS140.set_2) | exact HI0.out), by repeat (first | (with_reducible first | exact HB.out | apply below_alloc | apply pw_below_drewN | apply below_drew1 | refine below_set ?_ (IsS140.ge HI0.out)) | exact HB.out), by repeat (first | (with_reducible first | exact HK.out | apply KeepBut.set_ | apply keep_drewN | apply keep_drew | apply keep_alloc) | exact HK.out)⟩
                  · rw [if_neg c26] at H
                    exact absurd H (by simp)
                · rw [if_neg c25] at H
                  exact absurd H (by simp)
              · replace c22 := Bool.eq_false_iff.mpr c22
                subst c22
                have H1 : (some (x3_2, t229, t230)) = some (r1, r2, r3) := by rw [if_neg (show ¬ (false = true) by decide)] at H; exact H
                clear H
                have H := H1
                clear H1
                simp only [Option.some.injEq, Prod.mk.injEq] at H
                obtain ⟨rfl, rfl, rfl⟩ := H
                obtain ⟨Ao36, co36, eo36⟩ := Kd.R_slice HO_3.out
                subst eo36
                go_wp2_with (first | (go_at_call 121; (with_reducible refine (spec_l1Cur_one.calls g s0_0 x1001_2 x1002_2 30 false t229 t230 w0 _ ?side1 ?side2 A21.out).mono ?_); (case side1 => repeat (first | (with_reducible first | exact HI0.out | apply IsS140.alloc | apply IsS140.drewN | apply IsS140.drew | apply IsS140.set_1 | apply IsS140.set_2) | exact HI0.out)); (case side2 => repeat (first | (with_reducible first | exact HB.out | apply below_alloc | apply pw_below_drewN | apply below_drew1 | refine below_set ?_ (IsS140.ge HI0.out)) | exact HB.out)); rintro e w37 ⟨rfl, hi, hb, hk⟩; have n0_ := Aside0.mk (Kd.R_mono (Kd.R_keep (IsS140.apart (show IsS140 w0 _ g s0_0 x1001_2 x1002_2 from by repeat (first | (with_reducible first | exact HI0.out | apply IsS140.alloc | apply IsS140.drewN | apply IsS140.drew | apply IsS140.set_1 | apply IsS140.set_2) | exact HI0.out)) (by (with_reducible repeat (first | apply Kd.R_alloc | apply Kd.R_drewN | apply Kd.R_drew)); exact HO_3.out) (by decide)) hk (fun _ h => h.2)) (fun _ h => h.1)); have n1_ := Aside0.mk (KeepBut.trans (by repeat (first | (with_reducible first | exact HK.out | apply KeepBut.set_ | apply keep_drewN | apply keep_drew | apply keep_alloc) | exact HK.out)) hk (.inl rfl)); have n2_ := Aside0.mk (hb); have n3_ := Aside0.mk (hi); clear HO_3; clear HK; clear HB; clear HI0; have HO_3 := n0_; have HK := n1_; have HB := n2_; have HI0 := n3_; clear n0_ n1_ n2_ n3_; (try clear hb); (try clear hb2); (try clear hk); (try clear hi)))
                go_ret
                exact ⟨_, by first | rfl | (simp [errW_none, errW_some] <;> rfl) | (simp [*, errW_none, errW_some] <;> rfl), by (with_reducible repeat (first | apply Kd.R_alloc | apply Kd.R_drewN | apply Kd.R_drew)); exact HO_3.out, by repeat (first | (with_reducible first | exact HI0.out | apply IsS140.alloc | apply IsS140.drewN | apply IsS140.drew | apply IsS140.set_1 | apply IsS140.set_2) | exact HI0.out), by repeat (first | (with_reducible first | exact HB.out | apply below_alloc | apply pw_below_drewN | apply below_drew1 | refine below_set ?_ (IsS140.ge HI0.out)) | exact HB.out), by repeat (first | (with_reducible first | exact HK.out | apply KeepBut.set_ | apply keep_drewN | apply keep_drew | apply keep_alloc) | exact HK.out)⟩
            · rw [if_neg c20] at H
              have c20b0 : decide (0 < (x3_2.length : Int)) = false := decide_eq_false c20
              have c20b1 : decide (0 < x3_2.length) = false := decide_eq_false (by omega)
              clear c20
              simp only [Option.some.injEq, Prod.mk.injEq] at H
              obtain ⟨rfl, rfl, rfl⟩ := H
              obtain ⟨Ao38, co38, eo38⟩ := Kd.R_slice HO_3.out
              subst eo38
              go_wp2
              go_ret
              exact ⟨_, by first | rfl | (simp [errW_none, errW_some] <;> rfl) | (simp [*, errW_none, errW_some] <;> rfl), by (with_reducible repeat (first | apply Kd.R_alloc | apply Kd.R_drewN | apply Kd.R_drew)); exact HO_3.out, by repeat (first | (with_reducible first | exact HI0.out | apply IsS140.alloc | apply IsS140.drewN | apply IsS140.drew | apply IsS140.set_1 | apply IsS140.set_2) | exact HI0.out), by repeat (first | (with_reducible first | exact HB.out | apply below_alloc | apply pw_below_drewN | apply below_drew1 | refine below_set ?_ (IsS140.ge HI0.out)) | exact HB.out), by repeat (first | (with_reducible first | exact HK.out | apply KeepBut.set_ | apply keep_drewN | apply keep_drew | apply keep_alloc) | exact HK.out)⟩

/-! ### spec_DrawBothTell: function 41 -/
def spec_DrawBothTell.f (k : Nat) (l0 : List Int) : Option (Int × Int × List Int) := (spec_l1Cur_sizes.f l0 0 0).bind fun bt239 => ((spec_l1Cur_times.f k l0 bt239.2.2.1 bt239.2.2.2).bind fun bt243 => (some (bt239.1, bt239.2.1, bt243.1)))
theorem spec_DrawBothTell.mono : ∀ a0 k, LeO (spec_DrawBothTell.f k a0) (spec_DrawBothTell.f (k + 1) a0) := by
  intro a0 k
  unfold spec_DrawBothTell.f
  repeat' first
      | (with_reducible exact spec_l1Cur_times.mono _ _ _ _)
      | (with_reducible exact LeO.refl _)
      | (with_reducible exact LeO.none _)
      | (with_reducible refine LeO.ite ?_ ?_)
      | (with_reducible refine LeO.bind ?_ (fun _ => ?_))
      | exact spec_l1Cur_times.mono _ _ _ _
      | exact LeO.none _
      | refine LeO.ite ?_ ?_
      | refine LeO.bind ?_ (fun _ => ?_)
set_option maxHeartbeats 8000000 in
set_option maxRecDepth 100000 in
theorem spec_DrawBothTell.calls (k : Nat) (A0 : Option Addr) (c0 : Nat) (l0 : List Int) (r1 : Int) (r2 : Int) (r3 : List Int) (w : World) (hr0 : Kd.C (Kd.int .u8) w A0 l0.length l0) (hc0 : l0.length ≤ c0) (h : spec_DrawBothTell.f k l0 = some (r1, r2, r3)) :
    Calls Try.prog 41 #[.slice A0 l0.length c0] w fun e w' => ∃ v2_ : Value, e = .returned (.tuple #[.int .i64 r1, .int .i64 r2, v2_]) ∧ Kd.R (Kd.int .i64) 3 w' w.heap.size (fun _ => True) v2_ r3 ∧ Below w.heap.size w w' := by
  have hu140 := Try.underlying140
  have HR0 := Aside0.mk hr0
  have HC0 := Aside0.mk hc0
  clear hr0 hc0
  have HB := Aside0.mk (Below.refl w.heap.size w)
  have H : ((spec_l1Cur_sizes.f l0 0 0).bind fun bt239 => ((spec_l1Cur_times.f k l0 bt239.2.2.1 bt239.2.2.2).bind fun bt243 => (some (bt239.1, bt239.2.1, bt243.1)))) = some (r1, r2, r3) := h
  clear h
  replace H := Option.bind_eq_some_iff.mp H
  obtain ⟨⟨t239, t240, t241, t242⟩, A20, H⟩ := H
  replace H : ((spec_l1Cur_times.f k l0 t241 t242).bind fun bt243 => (some (t239, t240, bt243.1))) = some (r1, r2, r3) := H
  have A2 := Aside0.mk A20
  clear A20
  replace H := Option.bind_eq_some_iff.mp H
  obtain ⟨⟨t243, t246, t247⟩, A30, H⟩ := H
  replace H : (some (t239, t240, t243)) = some (r1, r2, r3) := H
  have A3 := Aside0.mk A30
  clear A30
  simp only [Option.some.injEq, Prod.mk.injEq] at H
  obtain ⟨rfl, rfl, rfl⟩ := H
  go_enter Try.func41, Try.ntmps41
  go_wp2_with (first | ((with_reducible refine gate_dst (N := 10) rfl ?_); refine box_event ?hg (N := 10) ?hd (cs := #[.slice A0 l0.length c0, .int .i64 0, .int .u64 0]) (t := 140) ?hr ?_; (case hd => rfl); (case hg => rfl); (case hr => first | (go_simp; done) | (go_simp; rfl)); intro gb238 hg w4 hbox hb; have n0_ := Aside0.mk (below_step (by repeat (first | (with_reducible first | exact HB.out | apply below_alloc | apply pw_below_drewN | apply below_drew1) | exact HB.out)) hb); have n1_ := Aside0.mk (hbox); have n2_ := Aside0.mk ((by rw [hg]; exact (below_size (by repeat (first | (with_reducible first | exact HB.out | apply below_alloc | apply pw_below_drewN | apply below_drew1) | exact HB.out))) : w.heap.size ≤ gb238)); have n3_ := Aside0.mk ((by rw [hg]; exact (below_size (by repeat (first | (with_reducible first | exact HB.out | apply below_alloc | apply pw_below_drewN | apply below_drew1) | exact HB.out))) : w.heap.size ≤ gb238)); clear HB; have HB := n0_; have BK238 := n1_; have GW238 := n2_; have GE238 := n3_; clear n0_ n1_ n2_ n3_; clear hb hbox hg) | ((with_reducible refine gate_callee (f := 107) rfl ?_); refine goesA (some 13) rfl rfl Try.func107 #[.pointer (some ⟨gb238, 0, none⟩)] rfl ?_; (with_reducible refine (spec_l1Cur_sizes.calls gb238 l0 0 0 t239 t240 t241 t242 w _ ?side1 ?side2 A2.out).mono ?_); (case side1 => exact ⟨_, _, (by (with_reducible repeat (first | refine blk_drewN ?_ _ | refine blk_drew ?_ | refine blk_alloc ?_ _)); exact BK238.out), GE238.out, HR0.out⟩); (case side2 => repeat (first | (with_reducible first | exact HB.out | apply below_alloc | apply pw_below_drewN | apply below_drew1 | refine below_set ?_ (IsS140.ge HI238.out)) | exact HB.out)); rintro e w5 ⟨rfl, hi, hb, hk⟩; refine ⟨_, rfl, ?_⟩; have n0_ := Aside0.mk (hb); have n1_ := Aside0.mk (hi); clear HB; clear BK238; have HB := n0_; have HI238 := n1_; clear n0_ n1_; (try clear hb); (try clear hb2); (try clear hk); (try clear hi)) | ((with_reducible refine gate_callee (f := 108) rfl ?_); refine goesA (some 19) rfl rfl Try.func108 #[.pointer (some ⟨gb238, 0, none⟩)] rfl ?_; (with_reducible refine (spec_l1Cur_times.calls k gb238 l0 t241 t242 t243 t246 t247 w _ ?side1 ?side2 A3.out).mono ?_); (case side1 => repeat (first | (with_reducible first | exact HI238.out | apply IsS140.alloc | apply IsS140.drewN | apply IsS140.drew | apply IsS140.set_1 | apply IsS140.set_2) | exact HI238.out)); (case side2 => repeat (first | (with_reducible first | exact HB.out | apply below_alloc | apply pw_below_drewN | apply below_drew1 | refine below_set ?_ (IsS140.ge HI238.out)) | exact HB.out)); rintro e w6 ⟨v244, rfl, ho0, hi, hb, hk⟩; refine ⟨_, rfl, ?_⟩; have n0_ := Aside0.mk (Kd.R_lower ho0 (below_size (by repeat (first | (with_reducible first | exact HB.out | apply below_alloc | apply pw_below_drewN | apply below_drew1 | refine below_set ?_ (IsS140.ge HI238.out)) | exact HB.out)))); have n1_ := Aside0.mk (hb); have n2_ := Aside0.mk (hi); clear HB; clear HI238; have HO245 := n0_; have HB := n1_; have HI238 := n2_; clear n0_ n1_ n2_; (try clear hb); (try clear hb2); (try clear hk); (try clear hi); (try clear ho0)))
  go_ret3
  exact ⟨_, by first | rfl | (simp [errW_none, errW_some] <;> rfl) | (simp [*, errW_none, errW_some] <;> rfl), by (with_reducible repeat (first | apply Kd.R_alloc | apply Kd.R_drewN | apply Kd.R_drew)); exact HO245.out, by repeat (first | (with_reducible first | exact HB.out | apply below_alloc | apply pw_below_drewN | apply below_drew1 | refine below_set ?_ (IsS140.ge HI238.out)) | exact HB.out)⟩

/-! ### impl_MostIn: function 42 -/
def impl_MostIn.f (a0 : Int) (a1 : Int) (a2 : Int) : Option (Int × Bool) := (impl_isRate.f a0 a1).bind fun t248 => (if t248 = true then ((impl_isTime.f a2).bind fun t249 => (if t249 = true then (if a0 = 0 then (none) else (some (wrap64 (a1 + (wrap64 (Int.tdiv a2 a0))), true))) else (some (0, false)))) else (some (0, false)))
set_option maxHeartbeats 8000000 in
set_option maxRecDepth 100000 in
theorem impl_MostIn.calls (a0 : Int) (a1 : Int) (a2 : Int) (r1 : Int) (r2 : Bool) (w : World) (h : impl_MostIn.f a0 a1 a2 = some (r1, r2)) :
    Calls Try.prog 42 #[.int .i64 a0, .int .i64 a1, .int .i64 a2] w fun e w' => e = .returned (.tuple #[.int .i64 r1, .bool r2]) ∧ Drawn0 w w' := by
  have H : ((impl_isRate.f a0 a1).bind fun t248 => (if t248 = true then ((impl_isTime.f a2).bind fun t249 => (if t249 = true then (if a0 = 0 then (none) else (some (wrap64 (a1 + (wrap64 (Int.tdiv a2 a0))), true))) else (some (0, false)))) else (some (0, false)))) = some (r1, r2) := h
  clear h
  replace H := Option.bind_eq_some_iff.mp H
  obtain ⟨t248, A40, H⟩ := H
  replace H : (if t248 = true then ((impl_isTime.f a2).bind fun t249 => (if t249 = true then (if a0 = 0 then (none) else (some (wrap64 (a1 + (wrap64 (Int.tdiv a2 a0))), true))) else (some (0, false)))) else (some (0, false))) = some (r1, r2) := H
  have A4 := Aside0.mk A40
  clear A40
  by_cases c5 : t248 = true
  · subst c5
    have H1 : ((impl_isTime.f a2).bind fun t249 => (if t249 = true then (if a0 = 0 then (none) else (some (wrap64 (a1 + (wrap64 (Int.tdiv a2 a0))), true))) else (some (0, false)))) = some (r1, r2) := by rw [if_pos rfl] at H; exact H
    clear H
    have H := H1
    clear H1
    replace H := Option.bind_eq_some_iff.mp H
    obtain ⟨t249, A60, H⟩ := H
    replace H : (if t249 = true then (if a0 = 0 then (none) else (some (wrap64 (a1 + (wrap64 (Int.tdiv a2 a0))), true))) else (some (0, false))) = some (r1, r2) := H
    have A6 := Aside0.mk A60
    clear A60
    by_cases c7 : t249 = true
    · subst c7
      have H1 : (if a0 = 0 then (none) else (some (wrap64 (a1 + (wrap64 (Int.tdiv a2 a0))), true))) = some (r1, r2) := by rw [if_pos rfl] at H; exact H
      clear H
      have H := H1
      clear H1
      by_cases c8 : a0 = 0
      · rw [if_pos c8] at H
        exact absurd H (by simp)
      · rw [if_neg c8] at H
        have c8b0 : (a0 == 0) = false := beq_eq_false_iff_ne.mpr c8
        have c8b1 : (a0 != 0) = true := bne_iff_ne.mpr c8
        simp only [Option.some.injEq, Prod.mk.injEq] at H
        obtain ⟨rfl, rfl⟩ := H
        go_enter Try.func42, Try.ntmps42
        go_wp2_with (first | ((with_reducible refine gate_callee (f := 109) rfl ?_); refine goesA (some 10) rfl rfl Try.func109 #[.int .i64 a0, .int .i64 a1] rfl ?_; (with_reducible refine (impl_isRate.calls a0 a1 true _ A4.out).mono ?_); rintro e w' ⟨rfl, ⟨nd, rfl⟩⟩; refine ⟨_, rfl, ?_⟩) | (go_at_call 94; (with_reducible refine (impl_isTime.calls a2 true _ A6.out).mono ?_); rintro e w' ⟨rfl, ⟨nd, rfl⟩⟩))
        go_ret2
        exact ⟨by first | rfl | (simp; done) | (simp [*]; done), by repeat (first | exact Drawn0.refl _ | apply Drawn0.step)⟩
    · replace c7 := Bool.eq_false_iff.mpr c7
      subst c7
      have H1 : (some (0, false)) = some (r1, r2) := by rw [if_neg (show ¬ (false = true) by decide)] at H; exact H
      clear H
      have H := H1
      clear H1
      simp only [Option.some.injEq, Prod.mk.injEq] at H
      obtain ⟨rfl, rfl⟩ := H
      go_enter Try.func42, Try.ntmps42
      go_wp2_with (first | ((with_reducible refine gate_callee (f := 109) rfl ?_); refine goesA (some 10) rfl rfl Try.func109 #[.int .i64 a0, .int .i64 a1] rfl ?_; (with_reducible refine (impl_isRate.calls a0 a1 true _ A4.out).mono ?_); rintro e w' ⟨rfl, ⟨nd, rfl⟩⟩; refine ⟨_, rfl, ?_⟩) | (go_at_call 94; (with_reducible refine (impl_isTime.calls a2 false _ A6.out).mono ?_); rintro e w' ⟨rfl, ⟨nd, rfl⟩⟩))
      go_ret2
      exact ⟨by first | rfl | (simp; done) | (simp [*]; done), by repeat (first | exact Drawn0.refl _ | apply Drawn0.step)⟩
  · replace c5 := Bool.eq_false_iff.mpr c5
    subst c5
    have H1 : (some (0, false)) = some (r1, r2) := by rw [if_neg (show ¬ (false = true) by decide)] at H; exact H
    clear H
    have H := H1
    clear H1
    simp only [Option.some.injEq, Prod.mk.injEq] at H
    obtain ⟨rfl, rfl⟩ := H
    go_enter Try.func42, Try.ntmps42
    go_wp2_with (first | ((with_reducible refine gate_callee (f := 109) rfl ?_); refine goesA (some 10) rfl rfl Try.func109 #[.int .i64 a0, .int .i64 a1] rfl ?_; (with_reducible refine (impl_isRate.calls a0 a1 false _ A4.out).mono ?_); rintro e w' ⟨rfl, ⟨nd, rfl⟩⟩; refine ⟨_, rfl, ?_⟩))
    go_ret2
    exact ⟨by first | rfl | (simp; done) | (simp [*]; done), by repeat (first | exact Drawn0.refl _ | apply Drawn0.step)⟩

/-! ### spec_l1Cur_bucket: function 110 -/
mutual
def spec_l1Cur_bucket.j0 : Nat → List Int → Int → Int → Int → Int → Int → Int → Option (Int × Int × Int × Int × Int × Int)
  | 0, _, _, _, _, _, _, _ => none
  | k + 1, x1000, x1001, x1002, x261000, x261001, x261002, x261003 => (spec_l1Cur_times.f k x1000 x1001 x1002).bind fun bt266 => (spec_l1Cur_bucket.l0 k bt266.1 (bt266.1.length : Int) 0 x1000 bt266.2.1 bt266.2.2 x261000 x261001 x261002 x261003)
def spec_l1Cur_bucket.l0 : Nat → List Int → Int → Int → List Int → Int → Int → Int → Int → Int → Int → Option (Int × Int × Int × Int × Int × Int)
  | 0, _, _, _, _, _, _, _, _, _, _ => none
  | k + 1, x30, x31, x32, x1000, x1001, x1002, x261000, x261001, x261002, x261003 => if x32 < x31 then (if 0 ≤ x32 then (if x32 < (x30.length : Int) then ((spec_AskBucket.f x261000 x261001 x261002 x261003 (rd x30 x32)).bind fun bt272 => (if bt272.2.2.2.2.2 = true then (spec_l1Cur_bucket.l0 k x30 x31 (wrap64 (x32 + 1)) x1000 x1001 x1002 bt272.1 bt272.2.1 bt272.2.2.1 bt272.2.2.2.1) else (spec_l1Cur_bucket.l0 k x30 x31 (wrap64 (x32 + 1)) x1000 x1001 x1002 x261000 x261001 x261002 x261003))) else (none)) else (none)) else ((spec_l1Cur_one.f x1000 x1001 x1002 20).bind fun bt279 => (if bt279.1 = true then ((spec_l1Cur_among.f x1000 bt279.2.1 bt279.2.2 (([(-1), wrap64 (x261000 * x261001), wrap64 ((wrap64 (x261000 * x261001)) + 1)] : List Int))).bind fun bt285 => (some (x261000, x261001, bt285.1, x261003, bt285.2.1, bt285.2.2))) else (some (x261000, x261001, x261002, x261003, bt279.2.1, bt279.2.2))))
end
def spec_l1Cur_bucket.f (k : Nat) (s0_0 : List Int) (s0_1 : Int) (s0_2 : Int) : Option (Int × Int × Int × Int × Int × Int) := (spec_l1Cur_sizes.f s0_0 s0_1 s0_2).bind fun bt251 => ((spec_NewBucket.f bt251.1 bt251.2.1).bind fun bt255 => (if bt255.2.2.2.2 = true then (spec_l1Cur_bucket.j0 k s0_0 bt251.2.2.1 bt251.2.2.2 bt255.1 bt255.2.1 bt255.2.2.1 bt255.2.2.2.1) else ((spec_NewBucket.f 5 2).bind fun bt261 => (spec_l1Cur_bucket.j0 k s0_0 bt251.2.2.1 bt251.2.2.2 bt261.1 bt261.2.1 bt261.2.2.1 bt261.2.2.2.1))))
theorem spec_l1Cur_bucket.mono_l : ∀ k, (∀ y0 y1 y2 y3 y4 y5 y6, LeO (spec_l1Cur_bucket.j0 k y0 y1 y2 y3 y4 y5 y6) (spec_l1Cur_bucket.j0 (k + 1) y0 y1 y2 y3 y4 y5 y6)) ∧ (∀ y0 y1 y2 y3 y4 y5 y6 y7 y8 y9, LeO (spec_l1Cur_bucket.l0 k y0 y1 y2 y3 y4 y5 y6 y7 y8 y9) (spec_l1Cur_bucket.l0 (k + 1) y0 y1 y2 y3 y4 y5 y6 y7 y8 y9))
  | 0 => ⟨fun _ _ _ _ _ _ _ r h => by simp [spec_l1Cur_bucket.j0] at h, fun _ _ _ _ _ _ _ _ _ _ r h => by simp [spec_l1Cur_bucket.l0] at h⟩
  | k + 1 => by
    obtain ⟨ih0, ih1⟩ := spec_l1Cur_bucket.mono_l k
    refine ⟨?_, ?_⟩
    · intro y0 y1 y2 y3 y4 y5 y6
      unfold spec_l1Cur_bucket.j0
      repeat' first
      | (with_reducible exact ih0 _ _ _ _ _ _ _)
      | (with_reducible exact ih1 _ _ _ _ _ _ _ _ _ _)
      | (with_reducible exact spec_l1Cur_times.mono _ _ _ _)
      | (with_reducible exact LeO.refl _)
      | (with_reducible exact LeO.none _)
      | (with_reducible refine LeO.ite ?_ ?_)
      | (with_reducible refine LeO.bind ?_ (fun _ => ?_))
      | exact ih0 _ _ _ _ _ _ _
      | exact ih1 _ _ _ _ _ _ _ _ _ _
      | exact spec_l1Cur_times.mono _ _ _ _
      | exact LeO.none _
      | refine LeO.ite ?_ ?_
      | refine LeO.bind ?_ (fun _ => ?_)
    · intro y0 y1 y2 y3 y4 y5 y6 y7 y8 y9
      unfold spec_l1Cur_bucket.l0
      repeat' first
      | (with_reducible exact ih0 _ _ _ _ _ _ _)
      | (with_reducible exact ih1 _ _ _ _ _ _ _ _ _ _)
      | (with_reducible exact spec_l1Cur_times.mono _ _ _ _)
      | (with_reducible exact LeO.refl _)
      | (with_reducible exact LeO.none _)
      | (with_reducible refine LeO.ite ?_ ?_)
      | (with_reducible refine LeO.bind ?_ (fun _ => ?_))
      | exact ih0 _ _ _ _ _ _ _
      | exact ih1 _ _ _ _ _ _ _ _ _ _
      | exact spec_l1Cur_times.mono _ _ _ _
      | exact LeO.none _
      | refine LeO.ite ?_ ?_
      | refine LeO.bind ?_ (fun _ => ?_)
theorem spec_l1Cur_bucket.mono : ∀ a0 a1 a2 k, LeO (spec_l1Cur_bucket.f k a0 a1 a2) (spec_l1Cur_bucket.f (k + 1) a0 a1 a2) := by
  intro a0 a1 a2 k
  obtain ⟨ih0, ih1⟩ := spec_l1Cur_bucket.mono_l k
  unfold spec_l1Cur_bucket.f
  repeat' first
      | (with_reducible exact ih0 _ _ _ _ _ _ _)
      | (with_reducible exact ih1 _ _ _ _ _ _ _ _ _ _)
      | (with_reducible exact spec_l1Cur_times.mono _ _ _ _)
      | (with_reducible exact LeO.refl _)
      | (with_reducible exact LeO.none _)
      | (with_reducible refine LeO.ite ?_ ?_)
      | (with_reducible refine LeO.bind ?_ (fun _ => ?_))
      | exact ih0 _ _ _ _ _ _ _
      | exact ih1 _ _ _ _ _ _ _ _ _ _
      | exact spec_l1Cur_times.mono _ _ _ _
      | exact LeO.none _
      | refine LeO.ite ?_ ?_
      | refine LeO.bind ?_ (fun _ => ?_)
set_option maxHeartbeats 8000000 in
set_option maxRecDepth 100000 in
theorem spec_l1Cur_bucket.calls (k : Nat) (g : Nat) (s0_0 : List Int) (s0_1 : Int) (s0_2 : Int) (r1 : Int) (r2 : Int) (r3 : Int) (r4 : Int) (r5 : Int) (r6 : Int) (w0 w : World) (hI : IsS140 w0 w g s0_0 s0_1 s0_2) (hB : Below w0.heap.size w0 w) (h : spec_l1Cur_bucket.f k s0_0 s0_1 s0_2 = some (r1, r2, r3, r4, r5, r6)) :
    Calls Try.prog 110 #[.pointer (some ⟨g, 0, none⟩)] w fun e w' => e = .returned (.agg #[.int .i64 r1, .int .i64 r2, .int .i64 r3, .int .i64 r4]) ∧ IsS140 w0 w' g s0_0 r5 r6 ∧ Below w0.heap.size w0 w' ∧ KeepBut w w' g none := by
  have hu68 := Try.underlying68
  have HI0 := Aside0.mk hI
  have HK := Aside0.mk (KeepBut.refl w g none)
  have HL := Aside0.mk hB.size
  clear hI
  have HW0 := Aside0.mk hB.size
  have HB := Aside0.mk hB
  clear hB
  have H : ((spec_l1Cur_sizes.f s0_0 s0_1 s0_2).bind fun bt251 => ((spec_NewBucket.f bt251.1 bt251.2.1).bind fun bt255 => (if bt255.2.2.2.2 = true then (spec_l1Cur_bucket.j0 k s0_0 bt251.2.2.1 bt251.2.2.2 bt255.1 bt255.2.1 bt255.2.2.1 bt255.2.2.2.1) else ((spec_NewBucket.f 5 2).bind fun bt261 => (spec_l1Cur_bucket.j0 k s0_0 bt251.2.2.1 bt251.2.2.2 bt261.1 bt261.2.1 bt261.2.2.1 bt261.2.2.2.1))))) = some (r1, r2, r3, r4, r5, r6) := h
  clear h
  replace H := Option.bind_eq_some_iff.mp H
  obtain ⟨⟨t251, t252, t253, t254⟩, A20, H⟩ := H
  replace H : ((spec_NewBucket.f t251 t252).bind fun bt255 => (if bt255.2.2.2.2 = true then (spec_l1Cur_bucket.j0 k s0_0 t253 t254 bt255.1 bt255.2.1 bt255.2.2.1 bt255.2.2.2.1) else ((spec_NewBucket.f 5 2).bind fun bt261 => (spec_l1Cur_bucket.j0 k s0_0 t253 t254 bt261.1 bt261.2.1 bt261.2.2.1 bt261.2.2.2.1)))) = some (r1, r2, r3, r4, r5, r6) := H
  have A2 := Aside0.mk A20
  clear A20
  replace H := Option.bind_eq_some_iff.mp H
  obtain ⟨⟨t255, t256, t257, t258, t259⟩, A30, H⟩ := H
  replace H : (if t259 = true then (spec_l1Cur_bucket.j0 k s0_0 t253 t254 t255 t256 t257 t258) else ((spec_NewBucket.f 5 2).bind fun bt261 => (spec_l1Cur_bucket.j0 k s0_0 t253 t254 bt261.1 bt261.2.1 bt261.2.2.1 bt261.2.2.2.1))) = some (r1, r2, r3, r4, r5, r6) := H
  have A3 := Aside0.mk A30
  clear A30
  have HC4 := Aside0.mk H
  clear H
  go_enter Try.func110, Try.ntmps110
  go_upto_if 24 with (first | ((with_reducible refine gate_dst (N := 2) rfl ?_); refine box_event ?hg (N := 2) ?hd (cs := #[.int .i64 0, .int .i64 0, .int .i64 0, .int .i64 0]) (t := 68) ?hr ?_; (case hd => rfl); (case hg => rfl); (case hr => first | (go_simp; done) | (go_simp; rfl)); intro gb250 hg w5 hbox hb; have n0_ := Aside0.mk (IsS140.below (by repeat (first | (with_reducible first | exact HI0.out | apply IsS140.alloc | apply IsS140.drewN | apply IsS140.drew | apply IsS140.set_1 | apply IsS140.set_2) | exact HI0.out)) hb); have n1_ := Aside0.mk (KeepBut.trans (by repeat (first | (with_reducible first | exact HK.out | apply KeepBut.set_ | apply keep_drewN | apply keep_drew | apply keep_alloc) | exact HK.out)) (KeepBut.of_below hb g none) (.inl rfl)); have n2_ := Aside0.mk (below_step (by repeat (first | (with_reducible first | exact HB.out | apply below_alloc | apply pw_below_drewN | apply below_drew1 | refine below_set ?_ (IsS140.ge HI0.out)) | exact HB.out)) hb); have n3_ := Aside0.mk (hbox); have n4_ := Aside0.mk ((by rw [hg]; exact (keep_size (w := w) (g := g) (row := none) (by repeat (first | (with_reducible first | exact HK.out | apply KeepBut.set_ | apply keep_drewN | apply keep_drew | apply keep_alloc) | exact HK.out))) : w.heap.size ≤ gb250)); have n5_ := Aside0.mk ((Nat.le_trans HW0.out (by rw [hg]; exact (keep_size (w := w) (g := g) (row := none) (by repeat (first | (with_reducible first | exact HK.out | apply KeepBut.set_ | apply keep_drewN | apply keep_drew | apply keep_alloc) | exact HK.out))) : w.heap.size ≤ gb250) : w0.heap.size ≤ gb250)); have n6_ := Aside0.mk ((by rw [hg]; exact Nat.ne_of_lt (IsS140.lt (show IsS140 w0 _ g s0_0 s0_1 s0_2 from by repeat (first | (with_reducible first | exact HI0.out | apply IsS140.alloc | apply IsS140.drewN | apply IsS140.drew | apply IsS140.set_1 | apply IsS140.set_2) | exact HI0.out))) : g ≠ gb250)); have n7_ := Aside0.mk ((by rw [hg]; exact Nat.ne_of_gt (IsS140.lt (show IsS140 w0 _ g s0_0 s0_1 s0_2 from by repeat (first | (with_reducible first | exact HI0.out | apply IsS140.alloc | apply IsS140.drewN | apply IsS140.drew | apply IsS140.set_1 | apply IsS140.set_2) | exact HI0.out))) : gb250 ≠ g)); clear HI0; clear HK; clear HB; have HI0 := n0_; have HK := n1_; have HB := n2_; have BK250 := n3_; have GW250 := n4_; have GE250 := n5_; have NB0_250 := n6_; have NB250_0 := n7_; clear n0_ n1_ n2_ n3_ n4_ n5_ n6_ n7_; clear hb hbox hg) | ((with_reducible refine gate_callee (f := 107) rfl ?_); refine goesA (some 14) rfl rfl Try.func107 #[.pointer (some ⟨g, 0, none⟩)] rfl ?_; (with_reducible refine (spec_l1Cur_sizes.calls g s0_0 s0_1 s0_2 t251 t252 t253 t254 w0 _ ?side1 ?side2 A2.out).mono ?_); (case side1 => repeat (first | (with_reducible first | exact HI0.out | apply IsS140.alloc | apply IsS140.drewN | apply IsS140.drew | apply IsS140.set_1 | apply IsS140.set_2 | refine IsS140.far ?_ NB0_250.out _) | exact HI0.out)); (case side2 => repeat (first | (with_reducible first | exact HB.out | apply below_alloc | apply pw_below_drewN | apply below_drew1 | refine below_set ?_ (IsS140.ge HI0.out) | refine below_set ?_ GE250.out) | exact HB.out)); rintro e w6 ⟨rfl, hi, hb, hk⟩; refine ⟨_, rfl, ?_⟩; have n0_ := Aside0.mk (KeepBut.blk hk (g' := gb250) (o := .cells #[.int .i64 0, .int .i64 0, .int .i64 0, .int .i64 0] 68 (0, 0)) (by (with_reducible repeat (first | refine blk_drewN ?_ _ | refine blk_drew ?_ | refine blk_alloc ?_ _)); exact BK250.out) NB250_0.out (by simp)); have n1_ := Aside0.mk (KeepBut.trans (by repeat (first | (with_reducible first | exact HK.out | apply KeepBut.set_ | apply keep_drewN | apply keep_drew | apply keep_alloc | refine keep_far ?_ GW250.out _) | exact HK.out)) hk (.inl rfl)); have n2_ := Aside0.mk (hb); have n3_ := Aside0.mk (hi); clear BK250; clear HK; clear HB; clear HI0; have BK250 := n0_; have HK := n1_; have HB := n2_; have HI0 := n3_; clear n0_ n1_ n2_ n3_; (try clear hb); (try clear hb2); (try clear hk); (try clear hi)) | ((with_reducible refine gate_callee (f := 104) rfl ?_); refine goesA (some 20) rfl rfl Try.func104 #[.int .i64 t251, .int .i64 t252] rfl ?_; (with_reducible refine (spec_NewBucket.calls t251 t252 t255 t256 t257 t258 t259 _ A3.out).mono ?_); rintro e w7 ⟨rfl, hb⟩; refine ⟨_, rfl, ?_⟩; have n0_ := Aside0.mk (IsS140.below (by repeat (first | (with_reducible first | exact HI0.out | apply IsS140.alloc | apply IsS140.drewN | apply IsS140.drew | apply IsS140.set_1 | apply IsS140.set_2 | refine IsS140.far ?_ NB0_250.out _) | exact HI0.out)) hb); have n1_ := Aside0.mk (blk_below (g := gb250) (o := .cells #[.int .i64 0, .int .i64 0, .int .i64 0, .int .i64 0] 68 (0, 0)) (by (with_reducible repeat (first | refine blk_drewN ?_ _ | refine blk_drew ?_ | refine blk_alloc ?_ _)); exact BK250.out) hb); have n2_ := Aside0.mk (KeepBut.trans (by repeat (first | (with_reducible first | exact HK.out | apply KeepBut.set_ | apply keep_drewN | apply keep_drew | apply keep_alloc | refine keep_far ?_ GW250.out _) | exact HK.out)) (KeepBut.of_below hb g none) (.inl rfl)); have n3_ := Aside0.mk (below_step (by repeat (first | (with_reducible first | exact HB.out | apply below_alloc | apply pw_below_drewN | apply below_drew1 | refine below_set ?_ (IsS140.ge HI0.out) | refine below_set ?_ GE250.out) | exact HB.out)) hb); clear HI0; clear BK250; clear HK; clear HB; have HI0 := n0_; have BK250 := n1_; have HK := n2_; have HB := n3_; clear n0_ n1_ n2_ n3_; (try clear hb); (try clear hb2); (try clear hk); (try clear hi)) | ((with_reducible refine gate_dst (N := 5) rfl ?_); refine box_event ?hg (N := 5) ?hd (cs := #[.int .i64 0, .int .i64 0, .int .i64 0, .int .i64 0]) (t := 68) ?hr ?_; (case hd => rfl); (case hg => rfl); (case hr => first | (go_simp; done) | (go_simp; rfl)); intro gb260 hg w8 hbox hb; have n0_ := Aside0.mk (IsS140.below (by repeat (first | (with_reducible first | exact HI0.out | apply IsS140.alloc | apply IsS140.drewN | apply IsS140.drew | apply IsS140.set_1 | apply IsS140.set_2 | refine IsS140.far ?_ NB0_250.out _) | exact HI0.out)) hb); have n1_ := Aside0.mk (blk_below (g := gb250) (o := .cells #[.int .i64 0, .int .i64 0, .int .i64 0, .int .i64 0] 68 (0, 0)) (by (with_reducible repeat (first | refine blk_drewN ?_ _ | refine blk_drew ?_ | refine blk_alloc ?_ _)); exact BK250.out) hb); have n2_ := Aside0.mk (KeepBut.trans (by repeat (first | (with_reducible first | exact HK.out | apply KeepBut.set_ | apply keep_drewN | apply keep_drew | apply keep_alloc | refine keep_far ?_ GW250.out _) | exact HK.out)) (KeepBut.of_below hb g none) (.inl rfl)); have n3_ := Aside0.mk (below_step (by repeat (first | (with_reducible first | exact HB.out | apply below_alloc | apply pw_below_drewN | apply below_drew1 | refine below_set ?_ (IsS140.ge HI0.out) | refine below_set ?_ GE250.out) | exact HB.out)) hb); have n4_ := Aside0.mk (hbox); have n5_ := Aside0.mk ((by rw [hg]; exact (keep_size (w := w) (g := g) (row := none) (by repeat (first | (with_reducible first | exact HK.out | apply KeepBut.set_ | apply keep_drewN | apply keep_drew | apply keep_alloc | refine keep_far ?_ GW250.out _) | exact HK.out))) : w.heap.size ≤ gb260)); have n6_ := Aside0.mk ((Nat.le_trans HW0.out (by rw [hg]; exact (keep_size (w := w) (g := g) (row := none) (by repeat (first | (with_reducible first | exact HK.out | apply KeepBut.set_ | apply keep_drewN | apply keep_drew | apply keep_alloc | refine keep_far ?_ GW250.out _) | exact HK.out))) : w.heap.size ≤ gb260) : w0.heap.size ≤ gb260)); have n7_ := Aside0.mk ((by rw [hg]; exact Nat.ne_of_lt (blk_lt (g := gb250) (o := .cells #[.int .i64 0, .int .i64 0, .int .i64 0, .int .i64 0] 68 (0, 0)) (by (with_reducible repeat (first | refine blk_drewN ?_ _ | refine blk_drew ?_ | refine blk_alloc ?_ _)); exact BK250.out)) : gb250 ≠ gb260)); have n8_ := Aside0.mk ((by rw [hg]; exact Nat.ne_of_gt (blk_lt (g := gb250) (o := .cells #[.int .i64 0, .int .i64 0, .int .i64 0, .int .i64 0] 68 (0, 0)) (by (with_reducible repeat (first | refine blk_drewN ?_ _ | refine blk_drew ?_ | refine blk_alloc ?_ _)); exact BK250.out)) : gb260 ≠ gb250)); have n9_ := Aside0.mk ((by rw [hg]; exact Nat.ne_of_lt (IsS140.lt (show IsS140 w0 _ g s0_0 t253 t254 from by repeat (first | (with_reducible first | exact HI0.out | apply IsS140.alloc | apply IsS140.drewN | apply IsS140.drew | apply IsS140.set_1 | apply IsS140.set_2 | refine IsS140.far ?_ NB0_250.out _) | exact HI0.out))) : g ≠ gb260)); have n10_ := Aside0.mk ((by rw [hg]; exact Nat.ne_of_gt (IsS140.lt (show IsS140 w0 _ g s0_0 t253 t254 from by repeat (first | (with_reducible first | exact HI0.out | apply IsS140.alloc | apply IsS140.drewN | apply IsS140.drew | apply IsS140.set_1 | apply IsS140.set_2 | refine IsS140.far ?_ NB0_250.out _) | exact HI0.out))) : gb260 ≠ g)); clear HI0; clear BK250; clear HK; clear HB; have HI0 := n0_; have BK250 := n1_; have HK := n2_; have HB := n3_; have BK260 := n4_; have GW260 := n5_; have GE260 := n6_; have NB250_260 := n7_; have NB260_250 := n8_; have NB0_260 := n9_; have NB260_0 := n10_; clear n0_ n1_ n2_ n3_ n4_ n5_ n6_ n7_ n8_ n9_ n10_; clear hb hbox hg; have hnb9 := NB260_250.out; have hnc9 := NB250_260.out; have hnb10 := NB260_0.out; have hnc10 := NB0_260.out; have hcz11_0 : w8.cell? ⟨gb260, 0, none⟩ = some (.int .i64 0) := (blk_cell BK260.out 0).trans rfl; have hcz11_1 : w8.cell? ⟨gb260, 1, none⟩ = some (.int .i64 0) := (blk_cell BK260.out 1).trans rfl; have hcz11_2 : w8.cell? ⟨gb260, 2, none⟩ = some (.int .i64 0) := (blk_cell BK260.out 2).trans rfl; have hcz11_3 : w8.cell? ⟨gb260, 3, none⟩ = some (.int .i64 0) := (blk_cell BK260.out 3).trans rfl; have hfz11_0 := blk_frozen BK260.out 0; have hfz11_1 := blk_frozen BK260.out 1; have hfz11_2 := blk_frozen BK260.out 2; have hfz11_3 := blk_frozen BK260.out 3))
  (try simp only [Act.put, List.setIfInBounds_toArray, List.set_cons_zero, List.set_cons_succ])
  go_cut [] (fun wc => ∃ (kq : Nat) (x261000_3 : Int) (x261001_3 : Int) (x261002_3 : Int) (x261003_3 : Int), Aside0 (spec_l1Cur_bucket.j0 kq s0_0 t253 t254 x261000_3 x261001_3 x261002_3 x261003_3 = some (r1, r2, r3, r4, r5, r6)) ∧ Aside0 (kq ≤ k) ∧ Aside0 (wc.heap[gb250]? = some (.cells #[.int .i64 0, .int .i64 0, .int .i64 0, .int .i64 0] 68 (0, 0))) ∧ Aside0 (wc.heap[gb260]? = some (.cells #[.int .i64 x261000_3, .int .i64 x261001_3, .int .i64 x261002_3, .int .i64 x261003_3] 68 (0, 0))) ∧ Aside0 (IsS140 w0 wc g s0_0 t253 t254) ∧ Aside0 (KeepBut w wc g none) ∧ Aside0 (Below w0.heap.size w0 wc))
  case first =>
    have H := HC4.out
    clear HC4
    by_cases c12 : t259 = true
    · subst c12
      have H1 : (spec_l1Cur_bucket.j0 k s0_0 t253 t254 t255 t256 t257 t258) = some (r1, r2, r3, r4, r5, r6) := by rw [if_pos rfl] at H; exact H
      clear H
      have H := H1
      clear H1
      have H' := Aside0.mk H
      clear H
      go_wp2
      go_meet
      case rel => exact ⟨_, (t255), (t256), (t257), (t258), H', ⟨by first | omega | exact Nat.le_refl _⟩, ⟨by (with_reducible repeat (first | refine blk_drewN ?_ _ | refine blk_drew ?_ | refine blk_alloc ?_ _)); refine blk_far ?_ NB250_260.out _; (with_reducible repeat (first | refine blk_drewN ?_ _ | refine blk_drew ?_ | refine blk_alloc ?_ _)); refine blk_far ?_ NB250_260.out _; (with_reducible repeat (first | refine blk_drewN ?_ _ | refine blk_drew ?_ | refine blk_alloc ?_ _)); refine blk_far ?_ NB250_260.out _; (with_reducible repeat (first | refine blk_drewN ?_ _ | refine blk_drew ?_ | refine blk_alloc ?_ _)); refine blk_far ?_ NB250_260.out _; (with_reducible repeat (first | refine blk_drewN ?_ _ | refine blk_drew ?_ | refine blk_alloc ?_ _)); exact BK250.out⟩, ⟨by (with_reducible repeat (first | refine blk_drewN ?_ _ | refine blk_drew ?_ | refine blk_alloc ?_ _)); refine blk_put (cs := #[.int .i64 t255, .int .i64 t256, .int .i64 t257, .int .i64 0]) ?_ 3 _ rfl; (with_reducible repeat (first | refine blk_drewN ?_ _ | refine blk_drew ?_ | refine blk_alloc ?_ _)); refine blk_put (cs := #[.int .i64 t255, .int .i64 t256, .int .i64 0, .int .i64 0]) ?_ 2 _ rfl; (with_reducible repeat (first | refine blk_drewN ?_ _ | refine blk_drew ?_ | refine blk_alloc ?_ _)); refine blk_put (cs := #[.int .i64 t255, .int .i64 0, .int .i64 0, .int .i64 0]) ?_ 1 _ rfl; (with_reducible repeat (first | refine blk_drewN ?_ _ | refine blk_drew ?_ | refine blk_alloc ?_ _)); refine blk_put (cs := #[.int .i64 0, .int .i64 0, .int .i64 0, .int .i64 0]) ?_ 0 _ rfl; (with_reducible repeat (first | refine blk_drewN ?_ _ | refine blk_drew ?_ | refine blk_alloc ?_ _)); exact BK260.out⟩, ⟨by repeat (first | (with_reducible first | exact HI0.out | apply IsS140.alloc | apply IsS140.drewN | apply IsS140.drew | apply IsS140.set_1 | apply IsS140.set_2 | refine IsS140.far ?_ NB0_250.out _ | refine IsS140.far ?_ NB0_260.out _) | exact HI0.out)⟩, ⟨by repeat (first | (with_reducible first | exact HK.out | apply KeepBut.set_ | apply keep_drewN | apply keep_drew | apply keep_alloc | refine keep_far ?_ GW250.out _ | refine keep_far ?_ GW260.out _) | exact HK.out)⟩, ⟨by repeat (first | (with_reducible first | exact HB.out | apply below_alloc | apply pw_below_drewN | apply below_drew1 | refine below_set ?_ (IsS140.ge HI0.out) | refine below_set ?_ GE250.out | refine below_set ?_ GE260.out) | exact HB.out)⟩⟩
    · replace c12 := Bool.eq_false_iff.mpr c12
      subst c12
      have H1 : ((spec_NewBucket.f 5 2).bind fun bt261 => (spec_l1Cur_bucket.j0 k s0_0 t253 t254 bt261.1 bt261.2.1 bt261.2.2.1 bt261.2.2.2.1)) = some (r1, r2, r3, r4, r5, r6) := by rw [if_neg (show ¬ (false = true) by decide)] at H; exact H
      clear H
      have H := H1
      clear H1
      replace H := Option.bind_eq_some_iff.mp H
      obtain ⟨⟨t261, t262, t263, t264, t265⟩, A130, H⟩ := H
      replace H : (spec_l1Cur_bucket.j0 k s0_0 t253 t254 t261 t262 t263 t264) = some (r1, r2, r3, r4, r5, r6) := H
      have A13 := Aside0.mk A130
      clear A130
      have H' := Aside0.mk H
      clear H
      go_wp2_with (first | ((with_reducible refine gate_callee (f := 104) rfl ?_); refine goesA (some 26) rfl rfl Try.func104 #[.int .i64 5, .int .i64 2] rfl ?_; (with_reducible refine (spec_NewBucket.calls 5 2 t261 t262 t263 t264 t265 _ A13.out).mono ?_); rintro e w14 ⟨rfl, hb⟩; refine ⟨_, rfl, ?_⟩; have n0_ := Aside0.mk (IsS140.below (show IsS140 w0 ((((w8.setCell ⟨gb260, 0, none⟩ (.int .i64 t255)).setCell ⟨gb260, 1, none⟩ (.int .i64 t256)).setCell ⟨gb260, 2, none⟩ (.int .i64 t257)).setCell ⟨gb260, 3, none⟩ (.int .i64 t258)) g s0_0 t253 t254 from by repeat (first | (with_reducible first | exact HI0.out | apply IsS140.alloc | apply IsS140.drewN | apply IsS140.drew | apply IsS140.set_1 | apply IsS140.set_2 | refine IsS140.far ?_ NB0_250.out _ | refine IsS140.far ?_ NB0_260.out _) | exact HI0.out)) hb); have n1_ := Aside0.mk (blk_below (g := gb250) (o := .cells #[.int .i64 0, .int .i64 0, .int .i64 0, .int .i64 0] 68 (0, 0)) (by (with_reducible repeat (first | refine blk_drewN ?_ _ | refine blk_drew ?_ | refine blk_alloc ?_ _)); refine blk_far ?_ NB250_260.out _; (with_reducible repeat (first | refine blk_drewN ?_ _ | refine blk_drew ?_ | refine blk_alloc ?_ _)); refine blk_far ?_ NB250_260.out _; (with_reducible repeat (first | refine blk_drewN ?_ _ | refine blk_drew ?_ | refine blk_alloc ?_ _)); refine blk_far ?_ NB250_260.out _; (with_reducible repeat (first | refine blk_drewN ?_ _ | refine blk_drew ?_ | refine blk_alloc ?_ _)); refine blk_far ?_ NB250_260.out _; (with_reducible repeat (first | refine blk_drewN ?_ _ | refine blk_drew ?_ | refine blk_alloc ?_ _)); exact BK250.out) hb); have n2_ := Aside0.mk (blk_below (g := gb260) (o := .cells #[.int .i64 t255, .int .i64 t256, .int .i64 t257, .int .i64 t258] 68 (0, 0)) (by (with_reducible repeat (first | refine blk_drewN ?_ _ | refine blk_drew ?_ | refine blk_alloc ?_ _)); refine blk_put (cs := #[.int .i64 t255, .int .i64 t256, .int .i64 t257, .int .i64 0]) ?_ 3 _ rfl; (with_reducible repeat (first | refine blk_drewN ?_ _ | refine blk_drew ?_ | refine blk_alloc ?_ _)); refine blk_put (cs := #[.int .i64 t255, .int .i64 t256, .int .i64 0, .int .i64 0]) ?_ 2 _ rfl; (with_reducible repeat (first | refine blk_drewN ?_ _ | refine blk_drew ?_ | refine blk_alloc ?_ _)); refine blk_put (cs := #[.int .i64 t255, .int .i64 0, .int .i64 0, .int .i64 0]) ?_ 1 _ rfl; (with_reducible repeat (first | refine blk_drewN ?_ _ | refine blk_drew ?_ | refine blk_alloc ?_ _)); refine blk_put (cs := #[.int .i64 0, .int .i64 0, .int .i64 0, .int .i64 0]) ?_ 0 _ rfl; (with_reducible repeat (first | refine blk_drewN ?_ _ | refine blk_drew ?_ | refine blk_alloc ?_ _)); exact BK260.out) hb); have n3_ := Aside0.mk (KeepBut.trans (by repeat (first | (with_reducible first | exact HK.out | apply KeepBut.set_ | apply keep_drewN | apply keep_drew | apply keep_alloc | refine keep_far ?_ GW250.out _ | refine keep_far ?_ GW260.out _) | exact HK.out)) (KeepBut.of_below hb g none) (.inl rfl)); have n4_ := Aside0.mk (below_step (by repeat (first | (with_reducible first | exact HB.out | apply below_alloc | apply pw_below_drewN | apply below_drew1 | refine below_set ?_ (IsS140.ge HI0.out) | refine below_set ?_ GE250.out | refine below_set ?_ GE260.out) | exact HB.out)) hb); clear HI0; clear BK250; clear BK260; clear HK; clear HB; have HI0 := n0_; have BK250 := n1_; have BK260 := n2_; have HK := n3_; have HB := n4_; clear n0_ n1_ n2_ n3_ n4_; (try clear hb); (try clear hb2); (try clear hk); (try clear hi); have hnb15 := NB260_250.out; have hnc15 := NB250_260.out; have hnb16 := NB260_0.out; have hnc16 := NB0_260.out; have hcz17_0 : w14.cell? ⟨gb260, 0, none⟩ = some (.int .i64 t255) := (blk_cell BK260.out 0).trans rfl; have hcz17_1 : w14.cell? ⟨gb260, 1, none⟩ = some (.int .i64 t256) := (blk_cell BK260.out 1).trans rfl; have hcz17_2 : w14.cell? ⟨gb260, 2, none⟩ = some (.int .i64 t257) := (blk_cell BK260.out 2).trans rfl; have hcz17_3 : w14.cell? ⟨gb260, 3, none⟩ = some (.int .i64 t258) := (blk_cell BK260.out 3).trans rfl; have hfz17_0 := blk_frozen BK260.out 0; have hfz17_1 := blk_frozen BK260.out 1; have hfz17_2 := blk_frozen BK260.out 2; have hfz17_3 := blk_frozen BK260.out 3))
      go_meet
      case rel => exact ⟨_, (t261), (t262), (t263), (t264), H', ⟨by first | omega | exact Nat.le_refl _⟩, ⟨by (with_reducible repeat (first | refine blk_drewN ?_ _ | refine blk_drew ?_ | refine blk_alloc ?_ _)); refine blk_far ?_ NB250_260.out _; (with_reducible repeat (first | refine blk_drewN ?_ _ | refine blk_drew ?_ | refine blk_alloc ?_ _)); refine blk_far ?_ NB250_260.out _; (with_reducible repeat (first | refine blk_drewN ?_ _ | refine blk_drew ?_ | refine blk_alloc ?_ _)); refine blk_far ?_ NB250_260.out _; (with_reducible repeat (first | refine blk_drewN ?_ _ | refine blk_drew ?_ | refine blk_alloc ?_ _)); refine blk_far ?_ NB250_260.out _; (with_reducible repeat (first | refine blk_drewN ?_ _ | refine blk_drew ?_ | refine blk_alloc ?_ _)); exact BK250.out⟩, ⟨by (with_reducible repeat (first | refine blk_drewN ?_ _ | refine blk_drew ?_ | refine blk_alloc ?_ _)); refine blk_put (cs := #[.int .i64 t261, .int .i64 t262, .int .i64 t263, .int .i64 t258]) ?_ 3 _ rfl; (with_reducible repeat (first | refine blk_drewN ?_ _ | refine blk_drew ?_ | refine blk_alloc ?_ _)); refine blk_put (cs := #[.int .i64 t261, .int .i64 t262, .int .i64 t257, .int .i64 t258]) ?_ 2 _ rfl; (with_reducible repeat (first | refine blk_drewN ?_ _ | refine blk_drew ?_ | refine blk_alloc ?_ _)); refine blk_put (cs := #[.int .i64 t261, .int .i64 t256, .int .i64 t257, .int .i64 t258]) ?_ 1 _ rfl; (with_reducible repeat (first | refine blk_drewN ?_ _ | refine blk_drew ?_ | refine blk_alloc ?_ _)); refine blk_put (cs := #[.int .i64 t255, .int .i64 t256, .int .i64 t257, .int .i64 t258]) ?_ 0 _ rfl; (with_reducible repeat (first | refine blk_drewN ?_ _ | refine blk_drew ?_ | refine blk_alloc ?_ _)); exact BK260.out⟩, ⟨by repeat (first | (with_reducible first | exact HI0.out | apply IsS140.alloc | apply IsS140.drewN | apply IsS140.drew | apply IsS140.set_1 | apply IsS140.set_2 | refine IsS140.far ?_ NB0_250.out _ | refine IsS140.far ?_ NB0_260.out _) | exact HI0.out)⟩, ⟨by repeat (first | (with_reducible first | exact HK.out | apply KeepBut.set_ | apply keep_drewN | apply keep_drew | apply keep_alloc | refine keep_far ?_ GW250.out _ | refine keep_far ?_ GW260.out _) | exact HK.out)⟩, ⟨by repeat (first | (with_reducible first | exact HB.out | apply below_alloc | apply pw_below_drewN | apply below_drew1 | refine below_set ?_ (IsS140.ge HI0.out) | refine below_set ?_ GE250.out | refine below_set ?_ GE260.out) | exact HB.out)⟩⟩
  case rest =>
    clear HC4
    try clear c1
    try clear p2
    try clear c9
    try clear c10
    try clear c11
    try clear c12
    try clear c15
    try clear c16
    try clear hcz11_0
    try clear hcz11_1
    try clear hcz11_2
    try clear hcz11_3
    try clear hcz17_0
    try clear hcz17_1
    try clear hcz17_2
    try clear hcz17_3
    try clear hfz11_0
    try clear hfz11_1
    try clear hfz11_2
    try clear hfz11_3
    try clear hfz17_0
    try clear hfz17_1
    try clear hfz17_2
    try clear hfz17_3
    obtain ⟨kq, x261000_3, x261001_3, x261002_3, x261003_3, HA, HJ3, BK250, BK260, HI0, HK, HB⟩ := hcut
    cases kq with
    | zero => exact absurd HA.out (by simp [spec_l1Cur_bucket.j0])
    | succ kj3 =>
      have H := HA.out
      clear HA
      simp only [spec_l1Cur_bucket.j0] at H
      replace H := Option.bind_eq_some_iff.mp H
      obtain ⟨⟨t266, t269, t270⟩, A180, H⟩ := H
      replace H : (spec_l1Cur_bucket.l0 kj3 t266 (t266.length : Int) 0 s0_0 t269 t270 x261000_3 x261001_3 x261002_3 x261003_3) = some (r1, r2, r3, r4, r5, r6) := H
      have A18 := Aside0.mk A180
      clear A180
      have H' := Aside0.mk H
      clear H
      go_wp2_with (first | ((with_reducible refine gate_callee (f := 108) rfl ?_); refine goesA (some 30) rfl rfl Try.func108 #[.pointer (some ⟨g, 0, none⟩)] rfl ?_; (with_reducible refine (spec_l1Cur_times.calls kj3 g s0_0 t253 t254 t266 t269 t270 w0 _ ?side1 ?side2 A18.out).mono ?_); (case side1 => repeat (first | (with_reducible first | exact HI0.out | apply IsS140.alloc | apply IsS140.drewN | apply IsS140.drew | apply IsS140.set_1 | apply IsS140.set_2 | refine IsS140.far ?_ NB0_250.out _ | refine IsS140.far ?_ NB0_260.out _) | exact HI0.out)); (case side2 => repeat (first | (with_reducible first | exact HB.out | apply below_alloc | apply pw_below_drewN | apply below_drew1 | refine below_set ?_ (IsS140.ge HI0.out) | refine below_set ?_ GE250.out | refine below_set ?_ GE260.out) | exact HB.out)); rintro e w19 ⟨v267, rfl, ho0, hi, hb, hk⟩; refine ⟨_, rfl, ?_⟩; have n0_ := Aside0.mk (KeepBut.blk hk (g' := gb250) (o := .cells #[.int .i64 0, .int .i64 0, .int .i64 0, .int .i64 0] 68 (0, 0)) (by (with_reducible repeat (first | refine blk_drewN ?_ _ | refine blk_drew ?_ | refine blk_alloc ?_ _)); exact BK250.out) NB250_0.out (by simp)); have n1_ := Aside0.mk (KeepBut.blk hk (g' := gb260) (o := .cells #[.int .i64 x261000_3, .int .i64 x261001_3, .int .i64 x261002_3, .int .i64 x261003_3] 68 (0, 0)) (by (with_reducible repeat (first | refine blk_drewN ?_ _ | refine blk_drew ?_ | refine blk_alloc ?_ _)); exact BK260.out) NB260_0.out (by simp)); have n2_ := Aside0.mk (Kd.R_lower ho0 (keep_size (w := w) (g := g) (row := none) (by repeat (first | (with_reducible first | exact HK.out | apply KeepBut.set_ | apply keep_drewN | apply keep_drew | apply keep_alloc | refine keep_far ?_ GW250.out _ | refine keep_far ?_ GW260.out _) | exact HK.out)))); have n3_ := Aside0.mk (KeepBut.trans (by repeat (first | (with_reducible first | exact HK.out | apply KeepBut.set_ | apply keep_drewN | apply keep_drew | apply keep_alloc | refine keep_far ?_ GW250.out _ | refine keep_far ?_ GW260.out _) | exact HK.out)) hk (.inl rfl)); have n4_ := Aside0.mk (hb); have n5_ := Aside0.mk (hi); clear BK250; clear BK260; clear HK; clear HB; clear HI0; have BK250 := n0_; have BK260 := n1_; have HO268 := n2_; have HK := n3_; have HB := n4_; have HI0 := n5_; clear n0_ n1_ n2_ n3_ n4_ n5_; (try clear hb); (try clear hb2); (try clear hk); (try clear hi); (try clear ho0); obtain ⟨Ao20, co20, eo20⟩ := Kd.R_slice HO268.out; subst eo20))
      go_loopg [32] kj3 (fun kq v32 w' => ∃ (x32_2 : Int) (x261000_2 : Int) (x261001_2 : Int) (x261002_2 : Int) (x261003_2 : Int), v32 = .int .i64 x32_2 ∧ Aside0 (spec_l1Cur_bucket.l0 kq t266 (t266.length : Int) x32_2 s0_0 t269 t270 x261000_2 x261001_2 x261002_2 x261003_2 = some (r1, r2, r3, r4, r5, r6)) ∧ Aside0 (kq ≤ kj3) ∧ Aside0 (Kd.R (Kd.int .i64) 3 w' w.heap.size (fun _ => True) (.slice Ao20 t266.length co20) t266) ∧ Aside0 (w'.heap[gb250]? = some (.cells #[.int .i64 0, .int .i64 0, .int .i64 0, .int .i64 0] 68 (0, 0))) ∧ Aside0 (w'.heap[gb260]? = some (.cells #[.int .i64 x261000_2, .int .i64 x261001_2, .int .i64 x261002_2, .int .i64 x261003_2] 68 (0, 0))) ∧ Aside0 (IsS140 w0 w' g s0_0 t269 t270) ∧ Aside0 (KeepBut w w' g none) ∧ Aside0 (Below w0.heap.size w0 w'))
      case atStart => exact ⟨(0), (x261000_3), (x261001_3), (x261002_3), (x261003_3), (by first | rfl | (simp; done) | (simp [*]; done)), H', ⟨Nat.le_refl _⟩, ⟨by (with_reducible repeat (first | apply Kd.R_alloc | apply Kd.R_drewN | apply Kd.R_drew)); exact HO268.out⟩, ⟨by (with_reducible repeat (first | refine blk_drewN ?_ _ | refine blk_drew ?_ | refine blk_alloc ?_ _)); exact BK250.out⟩, ⟨by (with_reducible repeat (first | refine blk_drewN ?_ _ | refine blk_drew ?_ | refine blk_alloc ?_ _)); exact BK260.out⟩, ⟨by repeat (first | (with_reducible first | exact HI0.out | apply IsS140.alloc | apply IsS140.drewN | apply IsS140.drew | apply IsS140.set_1 | apply IsS140.set_2 | refine IsS140.far ?_ NB0_250.out _ | refine IsS140.far ?_ NB0_260.out _) | exact HI0.out)⟩, ⟨by repeat (first | (with_reducible first | exact HK.out | apply KeepBut.set_ | apply keep_drewN | apply keep_drew | apply keep_alloc | refine keep_far ?_ GW250.out _ | refine keep_far ?_ GW260.out _) | exact HK.out)⟩, ⟨by repeat (first | (with_reducible first | exact HB.out | apply below_alloc | apply pw_below_drewN | apply below_drew1 | refine below_set ?_ (IsS140.ge HI0.out) | refine below_set ?_ GE250.out | refine below_set ?_ GE260.out) | exact HB.out)⟩⟩
      case round =>
        clear H'
        try clear c1
        try clear p2
        try clear c9
        try clear c10
        try clear c11
        try clear c12
        try clear c15
        try clear c16
        try clear hcz11_0
        try clear hcz11_1
        try clear hcz11_2
        try clear hcz11_3
        try clear hcz17_0
        try clear hcz17_1
        try clear hcz17_2
        try clear hcz17_3
        try clear hfz11_0
        try clear hfz11_1
        try clear hfz11_2
        try clear hfz11_3
        try clear hfz17_0
        try clear hfz17_1
        try clear hfz17_2
        try clear hfz17_3
        try clear p2
        obtain ⟨x32_2, x261000_2, x261001_2, x261002_2, x261003_2, rfl, HA, HK2, HO_30, BK250, BK260, HI0, HK, HB⟩ := hrel
        cases gk with
        | zero => exact absurd HA.out (by simp [spec_l1Cur_bucket.l0])
        | succ k2 =>
          have H := HA.out
          clear HA
          simp only [spec_l1Cur_bucket.l0] at H
          by_cases c21 : x32_2 < (t266.length : Int)
          · rw [if_pos c21] at H
            have c21b0 : decide (x32_2 < (t266.length : Int)) = true := decide_eq_true c21
            clear c21
            by_cases c22 : 0 ≤ x32_2
            · rw [if_pos c22] at H
              have c22b0 : decide (0 ≤ x32_2) = true := decide_eq_true c22
              clear c22
              by_cases c23 : x32_2 < (t266.length : Int)
              · rw [if_pos c23] at H
                have c23b0 : decide (x32_2 < (t266.length : Int)) = true := decide_eq_true c23
                clear c23
                replace H := Option.bind_eq_some_iff.mp H
                obtain ⟨⟨t272, t273, t274, t275, t276, t277⟩, A240, H⟩ := H
                replace H : (if t277 = true then (spec_l1Cur_bucket.l0 k2 t266 (t266.length : Int) (wrap64 (x32_2 + 1)) s0_0 t269 t270 t272 t273 t274 t275) else (spec_l1Cur_bucket.l0 k2 t266 (t266.length : Int) (wrap64 (x32_2 + 1)) s0_0 t269 t270 x261000_2 x261001_2 x261002_2 x261003_2)) = some (r1, r2, r3, r4, r5, r6) := H
                have A24 := Aside0.mk A240
                clear A240
                by_cases c25 : t277 = true
                · subst c25
                  have H1 : (spec_l1Cur_bucket.l0 k2 t266 (t266.length : Int) (wrap64 (x32_2 + 1)) s0_0 t269 t270 t272 t273 t274 t275) = some (r1, r2, r3, r4, r5, r6) := by rw [if_pos rfl] at H; exact H
                  clear H
                  have H := H1
                  clear H1
                  have H' := Aside0.mk H
                  clear H
                  have p271 : 0 ≤ (x32_2 : Int) := of_decide_eq_true (by first | (with_reducible assumption) | assumption)
                  have q271 : x32_2 < (t266.length : Int) := of_decide_eq_true (by first | (with_reducible assumption) | assumption)
                  obtain ⟨ad271, e271, hx271_0⟩ := Kd.at_int (Kd.R_reads' HO_30.out).2.2 x32_2 p271 q271
                  cases e271
                  replace p271 := eq_true p271
                  replace q271 := eq_true q271
                  have hnb26 := NB260_250.out
                  have hnc26 := NB250_260.out
                  have hnb27 := NB260_0.out
                  have hnc27 := NB0_260.out
                  have hcz28_0 : wr.cell? ⟨gb260, 0, none⟩ = some (.int .i64 x261000_2) := (blk_cell BK260.out 0).trans rfl
                  have hcz28_1 : wr.cell? ⟨gb260, 1, none⟩ = some (.int .i64 x261001_2) := (blk_cell BK260.out 1).trans rfl
                  have hcz28_2 : wr.cell? ⟨gb260, 2, none⟩ = some (.int .i64 x261002_2) := (blk_cell BK260.out 2).trans rfl
                  have hcz28_3 : wr.cell? ⟨gb260, 3, none⟩ = some (.int .i64 x261003_2) := (blk_cell BK260.out 3).trans rfl
                  have hfz28_0 := blk_frozen BK260.out 0
                  have hfz28_1 := blk_frozen BK260.out 1
                  have hfz28_2 := blk_frozen BK260.out 2
                  have hfz28_3 := blk_frozen BK260.out 3
                  go_wp2_with (first | ((with_reducible refine gate_callee (f := 45) rfl ?_); refine goesA (some 39) rfl rfl Try.func45 #[.agg #[.int .i64 x261000_2, .int .i64 x261001_2, .int .i64 x261002_2, .int .i64 x261003_2], .int .i64 (rd t266 x32_2)] rfl ?_; (with_reducible refine (spec_AskBucket.calls x261000_2 x261001_2 x261002_2 x261003_2 (rd t266 x32_2) t272 t273 t274 t275 t276 true _ A24.out).mono ?_); rintro e w29 ⟨rfl, hb⟩; refine ⟨_, rfl, ?_⟩; have n0_ := Aside0.mk (Kd.R_below (by (with_reducible repeat (first | apply Kd.R_alloc | apply Kd.R_drewN | apply Kd.R_drew)); exact HO_30.out) hb); have n1_ := Aside0.mk (blk_below (g := gb250) (o := .cells #[.int .i64 0, .int .i64 0, .int .i64 0, .int .i64 0] 68 (0, 0)) (by (with_reducible repeat (first | refine blk_drewN ?_ _ | refine blk_drew ?_ | refine blk_alloc ?_ _)); exact BK250.out) hb); have n2_ := Aside0.mk (blk_below (g := gb260) (o := .cells #[.int .i64 x261000_2, .int .i64 x261001_2, .int .i64 x261002_2, .int .i64 x261003_2] 68 (0, 0)) (by (with_reducible repeat (first | refine blk_drewN ?_ _ | refine blk_drew ?_ | refine blk_alloc ?_ _)); exact BK260.out) hb); have n3_ := Aside0.mk (IsS140.below (by repeat (first | (with_reducible first | exact HI0.out | apply IsS140.alloc | apply IsS140.drewN | apply IsS140.drew | apply IsS140.set_1 | apply IsS140.set_2 | refine IsS140.far ?_ NB0_250.out _ | refine IsS140.far ?_ NB0_260.out _) | exact HI0.out)) hb); have n4_ := Aside0.mk (KeepBut.trans (by repeat (first | (with_reducible first | exact HK.out | apply KeepBut.set_ | apply keep_drewN | apply keep_drew | apply keep_alloc | refine keep_far ?_ GW250.out _ | refine keep_far ?_ GW260.out _) | exact HK.out)) (KeepBut.of_below hb g none) (.inl rfl)); have n5_ := Aside0.mk (below_step (by repeat (first | (with_reducible first | exact HB.out | apply below_alloc | apply pw_below_drewN | apply below_drew1 | refine below_set ?_ (IsS140.ge HI0.out) | refine below_set ?_ GE250.out | refine below_set ?_ GE260.out) | exact HB.out)) hb); clear HO_30; clear BK250; clear BK260; clear HI0; clear HK; clear HB; have HO_30 := n0_; have BK250 := n1_; have BK260 := n2_; have HI0 := n3_; have HK := n4_; have HB := n5_; clear n0_ n1_ n2_ n3_ n4_ n5_; (try clear hb); (try clear hb2); (try clear hk); (try clear hi)) | ((with_reducible refine gate_dst (N := 9) rfl ?_); refine box_event ?hg (N := 9) ?hd (cs := #[.int .i64 0, .int .i64 0, .int .i64 0, .int .i64 0]) (t := 68) ?hr ?_; (case hd => rfl); (case hg => rfl); (case hr => first | (go_simp; done) | (go_simp; rfl)); intro gb278 hg w30 hbox hb; have n0_ := Aside0.mk (Kd.R_below (by (with_reducible repeat (first | apply Kd.R_alloc | apply Kd.R_drewN | apply Kd.R_drew)); exact HO_30.out) hb); have n1_ := Aside0.mk (blk_below (g := gb250) (o := .cells #[.int .i64 0, .int .i64 0, .int .i64 0, .int .i64 0] 68 (0, 0)) (by (with_reducible repeat (first | refine blk_drewN ?_ _ | refine blk_drew ?_ | refine blk_alloc ?_ _)); exact BK250.out) hb); have n2_ := Aside0.mk (blk_below (g := gb260) (o := .cells #[.int .i64 x261000_2, .int .i64 x261001_2, .int .i64 x261002_2, .int .i64 x261003_2] 68 (0, 0)) (by (with_reducible repeat (first | refine blk_drewN ?_ _ | refine blk_drew ?_ | refine blk_alloc ?_ _)); exact BK260.out) hb); have n3_ := Aside0.mk (IsS140.below (by repeat (first | (with_reducible first | exact HI0.out | apply IsS140.alloc | apply IsS140.drewN | apply IsS140.drew | apply IsS140.set_1 | apply IsS140.set_2 | refine IsS140.far ?_ NB0_250.out _ | refine IsS140.far ?_ NB0_260.out _) | exact HI0.out)) hb); have n4_ := Aside0.mk (KeepBut.trans (by repeat (first | (with_reducible first | exact HK.out | apply KeepBut.set_ | apply keep_drewN | apply keep_drew | apply keep_alloc | refine keep_far ?_ GW250.out _ | refine keep_far ?_ GW260.out _) | exact HK.out)) (KeepBut.of_below hb g none) (.inl rfl)); have n5_ := Aside0.mk (below_step (by repeat (first | (with_reducible first | exact HB.out | apply below_alloc | apply pw_below_drewN | apply below_drew1 | refine below_set ?_ (IsS140.ge HI0.out) | refine below_set ?_ GE250.out | refine below_set ?_ GE260.out) | exact HB.out)) hb); have n6_ := Aside0.mk (hbox); have n7_ := Aside0.mk ((by rw [hg]; exact (keep_size (w := w) (g := g) (row := none) (by repeat (first | (with_reducible first | exact HK.out | apply KeepBut.set_ | apply keep_drewN | apply keep_drew | apply keep_alloc | refine keep_far ?_ GW250.out _ | refine keep_far ?_ GW260.out _) | exact HK.out))) : w.heap.size ≤ gb278)); have n8_ := Aside0.mk ((Nat.le_trans HW0.out (by rw [hg]; exact (keep_size (w := w) (g := g) (row := none) (by repeat (first | (with_reducible first | exact HK.out | apply KeepBut.set_ | apply keep_drewN | apply keep_drew | apply keep_alloc | refine keep_far ?_ GW250.out _ | refine keep_far ?_ GW260.out _) | exact HK.out))) : w.heap.size ≤ gb278) : w0.heap.size ≤ gb278)); have n9_ := Aside0.mk ((by rw [hg]; exact Nat.ne_of_lt (blk_lt (g := gb250) (o := .cells #[.int .i64 0, .int .i64 0, .int .i64 0, .int .i64 0] 68 (0, 0)) (by (with_reducible repeat (first | refine blk_drewN ?_ _ | refine blk_drew ?_ | refine blk_alloc ?_ _)); exact BK250.out)) : gb250 ≠ gb278)); have n10_ := Aside0.mk ((by rw [hg]; exact Nat.ne_of_gt (blk_lt (g := gb250) (o := .cells #[.int .i64 0, .int .i64 0, .int .i64 0, .int .i64 0] 68 (0, 0)) (by (with_reducible repeat (first | refine blk_drewN ?_ _ | refine blk_drew ?_ | refine blk_alloc ?_ _)); exact BK250.out)) : gb278 ≠ gb250)); have n11_ := Aside0.mk ((by rw [hg]; exact Nat.ne_of_lt (blk_lt (g := gb260) (o := .cells #[.int .i64 x261000_2, .int .i64 x261001_2, .int .i64 x261002_2, .int .i64 x261003_2] 68 (0, 0)) (by (with_reducible repeat (first | refine blk_drewN ?_ _ | refine blk_drew ?_ | refine blk_alloc ?_ _)); exact BK260.out)) : gb260 ≠ gb278)); have n12_ := Aside0.mk ((by rw [hg]; exact Nat.ne_of_gt (blk_lt (g := gb260) (o := .cells #[.int .i64 x261000_2, .int .i64 x261001_2, .int .i64 x261002_2, .int .i64 x261003_2] 68 (0, 0)) (by (with_reducible repeat (first | refine blk_drewN ?_ _ | refine blk_drew ?_ | refine blk_alloc ?_ _)); exact BK260.out)) : gb278 ≠ gb260)); have n13_ := Aside0.mk ((by rw [hg]; exact Nat.ne_of_lt (IsS140.lt (show IsS140 w0 _ g s0_0 t269 t270 from by repeat (first | (with_reducible first | exact HI0.out | apply IsS140.alloc | apply IsS140.drewN | apply IsS140.drew | apply IsS140.set_1 | apply IsS140.set_2 | refine IsS140.far ?_ NB0_250.out _ | refine IsS140.far ?_ NB0_260.out _) | exact HI0.out))) : g ≠ gb278)); have n14_ := Aside0.mk ((by rw [hg]; exact Nat.ne_of_gt (IsS140.lt (show IsS140 w0 _ g s0_0 t269 t270 from by repeat (first | (with_reducible first | exact HI0.out | apply IsS140.alloc | apply IsS140.drewN | apply IsS140.drew | apply IsS140.set_1 | apply IsS140.set_2 | refine IsS140.far ?_ NB0_250.out _ | refine IsS140.far ?_ NB0_260.out _) | exact HI0.out))) : gb278 ≠ g)); clear HO_30; clear BK250; clear BK260; clear HI0; clear HK; clear HB; have HO_30 := n0_; have BK250 := n1_; have BK260 := n2_; have HI0 := n3_; have HK := n4_; have HB := n5_; have BK278 := n6_; have GW278 := n7_; have GE278 := n8_; have NB250_278 := n9_; have NB278_250 := n10_; have NB260_278 := n11_; have NB278_260 := n12_; have NB0_278 := n13_; have NB278_0 := n14_; clear n0_ n1_ n2_ n3_ n4_ n5_ n6_ n7_ n8_ n9_ n10_ n11_ n12_ n13_ n14_; clear hb hbox hg; have hnb31 := NB278_250.out; have hnc31 := NB250_278.out; have hnb32 := NB278_260.out; have hnc32 := NB260_278.out; have hnb33 := NB278_0.out; have hnc33 := NB0_278.out; have hcz34_0 : w30.cell? ⟨gb278, 0, none⟩ = some (.int .i64 0) := (blk_cell BK278.out 0).trans rfl; have hcz34_1 : w30.cell? ⟨gb278, 1, none⟩ = some (.int .i64 0) := (blk_cell BK278.out 1).trans rfl; have hcz34_2 : w30.cell? ⟨gb278, 2, none⟩ = some (.int .i64 0) := (blk_cell BK278.out 2).trans rfl; have hcz34_3 : w30.cell? ⟨gb278, 3, none⟩ = some (.int .i64 0) := (blk_cell BK278.out 3).trans rfl; have hfz34_0 := blk_frozen BK278.out 0; have hfz34_1 := blk_frozen BK278.out 1; have hfz34_2 := blk_frozen BK278.out 2; have hfz34_3 := blk_frozen BK278.out 3; have hcz35_0 : w30.cell? ⟨gb260, 0, none⟩ = some (.int .i64 x261000_2) := (blk_cell BK260.out 0).trans rfl; have hcz35_1 : w30.cell? ⟨gb260, 1, none⟩ = some (.int .i64 x261001_2) := (blk_cell BK260.out 1).trans rfl; have hcz35_2 : w30.cell? ⟨gb260, 2, none⟩ = some (.int .i64 x261002_2) := (blk_cell BK260.out 2).trans rfl; have hcz35_3 : w30.cell? ⟨gb260, 3, none⟩ = some (.int .i64 x261003_2) := (blk_cell BK260.out 3).trans rfl; have hfz35_0 := blk_frozen BK260.out 0; have hfz35_1 := blk_frozen BK260.out 1; have hfz35_2 := blk_frozen BK260.out 2; have hfz35_3 := blk_frozen BK260.out 3))
                  go_roundg k2
                  case measure => have := HJ3.out; have := HK2.out; omega
                  case rel => exact ⟨(wrap64 (x32_2 + 1)), (t272), (t273), (t274), (t275), (by first | rfl | (simp; done) | (simp [*]; done)), H', ⟨by have := HJ3.out; have := HK2.out; omega⟩, ⟨by (with_reducible repeat (first | apply Kd.R_alloc | apply Kd.R_drewN | apply Kd.R_drew)); exact Kd.R_mono (Kd.R_far (p := ⟨gb260, 3, none⟩) (Kd.R_far (p := ⟨gb260, 2, none⟩) (Kd.R_far (p := ⟨gb260, 1, none⟩) (Kd.R_far (p := ⟨gb260, 0, none⟩) (Kd.R_far (p := ⟨gb278, 3, none⟩) (Kd.R_far (p := ⟨gb278, 2, none⟩) (Kd.R_far (p := ⟨gb278, 1, none⟩) (Kd.R_far (p := ⟨gb278, 0, none⟩) (Kd.R_types (Kd.R_types HO_30.out BK278.out (by decide)) BK260.out (by decide)) (fun _ hk => hk.1.2) (.int .i64 t272)) (fun _ hk => hk.1.2) (.int .i64 t273)) (fun _ hk => hk.1.2) (.int .i64 t274)) (fun _ hk => hk.1.2) (.int .i64 t275)) (fun _ hk => hk.2) (.int .i64 t272)) (fun _ hk => hk.2) (.int .i64 t273)) (fun _ hk => hk.2) (.int .i64 t274)) (fun _ hk => hk.2) (.int .i64 t275)) (fun _ hk => trivial)⟩, ⟨by (with_reducible repeat (first | refine blk_drewN ?_ _ | refine blk_drew ?_ | refine blk_alloc ?_ _)); refine blk_far ?_ NB250_260.out _; (with_reducible repeat (first | refine blk_drewN ?_ _ | refine blk_drew ?_ | refine blk_alloc ?_ _)); refine blk_far ?_ NB250_260.out _; (with_reducible repeat (first | refine blk_drewN ?_ _ | refine blk_drew ?_ | refine blk_alloc ?_ _)); refine blk_far ?_ NB250_260.out _; (with_reducible repeat (first | refine blk_drewN ?_ _ | refine blk_drew ?_ | refine blk_alloc ?_ _)); refine blk_far ?_ NB250_260.out _; (with_reducible repeat (first | refine blk_drewN ?_ _ | refine blk_drew ?_ | refine blk_alloc ?_ _)); refine blk_far ?_ NB250_278.out _; (with_reducible repeat (first | refine blk_drewN ?_ _ | refine blk_drew ?_ | refine blk_alloc ?_ _)); refine blk_far ?_ NB250_278.out _; (with_reducible repeat (first | refine blk_drewN ?_ _ | refine blk_drew ?_ | refine blk_alloc ?_ _)); refine blk_far ?_ NB250_278.out _; (with_reducible repeat (first | refine blk_drewN ?_ _ | refine blk_drew ?_ | refine blk_alloc ?_ _)); refine blk_far ?_ NB250_278.out _; (with_reducible repeat (first | refine blk_drewN ?_ _ | refine blk_drew ?_ | refine blk_alloc ?_ _)); exact BK250.out⟩, ⟨by (with_reducible repeat (first | refine blk_drewN ?_ _ | refine blk_drew ?_ | refine blk_alloc ?_ _)); refine blk_put (cs := #[.int .i64 t272, .int .i64 t273, .int .i64 t274, .int .i64 x261003_2]) ?_ 3 _ rfl; (with_reducible repeat (first | refine blk_drewN ?_ _ | refine blk_drew ?_ | refine blk_alloc ?_ _)); refine blk_put (cs := #[.int .i64 t272, .int .i64 t273, .int .i64 x261002_2, .int .i64 x261003_2]) ?_ 2 _ rfl; (with_reducible repeat (first | refine blk_drewN ?_ _ | refine blk_drew ?_ | refine blk_alloc ?_ _)); refine blk_put (cs := #[.int .i64 t272, .int .i64 x261001_2, .int .i64 x261002_2, .int .i64 x261003_2]) ?_ 1 _ rfl; (with_reducible repeat (first | refine blk_drewN ?_ _ | refine blk_drew ?_ | refine blk_alloc ?_ _)); refine blk_put (cs := #[.int .i64 x261000_2, .int .i64 x261001_2, .int .i64 x261002_2, .int .i64 x261003_2]) ?_ 0 _ rfl; (with_reducible repeat (first | refine blk_drewN ?_ _ | refine blk_drew ?_ | refine blk_alloc ?_ _)); refine blk_far ?_ NB260_278.out _; (with_reducible repeat (first | refine blk_drewN ?_ _ | refine blk_drew ?_ | refine blk_alloc ?_ _)); refine blk_far ?_ NB260_278.out _; (with_reducible repeat (first | refine blk_drewN ?_ _ | refine blk_drew ?_ | refine blk_alloc ?_ _)); refine blk_far ?_ NB260_278.out _; (with_reducible repeat (first | refine blk_drewN ?_ _ | refine blk_drew ?_ | refine blk_alloc ?_ _)); refine blk_far ?_ NB260_278.out _; (with_reducible repeat (first | refine blk_drewN ?_ _ | refine blk_drew ?_ | refine blk_alloc ?_ _)); exact BK260.out⟩, ⟨by repeat (first | (with_reducible first | exact HI0.out | apply IsS140.alloc | apply IsS140.drewN | apply IsS140.drew | apply IsS140.set_1 | apply IsS140.set_2 | refine IsS140.far ?_ NB0_250.out _ | refine IsS140.far ?_ NB0_260.out _ | refine IsS140.far ?_ NB0_278.out _) | exact HI0.out)⟩, ⟨by repeat (first | (with_reducible first | exact HK.out | apply KeepBut.set_ | apply keep_drewN | apply keep_drew | apply keep_alloc | refine keep_far ?_ GW250.out _ | refine keep_far ?_ GW260.out _ | refine keep_far ?_ GW278.out _) | exact HK.out)⟩, ⟨by repeat (first | (with_reducible first | exact HB.out | apply below_alloc | apply pw_below_drewN | apply below_drew1 | refine below_set ?_ (IsS140.ge HI0.out) | refine below_set ?_ GE250.out | refine below_set ?_ GE260.out | refine below_set ?_ GE278.out) | exact HB.out)⟩⟩
                · replace c25 := Bool.eq_false_iff.mpr c25
                  subst c25
                  have H1 : (spec_l1Cur_bucket.l0 k2 t266 (t266.length : Int) (wrap64 (x32_2 + 1)) s0_0 t269 t270 x261000_2 x261001_2 x261002_2 x261003_2) = some (r1, r2, r3, r4, r5, r6) := by rw [if_neg (show ¬ (false = true) by decide)] at H; exact H
                  clear H
                  have H := H1
                  clear H1
                  have H' := Aside0.mk H
                  clear H
                  have p271 : 0 ≤ (x32_2 : Int) := of_decide_eq_true (by first | (with_reducible assumption) | assumption)
                  have q271 : x32_2 < (t266.length : Int) := of_decide_eq_true (by first | (with_reducible assumption) | assumption)
                  obtain ⟨ad271, e271, hx271_0⟩ := Kd.at_int (Kd.R_reads' HO_30.out).2.2 x32_2 p271 q271
                  cases e271
                  replace p271 := eq_true p271
                  replace q271 := eq_true q271
                  have hnb36 := NB260_250.out
                  have hnc36 := NB250_260.out
                  have hnb37 := NB260_0.out
                  have hnc37 := NB0_260.out
                  have hcz38_0 : wr.cell? ⟨gb260, 0, none⟩ = some (.int .i64 x261000_2) := (blk_cell BK260.out 0).trans rfl
                  have hcz38_1 : wr.cell? ⟨gb260, 1, none⟩ = some (.int .i64 x261001_2) := (blk_cell BK260.out 1).trans rfl
                  have hcz38_2 : wr.cell? ⟨gb260, 2, none⟩ = some (.int .i64 x261002_2) := (blk_cell BK260.out 2).trans rfl
                  have hcz38_3 : wr.cell? ⟨gb260, 3, none⟩ = some (.int .i64 x261003_2) := (blk_cell BK260.out 3).trans rfl
                  have hfz38_0 := blk_frozen BK260.out 0
                  have hfz38_1 := blk_frozen BK260.out 1
                  have hfz38_2 := blk_frozen BK260.out 2
                  have hfz38_3 := blk_frozen BK260.out 3
                  go_wp2_with (first | ((with_reducible refine gate_callee (f := 45) rfl ?_); refine goesA (some 39) rfl rfl Try.func45 #[.agg #[.int .i64 x261000_2, .int .i64 x261001_2, .int .i64 x261002_2, .int .i64 x261003_2], .int .i64 (rd t266 x32_2)] rfl ?_; (with_reducible refine (spec_AskBucket.calls x261000_2 x261001_2 x261002_2 x261003_2 (rd t266 x32_2) t272 t273 t274 t275 t276 false _ A24.out).mono ?_); rintro e w39 ⟨rfl, hb⟩; refine ⟨_, rfl, ?_⟩; have n0_ := Aside0.mk (Kd.R_below (by (with_reducible repeat (first | apply Kd.R_alloc | apply Kd.R_drewN | apply Kd.R_drew)); exact HO_30.out) hb); have n1_ := Aside0.mk (blk_below (g := gb250) (o := .cells #[.int .i64 0, .int .i64 0, .int .i64 0, .int .i64 0] 68 (0, 0)) (by (with_reducible repeat (first | refine blk_drewN ?_ _ | refine blk_drew ?_ | refine blk_alloc ?_ _)); exact BK250.out) hb); have n2_ := Aside0.mk (blk_below (g := gb260) (o := .cells #[.int .i64 x261000_2, .int .i64 x261001_2, .int .i64 x261002_2, .int .i64 x261003_2] 68 (0, 0)) (by (with_reducible repeat (first | refine blk_drewN ?_ _ | refine blk_drew ?_ | refine blk_alloc ?_ _)); exact BK260.out) hb); have n3_ := Aside0.mk (IsS140.below (by repeat (first | (with_reducible first | exact HI0.out | apply IsS140.alloc | apply IsS140.drewN | apply IsS140.drew | apply IsS140.set_1 | apply IsS140.set_2 | refine IsS140.far ?_ NB0_250.out _ | refine IsS140.far ?_ NB0_260.out _) | exact HI0.out)) hb); have n4_ := Aside0.mk (KeepBut.trans (by repeat (first | (with_reducible first | exact HK.out | apply KeepBut.set_ | apply keep_drewN | apply keep_drew | apply keep_alloc | refine keep_far ?_ GW250.out _ | refine keep_far ?_ GW260.out _) | exact HK.out)) (KeepBut.of_below hb g none) (.inl rfl)); have n5_ := Aside0.mk (below_step (by repeat (first | (with_reducible first | exact HB.out | apply below_alloc | apply pw_below_drewN | apply below_drew1 | refine below_set ?_ (IsS140.ge HI0.out) | refine below_set ?_ GE250.out | refine below_set ?_ GE260.out) | exact HB.out)) hb); clear HO_30; clear BK250; clear BK260; clear HI0; clear HK; clear HB; have HO_30 := n0_; have BK250 := n1_; have BK260 := n2_; have HI0 := n3_; have HK := n4_; have HB := n5_; clear n0_ n1_ n2_ n3_ n4_ n5_; (try clear hb); (try clear hb2); (try clear hk); (try clear hi)) | ((with_reducible refine gate_dst (N := 9) rfl ?_); refine box_event ?hg (N := 9) ?hd (cs := #[.int .i64 0, .int .i64 0, .int .i64 0, .int .i64 0]) (t := 68) ?hr ?_; (case hd => rfl); (case hg => rfl); (case hr => first | (go_simp; done) | (go_simp; rfl)); intro gb278 hg w40 hbox hb; have n0_ := Aside0.mk (Kd.R_below (by (with_reducible repeat (first | apply Kd.R_alloc | apply Kd.R_drewN | apply Kd.R_drew)); exact HO_30.out) hb); have n1_ := Aside0.mk (blk_below (g := gb250) (o := .cells #[.int .i64 0, .int .i64 0, .int .i64 0, .int .i64 0] 68 (0, 0)) (by (with_reducible repeat (first | refine blk_drewN ?_ _ | refine blk_drew ?_ | refine blk_alloc ?_ _)); exact BK250.out) hb); have n2_ := Aside0.mk (blk_below (g := gb260) (o := .cells #[.int .i64 x261000_2, .int .i64 x261001_2, .int .i64 x261002_2, .int .i64 x261003_2] 68 (0, 0)) (by (with_reducible repeat (first | refine blk_drewN ?_ _ | refine blk_drew ?_ | refine blk_alloc ?_ _)); exact BK260.out) hb); have n3_ := Aside0.mk (IsS140.below (by repeat (first | (with_reducible first | exact HI0.out | apply IsS140.alloc | apply IsS140.drewN | apply IsS140.drew | apply IsS140.set_1 | apply IsS140.set_2 | refine IsS140.far ?_ NB0_250.out _ | refine IsS140.far ?_ NB0_260.out _) | exact HI0.out)) hb); have n4_ := Aside0.mk (KeepBut.trans (by repeat (first | (with_reducible first | exact HK.out | apply KeepBut.set_ | apply keep_drewN | apply keep_drew | apply keep_alloc | refine keep_far ?_ GW250.out _ | refine keep_far ?_ GW260.out _) | exact HK.out)) (KeepBut.of_below hb g none) (.inl rfl)); have n5_ := Aside0.mk (below_step (by repeat (first | (with_reducible first | exact HB.out | apply below_alloc | apply pw_below_drewN | apply below_drew1 | refine below_set ?_ (IsS140.ge HI0.out) | refine below_set ?_ GE250.out | refine below_set ?_ GE260.out) | exact HB.out)) hb); have n6_ := Aside0.mk (hbox); have n7_ := Aside0.mk ((by rw [hg]; exact (keep_size (w := w) (g := g) (row := none) (by repeat (first | (with_reducible first | exact HK.out | apply KeepBut.set_ | apply keep_drewN | apply keep_drew | apply keep_alloc | refine keep_far ?_ GW250.out _ | refine keep_far ?_ GW260.out _) | exact HK.out))) : w.heap.size ≤ gb278)); have n8_ := Aside0.mk ((Nat.le_trans HW0.out (by rw [hg]; exact (keep_size (w := w) (g := g) (row := none) (by repeat (first | (with_reducible first | exact HK.out | apply KeepBut.set_ | apply keep_drewN | apply keep_drew | apply keep_alloc | refine keep_far ?_ GW250.out _ | refine keep_far ?_ GW260.out _) | exact HK.out))) : w.heap.size ≤ gb278) : w0.heap.size ≤ gb278)); have n9_ := Aside0.mk ((by rw [hg]; exact Nat.ne_of_lt (blk_lt (g := gb250) (o := .cells #[.int .i64 0, .int .i64 0, .int .i64 0, .int .i64 0] 68 (0, 0)) (by (with_reducible repeat (first | refine blk_drewN ?_ _ | refine blk_drew ?_ | refine blk_alloc ?_ _)); exact BK250.out)) : gb250 ≠ gb278)); have n10_ := Aside0.mk ((by rw [hg]; exact Nat.ne_of_gt (blk_lt (g := gb250) (o := .cells #[.int .i64 0, .int .i64 0, .int .i64 0, .int .i64 0] 68 (0, 0)) (by (with_reducible repeat (first | refine blk_drewN ?_ _ | refine blk_drew ?_ | refine blk_alloc ?_ _)); exact BK250.out)) : gb278 ≠ gb250)); have n11_ := Aside0.mk ((by rw [hg]; exact Nat.ne_of_lt (blk_lt (g := gb260) (o := .cells #[.int .i64 x261000_2, .int .i64 x261001_2, .int .i64 x261002_2, .int .i64 x261003_2] 68 (0, 0)) (by (with_reducible repeat (first | refine blk_drewN ?_ _ | refine blk_drew ?_ | refine blk_alloc ?_ _)); exact BK260.out)) : gb260 ≠ gb278)); have n12_ := Aside0.mk ((by rw [hg]; exact Nat.ne_of_gt (blk_lt (g := gb260) (o := .cells #[.int .i64 x261000_2, .int .i64 x261001_2, .int .i64 x261002_2, .int .i64 x261003_2] 68 (0, 0)) (by (with_reducible repeat (first | refine blk_drewN ?_ _ | refine blk_drew ?_ | refine blk_alloc ?_ _)); exact BK260.out)) : gb278 ≠ gb260)); have n13_ := Aside0.mk ((by rw [hg]; exact Nat.ne_of_lt (IsS140.lt (show IsS140 w0 _ g s0_0 t269 t270 from by repeat (first | (with_reducible first | exact HI0.out | apply IsS140.alloc | apply IsS140.drewN | apply IsS140.drew | apply IsS140.set_1 | apply IsS140.set_2 | refine IsS140.far ?_ NB0_250.out _ | refine IsS140.far ?_ NB0_260.out _) | exact HI0.out))) : g ≠ gb278)); have n14_ := Aside0.mk ((by rw [hg]; exact Nat.ne_of_gt (IsS140.lt (show IsS140 w0 _ g s0_0 t269 t270 from by repeat (first | (with_reducible first | exact HI0.out | apply IsS140.alloc | apply IsS140.drewN | apply IsS140.drew | apply IsS140.set_1 | apply IsS140.set_2 | refine IsS140.far ?_ NB0_250.out _ | refine IsS140.far ?_ NB0_260.out _) | exact HI0.out))) : gb278 ≠ g)); clear HO_30; clear BK250; clear BK260; clear HI0; clear HK; clear HB; have HO_30 := n0_; have BK250 := n1_; have BK260 := n2_; have HI0 := n3_; have HK := n4_; have HB := n5_; have BK278 := n6_; have GW278 := n7_; have GE278 := n8_; have NB250_278 := n9_; have NB278_250 := n10_; have NB260_278 := n11_; have NB278_260 := n12_; have NB0_278 := n13_; have NB278_0 := n14_; clear n0_ n1_ n2_ n3_ n4_ n5_ n6_ n7_ n8_ n9_ n10_ n11_ n12_ n13_ n14_; clear hb hbox hg; have hnb41 := NB278_250.out; have hnc41 := NB250_278.out; have hnb42 := NB278_260.out; have hnc42 := NB260_278.out; have hnb43 := NB278_0.out; have hnc43 := NB0_278.out; have hcz44_0 : w40.cell? ⟨gb278, 0, none⟩ = some (.int .i64 0) := (blk_cell BK278.out 0).trans rfl; have hcz44_1 : w40.cell? ⟨gb278, 1, none⟩ = some (.int .i64 0) := (blk_cell BK278.out 1).trans rfl; have hcz44_2 : w40.cell? ⟨gb278, 2, none⟩ = some (.int .i64 0) := (blk_cell BK278.out 2).trans rfl; have hcz44_3 : w40.cell? ⟨gb278, 3, none⟩ = some (.int .i64 0) := (blk_cell BK278.out 3).trans rfl; have hfz44_0 := blk_frozen BK278.out 0; have hfz44_1 := blk_frozen BK278.out 1; have hfz44_2 := blk_frozen BK278.out 2; have hfz44_3 := blk_frozen BK278.out 3))
                  go_roundg k2
                  case measure => have := HJ3.out; have := HK2.out; omega
                  case rel => exact ⟨(wrap64 (x32_2 + 1)), (x261000_2), (x261001_2), (x261002_2), (x261003_2), (by first | rfl | (simp; done) | (simp [*]; done)), H', ⟨by have := HJ3.out; have := HK2.out; omega⟩, ⟨by (with_reducible repeat (first | apply Kd.R_alloc | apply Kd.R_drewN | apply Kd.R_drew)); exact Kd.R_mono (Kd.R_far (p := ⟨gb278, 3, none⟩) (Kd.R_far (p := ⟨gb278, 2, none⟩) (Kd.R_far (p := ⟨gb278, 1, none⟩) (Kd.R_far (p := ⟨gb278, 0, none⟩) (Kd.R_types HO_30.out BK278.out (by decide)) (fun _ hk => hk.2) (.int .i64 t272)) (fun _ hk => hk.2) (.int .i64 t273)) (fun _ hk => hk.2) (.int .i64 t274)) (fun _ hk => hk.2) (.int .i64 t275)) (fun _ hk => trivial)⟩, ⟨by (with_reducible repeat (first | refine blk_drewN ?_ _ | refine blk_drew ?_ | refine blk_alloc ?_ _)); refine blk_far ?_ NB250_278.out _; (with_reducible repeat (first | refine blk_drewN ?_ _ | refine blk_drew ?_ | refine blk_alloc ?_ _)); refine blk_far ?_ NB250_278.out _; (with_reducible repeat (first | refine blk_drewN ?_ _ | refine blk_drew ?_ | refine blk_alloc ?_ _)); refine blk_far ?_ NB250_278.out _; (with_reducible repeat (first | refine blk_drewN ?_ _ | refine blk_drew ?_ | refine blk_alloc ?_ _)); refine blk_far ?_ NB250_278.out _; (with_reducible repeat (first | refine blk_drewN ?_ _ | refine blk_drew ?_ | refine blk_alloc ?_ _)); exact BK250.out⟩, ⟨by (with_reducible repeat (first | refine blk_drewN ?_ _ | refine blk_drew ?_ | refine blk_alloc ?_ _)); refine blk_far ?_ NB260_278.out _; (with_reducible repeat (first | refine blk_drewN ?_ _ | refine blk_drew ?_ | refine blk_alloc ?_ _)); refine blk_far ?_ NB260_278.out _; (with_reducible repeat (first | refine blk_drewN ?_ _ | refine blk_drew ?_ | refine blk_alloc ?_ _)); refine blk_far ?_ NB260_278.out _; (with_reducible repeat (first | refine blk_drewN ?_ _ | refine blk_drew ?_ | refine blk_alloc ?_ _)); refine blk_far ?_ NB260_278.out _; (with_reducible repeat (first | refine blk_drewN ?_ _ | refine blk_drew ?_ | refine blk_alloc ?_ _)); exact BK260.out⟩, ⟨by repeat (first | (with_reducible first | exact HI0.out | apply IsS140.alloc | apply IsS140.drewN | apply IsS140.drew | apply IsS140.set_1 | apply IsS140.set_2 | refine IsS140.far ?_ NB0_250.out _ | refine IsS140.far ?_ NB0_260.out _ | refine IsS140.far ?_ NB0_278.out _) | exact HI0.out)⟩, ⟨by repeat (first | (with_reducible first | exact HK.out | apply KeepBut.set_ | apply keep_drewN | apply keep_drew | apply keep_alloc | refine keep_far ?_ GW250.out _ | refine keep_far ?_ GW260.out _ | refine keep_far ?_ GW278.out _) | exact HK.out)⟩, ⟨by repeat (first | (with_reducible first | exact HB.out | apply below_alloc | apply pw_below_drewN | apply below_drew1 | refine below_set ?_ (IsS140.ge HI0.out) | refine below_set ?_ GE250.out | refine below_set ?_ GE260.out | refine below_set ?_ GE278.out) | exact HB.out)⟩⟩
              · rw [if_neg c23] at H
                exact absurd H (by simp)
            · rw [if_neg c22] at H
              exact absurd H (by simp)
          · rw [if_neg c21] at H
            have c21b0 : decide (x32_2 < (t266.length : Int)) = false := decide_eq_false c21
            clear c21
            replace H := Option.bind_eq_some_iff.mp H
            obtain ⟨⟨t279, t280, t281⟩, A450, H⟩ := H
            replace H : (if t279 = true then ((spec_l1Cur_among.f s0_0 t280 t281 (([(-1), wrap64 (x261000_2 * x261001_2), wrap64 ((wrap64 (x261000_2 * x261001_2)) + 1)] : List Int))).bind fun bt285 => (some (x261000_2, x261001_2, bt285.1, x261003_2, bt285.2.1, bt285.2.2))) else (some (x261000_2, x261001_2, x261002_2, x261003_2, t280, t281))) = some (r1, r2, r3, r4, r5, r6) := H
            have A45 := Aside0.mk A450
            clear A450
            by_cases c46 : t279 = true
            · subst c46
              have H1 : ((spec_l1Cur_among.f s0_0 t280 t281 (([(-1), wrap64 (x261000_2 * x261001_2), wrap64 ((wrap64 (x261000_2 * x261001_2)) + 1)] : List Int))).bind fun bt285 => (some (x261000_2, x261001_2, bt285.1, x261003_2, bt285.2.1, bt285.2.2))) = some (r1, r2, r3, r4, r5, r6) := by rw [if_pos rfl] at H; exact H
              clear H
              have H := H1
              clear H1
              obtain ⟨y282, hy282⟩ : ∃ y_ : List Int, y_ = (([(-1), wrap64 (x261000_2 * x261001_2), wrap64 ((wrap64 (x261000_2 * x261001_2)) + 1)] : List Int)) := ⟨_, rfl⟩
              replace H : ((spec_l1Cur_among.f s0_0 t280 t281 y282).bind fun bt285 => (some (x261000_2, x261001_2, bt285.1, x261003_2, bt285.2.1, bt285.2.2))) = some (r1, r2, r3, r4, r5, r6) := by first | (rw [hy282]; with_reducible exact H) | (have H2_ := (Option.bind_some _ _).symm.trans H; rw [hy282]; with_reducible exact H2_) | (have H2_ := (Option.bind_some _ _).symm.trans H; with_reducible exact H2_) | with_reducible exact H | (rw [hy282]; exact H) | exact H
              have Ny282 := Aside0.mk hy282
              clear hy282
              replace H := Option.bind_eq_some_iff.mp H
              obtain ⟨⟨t285, t286, t287⟩, A470, H⟩ := H
              replace H : (some (x261000_2, x261001_2, t285, x261003_2, t286, t287)) = some (r1, r2, r3, r4, r5, r6) := H
              have A47 := Aside0.mk A470
              clear A470
              simp only [Option.some.injEq, Prod.mk.injEq] at H
              obtain ⟨rfl, rfl, rfl, rfl, rfl, rfl⟩ := H
              go_wp2_with (first | ((with_reducible refine gate_callee (f := 121) rfl ?_); refine goesA (some 47) rfl rfl Try.func121 #[.pointer (some ⟨g, 0, none⟩), .int .i64 20] rfl ?_; (with_reducible refine (spec_l1Cur_one.calls g s0_0 t269 t270 20 true t280 t281 w0 _ ?side1 ?side2 A45.out).mono ?_); (case side1 => repeat (first | (with_reducible first | exact HI0.out | apply IsS140.alloc | apply IsS140.drewN | apply IsS140.drew | apply IsS140.set_1 | apply IsS140.set_2 | refine IsS140.far ?_ NB0_250.out _ | refine IsS140.far ?_ NB0_260.out _) | exact HI0.out)); (case side2 => repeat (first | (with_reducible first | exact HB.out | apply below_alloc | apply pw_below_drewN | apply below_drew1 | refine below_set ?_ (IsS140.ge HI0.out) | refine below_set ?_ GE250.out | refine below_set ?_ GE260.out) | exact HB.out)); rintro e w48 ⟨rfl, hi, hb, hk⟩; refine ⟨_, rfl, ?_⟩; have n0_ := Aside0.mk (Kd.R_mono (Kd.R_keep (IsS140.apart (show IsS140 w0 _ g s0_0 t269 t270 from by repeat (first | (with_reducible first | exact HI0.out | apply IsS140.alloc | apply IsS140.drewN | apply IsS140.drew | apply IsS140.set_1 | apply IsS140.set_2 | refine IsS140.far ?_ NB0_250.out _ | refine IsS140.far ?_ NB0_260.out _) | exact HI0.out)) (by (with_reducible repeat (first | apply Kd.R_alloc | apply Kd.R_drewN | apply Kd.R_drew)); exact HO_30.out) (by decide)) hk (fun _ h => h.2)) (fun _ h => h.1)); have n1_ := Aside0.mk (KeepBut.blk hk (g' := gb250) (o := .cells #[.int .i64 0, .int .i64 0, .int .i64 0, .int .i64 0] 68 (0, 0)) (by (with_reducible repeat (first | refine blk_drewN ?_ _ | refine blk_drew ?_ | refine blk_alloc ?_ _)); exact BK250.out) NB250_0.out (by simp)); have n2_ := Aside0.mk (KeepBut.blk hk (g' := gb260) (o := .cells #[.int .i64 x261000_2, .int .i64 x261001_2, .int .i64 x261002_2, .int .i64 x261003_2] 68 (0, 0)) (by (with_reducible repeat (first | refine blk_drewN ?_ _ | refine blk_drew ?_ | refine blk_alloc ?_ _)); exact BK260.out) NB260_0.out (by simp)); have n3_ := Aside0.mk (KeepBut.trans (by repeat (first | (with_reducible first | exact HK.out | apply KeepBut.set_ | apply keep_drewN | apply keep_drew | apply keep_alloc | refine keep_far ?_ GW250.out _ | refine keep_far ?_ GW260.out _) | exact HK.out)) hk (.inl rfl)); have n4_ := Aside0.mk (hb); have n5_ := Aside0.mk (hi); clear HO_30; clear BK250; clear BK260; clear HK; clear HB; clear HI0; have HO_30 := n0_; have BK250 := n1_; have BK260 := n2_; have HK := n3_; have HB := n4_; have HI0 := n5_; clear n0_ n1_ n2_ n3_ n4_ n5_; (try clear hb); (try clear hb2); (try clear hk); (try clear hi); have hnb49 := NB260_250.out; have hnc49 := NB250_260.out; have hnb50 := NB260_0.out; have hnc50 := NB0_260.out; have hcz51_0 : w48.cell? ⟨gb260, 0, none⟩ = some (.int .i64 x261000_2) := (blk_cell BK260.out 0).trans rfl; have hcz51_1 : w48.cell? ⟨gb260, 1, none⟩ = some (.int .i64 x261001_2) := (blk_cell BK260.out 1).trans rfl; have hcz51_2 : w48.cell? ⟨gb260, 2, none⟩ = some (.int .i64 x261002_2) := (blk_cell BK260.out 2).trans rfl; have hcz51_3 : w48.cell? ⟨gb260, 3, none⟩ = some (.int .i64 x261003_2) := (blk_cell BK260.out 3).trans rfl; have hfz51_0 := blk_frozen BK260.out 0; have hfz51_1 := blk_frozen BK260.out 1; have hfz51_2 := blk_frozen BK260.out 2; have hfz51_3 := blk_frozen BK260.out 3) | ((with_reducible refine gate_dst (N := 60) rfl ?_); refine Kd.R_lit (Kd.int .i64) _ 3 ?hg (N := 60) ?hd (xs := ([(-1), wrap64 (x261000_2 * x261001_2), wrap64 ((wrap64 (x261000_2 * x261001_2)) + 1)] : List Int)) (inner := [.int .i64 (-1), .int .i64 (wrap64 (x261000_2 * x261001_2)), .int .i64 (wrap64 ((wrap64 (x261000_2 * x261001_2)) + 1))]) (ok := fun _ => True) (okp := fun _ => True) ?hr ?hp (fun _ hk => hk) trivial (Below.refl _ _) (Nat.le_refl _) (by simp) ?_; (case hd => rfl); (case hg => rfl); (case hr => first | (go_simp; done) | (go_simp; rfl)); (case hp => exact (Reps.one (show Kd.M (Kd.int .i64) _ _ _ (-1) [.int .i64 (-1)] from rfl) (Reps.one (show Kd.M (Kd.int .i64) _ _ _ (wrap64 (x261000_2 * x261001_2)) [.int .i64 (wrap64 (x261000_2 * x261001_2))] from rfl) (Reps.one (show Kd.M (Kd.int .i64) _ _ _ (wrap64 ((wrap64 (x261000_2 * x261001_2)) + 1)) [.int .i64 (wrap64 ((wrap64 (x261000_2 * x261001_2)) + 1))] from rfl) (Reps.none _ _))))); intro v283 w52 ho53 hb hg_ hnew_; clear hg_ hnew_; (first | rw [← Ny282.out] at ho53 | (simp only [Int.reduceToNat] at ho53; rw [← Ny282.out] at ho53)); have n0_ := Aside0.mk (Kd.R_elder' (by (with_reducible repeat (first | apply Kd.R_alloc | apply Kd.R_drewN | apply Kd.R_drew)); exact HO_30.out) (Kd.R_base ho53) hb); have n1_ := Aside0.mk (Kd.R_lower (Kd.R_new' ho53 (Kd.R_lt (by (with_reducible repeat (first | apply Kd.R_alloc | apply Kd.R_drewN | apply Kd.R_drew)); exact HO_30.out))) (keep_size (w := w) (g := g) (row := none) (by repeat (first | (with_reducible first | exact HK.out | apply KeepBut.set_ | apply keep_drewN | apply keep_drew | apply keep_alloc | refine keep_far ?_ GW250.out _ | refine keep_far ?_ GW260.out _) | exact HK.out)))); have n2_ := Aside0.mk (blk_below (g := gb250) (o := .cells #[.int .i64 0, .int .i64 0, .int .i64 0, .int .i64 0] 68 (0, 0)) (by (with_reducible repeat (first | refine blk_drewN ?_ _ | refine blk_drew ?_ | refine blk_alloc ?_ _)); exact BK250.out) hb); have n3_ := Aside0.mk (blk_below (g := gb260) (o := .cells #[.int .i64 x261000_2, .int .i64 x261001_2, .int .i64 x261002_2, .int .i64 x261003_2] 68 (0, 0)) (by (with_reducible repeat (first | refine blk_drewN ?_ _ | refine blk_drew ?_ | refine blk_alloc ?_ _)); exact BK260.out) hb); have n4_ := Aside0.mk (IsS140.below (by repeat (first | (with_reducible first | exact HI0.out | apply IsS140.alloc | apply IsS140.drewN | apply IsS140.drew | apply IsS140.set_1 | apply IsS140.set_2 | refine IsS140.far ?_ NB0_250.out _ | refine IsS140.far ?_ NB0_260.out _) | exact HI0.out)) hb); have n5_ := Aside0.mk (KeepBut.trans (by repeat (first | (with_reducible first | exact HK.out | apply KeepBut.set_ | apply keep_drewN | apply keep_drew | apply keep_alloc | refine keep_far ?_ GW250.out _ | refine keep_far ?_ GW260.out _) | exact HK.out)) (KeepBut.of_below hb g none) (.inl rfl)); have n6_ := Aside0.mk (below_step (by repeat (first | (with_reducible first | exact HB.out | apply below_alloc | apply pw_below_drewN | apply below_drew1 | refine below_set ?_ (IsS140.ge HI0.out) | refine below_set ?_ GE250.out | refine below_set ?_ GE260.out) | exact HB.out)) hb); clear HO_30; clear BK250; clear BK260; clear HI0; clear HK; clear HB; have HO_30 := n0_; have HO284 := n1_; have BK250 := n2_; have BK260 := n3_; have HI0 := n4_; have HK := n5_; have HB := n6_; clear n0_ n1_ n2_ n3_ n4_ n5_ n6_; clear hb ho53; obtain ⟨Ao54, co54, eo54⟩ := Kd.R_slice HO284.out; subst eo54) | ((with_reducible refine gate_callee (f := 113) rfl ?_); refine goesA (some 61) rfl rfl Try.func113 #[.pointer (some ⟨g, 0, none⟩), .slice Ao54 y282.length co54] rfl ?_; (with_reducible refine (spec_l1Cur_among.calls g s0_0 t280 t281 _ _ y282 t285 t286 t287 w0 _ ?side1 ?side2 ?side3 ?side4 ?side5 A47.out).mono ?_); (case side1 => repeat (first | (with_reducible first | exact HI0.out | apply IsS140.alloc | apply IsS140.drewN | apply IsS140.drew | apply IsS140.set_1 | apply IsS140.set_2 | refine IsS140.far ?_ NB0_250.out _ | refine IsS140.far ?_ NB0_260.out _) | exact HI0.out)); (case side2 => repeat (first | (with_reducible first | exact HB.out | apply below_alloc | apply pw_below_drewN | apply below_drew1 | refine below_set ?_ (IsS140.ge HI0.out) | refine below_set ?_ GE250.out | refine below_set ?_ GE260.out) | exact HB.out)); (case side3 => repeat (first | exact (Kd.R_reads' HO284.out).2.2 | (with_reducible refine Kd.C_alloc ?_ _) | (with_reducible refine Kd.C_drewN ?_ _) | (with_reducible refine Kd.C_drew ?_))); (case side4 => exact (Kd.R_reads' HO284.out).2.1); (case side5 => exact far_slice (IsS140.own_ne HI0.out HO284.out (by decide))); rintro e w55 ⟨rfl, hi, hb, hk⟩; refine ⟨_, rfl, ?_⟩; have n0_ := Aside0.mk (Kd.R_mono (Kd.R_keep (IsS140.apart (show IsS140 w0 _ g s0_0 t280 t281 from by repeat (first | (with_reducible first | exact HI0.out | apply IsS140.alloc | apply IsS140.drewN | apply IsS140.drew | apply IsS140.set_1 | apply IsS140.set_2 | refine IsS140.far ?_ NB0_250.out _ | refine IsS140.far ?_ NB0_260.out _) | exact HI0.out)) (by (with_reducible repeat (first | apply Kd.R_alloc | apply Kd.R_drewN | apply Kd.R_drew)); exact HO_30.out) (by decide)) hk (fun _ h => h.2)) (fun _ h => h.1)); have n1_ := Aside0.mk (KeepBut.blk hk (g' := gb250) (o := .cells #[.int .i64 0, .int .i64 0, .int .i64 0, .int .i64 0] 68 (0, 0)) (by (with_reducible repeat (first | refine blk_drewN ?_ _ | refine blk_drew ?_ | refine blk_alloc ?_ _)); exact BK250.out) NB250_0.out (by simp)); have n2_ := Aside0.mk (KeepBut.blk hk (g' := gb260) (o := .cells #[.int .i64 x261000_2, .int .i64 x261001_2, .int .i64 x261002_2, .int .i64 x261003_2] 68 (0, 0)) (by (with_reducible repeat (first | refine blk_drewN ?_ _ | refine blk_drew ?_ | refine blk_alloc ?_ _)); exact BK260.out) NB260_0.out (by simp)); have n3_ := Aside0.mk (Kd.R_mono (Kd.R_keep (IsS140.apart (show IsS140 w0 _ g s0_0 t280 t281 from by repeat (first | (with_reducible first | exact HI0.out | apply IsS140.alloc | apply IsS140.drewN | apply IsS140.drew | apply IsS140.set_1 | apply IsS140.set_2 | refine IsS140.far ?_ NB0_250.out _ | refine IsS140.far ?_ NB0_260.out _) | exact HI0.out)) (by (with_reducible repeat (first | apply Kd.R_alloc | apply Kd.R_drewN | apply Kd.R_drew)); exact HO284.out) (by decide)) hk (fun _ h => h.2)) (fun _ h => h.1)); have n4_ := Aside0.mk (KeepBut.trans (by repeat (first | (with_reducible first | exact HK.out | apply KeepBut.set_ | apply keep_drewN | apply keep_drew | apply keep_alloc | refine keep_far ?_ GW250.out _ | refine keep_far ?_ GW260.out _) | exact HK.out)) hk (.inl rfl)); have n5_ := Aside0.mk (hb); have n6_ := Aside0.mk (hi); clear HO_30; clear BK250; clear BK260; clear HO284; clear HK; clear HB; clear HI0; have HO_30 := n0_; have BK250 := n1_; have BK260 := n2_; have HO284 := n3_; have HK := n4_; have HB := n5_; have HI0 := n6_; clear n0_ n1_ n2_ n3_ n4_ n5_ n6_; (try clear hb); (try clear hb2); (try clear hk); (try clear hi); have hcz56_0 : w55.cell? ⟨gb260, 0, none⟩ = some (.int .i64 x261000_2) := (blk_cell BK260.out 0).trans rfl; have hcz56_1 : w55.cell? ⟨gb260, 1, none⟩ = some (.int .i64 x261001_2) := (blk_cell BK260.out 1).trans rfl; have hcz56_2 : w55.cell? ⟨gb260, 2, none⟩ = some (.int .i64 x261002_2) := (blk_cell BK260.out 2).trans rfl; have hcz56_3 : w55.cell? ⟨gb260, 3, none⟩ = some (.int .i64 x261003_2) := (blk_cell BK260.out 3).trans rfl; have hfz56_0 := blk_frozen BK260.out 0; have hfz56_1 := blk_frozen BK260.out 1; have hfz56_2 := blk_frozen BK260.out 2; have hfz56_3 := blk_frozen BK260.out 3; have hnb57 := NB250_0.out; have hnc57 := NB0_250.out; have hcz58_0 : w55.cell? ⟨gb250, 0, none⟩ = some (.int .i64 0) := (blk_cell BK250.out 0).trans rfl; have hcz58_1 : w55.cell? ⟨gb250, 1, none⟩ = some (.int .i64 0) := (blk_cell BK250.out 1).trans rfl; have hcz58_2 : w55.cell? ⟨gb250, 2, none⟩ = some (.int .i64 0) := (blk_cell BK250.out 2).trans rfl; have hcz58_3 : w55.cell? ⟨gb250, 3, none⟩ = some (.int .i64 0) := (blk_cell BK250.out 3).trans rfl; have hfz58_0 := blk_frozen BK250.out 0; have hfz58_1 := blk_frozen BK250.out 1; have hfz58_2 := blk_frozen BK250.out 2; have hfz58_3 := blk_frozen BK250.out 3))
              refine bodyPost_ret (results_cell_row rfl _ _ gb250 68 #[.int .i64 x261000_2, .int .i64 x261001_2, .int .i64 t285, .int .i64 x261003_2] (0, 0) _ rfl (by (with_reducible repeat (first | refine blk_drewN ?_ _ | refine blk_drew ?_ | refine blk_alloc ?_ _)); refine blk_put (cs := #[.int .i64 x261000_2, .int .i64 x261001_2, .int .i64 t285, .int .i64 0]) ?_ 3 _ rfl; (with_reducible repeat (first | refine blk_drewN ?_ _ | refine blk_drew ?_ | refine blk_alloc ?_ _)); refine blk_put (cs := #[.int .i64 x261000_2, .int .i64 x261001_2, .int .i64 0, .int .i64 0]) ?_ 2 _ rfl; (with_reducible repeat (first | refine blk_drewN ?_ _ | refine blk_drew ?_ | refine blk_alloc ?_ _)); refine blk_put (cs := #[.int .i64 x261000_2, .int .i64 0, .int .i64 0, .int .i64 0]) ?_ 1 _ rfl; (with_reducible repeat (first | refine blk_drewN ?_ _ | refine blk_drew ?_ | refine blk_alloc ?_ _)); refine blk_put (cs := #[.int .i64 0, .int .i64 0, .int .i64 0, .int .i64 0]) ?_ 0 _ rfl; (with_reducible repeat (first | refine blk_drewN ?_ _ | refine blk_drew ?_ | refine blk_alloc ?_ _)); refine blk_far ?_ NB250_260.out _; (with_reducible repeat (first | refine blk_drewN ?_ _ | refine blk_drew ?_ | refine blk_alloc ?_ _)); exact BK250.out) Try.underlying68 rfl (by kernel_rfl)) rfl ?_
              exact ⟨by first | rfl | (simp [errW_none, errW_some] <;> rfl) | (simp [*, errW_none, errW_some] <;> rfl), by repeat (first | (with_reducible first | exact HI0.out | apply IsS140.alloc | apply IsS140.drewN | apply IsS140.drew | apply IsS140.set_1 | apply IsS140.set_2 | refine IsS140.far ?_ NB0_250.out _ | refine IsS140.far ?_ NB0_260.out _) | exact HI0.out), by repeat (first | (with_reducible first | exact HB.out | apply below_alloc | apply pw_below_drewN | apply below_drew1 | refine below_set ?_ (IsS140.ge HI0.out) | refine below_set ?_ GE250.out | refine below_set ?_ GE260.out) | exact HB.out), by repeat (first | (with_reducible first | exact HK.out | apply KeepBut.set_ | apply keep_drewN | apply keep_drew | apply keep_alloc | refine keep_far ?_ GW250.out _ | refine keep_far ?_ GW260.out _) | exact HK.out)⟩
            · replace c46 := Bool.eq_false_iff.mpr c46
              subst c46
              have H1 : (some (x261000_2, x261001_2, x261002_2, x261003_2, t280, t281)) = some (r1, r2, r3, r4, r5, r6) := by rw [if_neg (show ¬ (false = true) by decide)] at H; exact H
              clear H
              have H := H1
              clear H1
              simp only [Option.some.injEq, Prod.mk.injEq] at H
              obtain ⟨rfl, rfl, rfl, rfl, rfl, rfl⟩ := H
              go_wp2_with (first | ((with_reducible refine gate_callee (f := 121) rfl ?_); refine goesA (some 47) rfl rfl Try.func121 #[.pointer (some ⟨g, 0, none⟩), .int .i64 20] rfl ?_; (with_reducible refine (spec_l1Cur_one.calls g s0_0 t269 t270 20 false t280 t281 w0 _ ?side1 ?side2 A45.out).mono ?_); (case side1 => repeat (first | (with_reducible first | exact HI0.out | apply IsS140.alloc | apply IsS140.drewN | apply IsS140.drew | apply IsS140.set_1 | apply IsS140.set_2 | refine IsS140.far ?_ NB0_250.out _ | refine IsS140.far ?_ NB0_260.out _) | exact HI0.out)); (case side2 => repeat (first | (with_reducible first | exact HB.out | apply below_alloc | apply pw_below_drewN | apply below_drew1 | refine below_set ?_ (IsS140.ge HI0.out) | refine below_set ?_ GE250.out | refine below_set ?_ GE260.out) | exact HB.out)); rintro e w59 ⟨rfl, hi, hb, hk⟩; refine ⟨_, rfl, ?_⟩; have n0_ := Aside0.mk (Kd.R_mono (Kd.R_keep (IsS140.apart (show IsS140 w0 _ g s0_0 t269 t270 from by repeat (first | (with_reducible first | exact HI0.out | apply IsS140.alloc | apply IsS140.drewN | apply IsS140.drew | apply IsS140.set_1 | apply IsS140.set_2 | refine IsS140.far ?_ NB0_250.out _ | refine IsS140.far ?_ NB0_260.out _) | exact HI0.out)) (by (with_reducible repeat (first | apply Kd.R_alloc | apply Kd.R_drewN | apply Kd.R_drew)); exact HO_30.out) (by decide)) hk (fun _ h => h.2)) (fun _ h => h.1)); have n1_ := Aside0.mk (KeepBut.blk hk (g' := gb250) (o := .cells #[.int .i64 0, .int .i64 0, .int .i64 0, .int .i64 0] 68 (0, 0)) (by (with_reducible repeat (first | refine blk_drewN ?_ _ | refine blk_drew ?_ | refine blk_alloc ?_ _)); exact BK250.out) NB250_0.out (by simp)); have n2_ := Aside0.mk (KeepBut.blk hk (g' := gb260) (o := .cells #[.int .i64 x261000_2, .int .i64 x261001_2, .int .i64 x261002_2, .int .i64 x261003_2] 68 (0, 0)) (by (with_reducible repeat (first | refine blk_drewN ?_ _ | refine blk_drew ?_ | refine blk_alloc ?_ _)); exact BK260.out) NB260_0.out (by simp)); have n3_ := Aside0.mk (KeepBut.trans (by repeat (first | (with_reducible first | exact HK.out | apply KeepBut.set_ | apply keep_drewN | apply keep_drew | apply keep_alloc | refine keep_far ?_ GW250.out _ | refine keep_far ?_ GW260.out _) | exact HK.out)) hk (.inl rfl)); have n4_ := Aside0.mk (hb); have n5_ := Aside0.mk (hi); clear HO_30; clear BK250; clear BK260; clear HK; clear HB; clear HI0; have HO_30 := n0_; have BK250 := n1_; have BK260 := n2_; have HK := n3_; have HB := n4_; have HI0 := n5_; clear n0_ n1_ n2_ n3_ n4_ n5_; (try clear hb); (try clear hb2); (try clear hk); (try clear hi); have hnb60 := NB260_250.out; have hnc60 := NB250_260.out; have hnb61 := NB260_0.out; have hnc61 := NB0_260.out; have hcz62_0 : w59.cell? ⟨gb260, 0, none⟩ = some (.int .i64 x261000_2) := (blk_cell BK260.out 0).trans rfl; have hcz62_1 : w59.cell? ⟨gb260, 1, none⟩ = some (.int .i64 x261001_2) := (blk_cell BK260.out 1).trans rfl; have hcz62_2 : w59.cell? ⟨gb260, 2, none⟩ = some (.int .i64 x261002_2) := (blk_cell BK260.out 2).trans rfl; have hcz62_3 : w59.cell? ⟨gb260, 3, none⟩ = some (.int .i64 x261003_2) := (blk_cell BK260.out 3).trans rfl; have hfz62_0 := blk_frozen BK260.out 0; have hfz62_1 := blk_frozen BK260.out 1; have hfz62_2 := blk_frozen BK260.out 2; have hfz62_3 := blk_frozen BK260.out 3; have hnb63 := NB250_0.out; have hnc63 := NB0_250.out; have hcz64_0 : w59.cell? ⟨gb250, 0, none⟩ = some (.int .i64 0) := (blk_cell BK250.out 0).trans rfl; have hcz64_1 : w59.cell? ⟨gb250, 1, none⟩ = some (.int .i64 0) := (blk_cell BK250.out 1).trans rfl; have hcz64_2 : w59.cell? ⟨gb250, 2, none⟩ = some (.int .i64 0) := (blk_cell BK250.out 2).trans rfl; have hcz64_3 : w59.cell? ⟨gb250, 3, none⟩ = some (.int .i64 0) := (blk_cell BK250.out 3).trans rfl; have hfz64_0 := blk_frozen BK250.out 0; have hfz64_1 := blk_frozen BK250.out 1; have hfz64_2 := blk_frozen BK250.out 2; have hfz64_3 := blk_frozen BK250.out 3))
              refine bodyPost_ret (results_cell_row rfl _ _ gb250 68 #[.int .i64 x261000_2, .int .i64 x261001_2, .int .i64 x261002_2, .int .i64 x261003_2] (0, 0) _ rfl (by (with_reducible repeat (first | refine blk_drewN ?_ _ | refine blk_drew ?_ | refine blk_alloc ?_ _)); refine blk_put (cs := #[.int .i64 x261000_2, .int .i64 x261001_2, .int .i64 x261002_2, .int .i64 0]) ?_ 3 _ rfl; (with_reducible repeat (first | refine blk_drewN ?_ _ | refine blk_drew ?_ | refine blk_alloc ?_ _)); refine blk_put (cs := #[.int .i64 x261000_2, .int .i64 x261001_2, .int .i64 0, .int .i64 0]) ?_ 2 _ rfl; (with_reducible repeat (first | refine blk_drewN ?_ _ | refine blk_drew ?_ | refine blk_alloc ?_ _)); refine blk_put (cs := #[.int .i64 x261000_2, .int .i64 0, .int .i64 0, .int .i64 0]) ?_ 1 _ rfl; (with_reducible repeat (first | refine blk_drewN ?_ _ | refine blk_drew ?_ | refine blk_alloc ?_ _)); refine blk_put (cs := #[.int .i64 0, .int .i64 0, .int .i64 0, .int .i64 0]) ?_ 0 _ rfl; (with_reducible repeat (first | refine blk_drewN ?_ _ | refine blk_drew ?_ | refine blk_alloc ?_ _)); exact BK250.out) Try.underlying68 rfl (by kernel_rfl)) rfl ?_
              exact ⟨by first | rfl | (simp [errW_none, errW_some] <;> rfl) | (simp [*, errW_none, errW_some] <;> rfl), by repeat (first | (with_reducible first | exact HI0.out | apply IsS140.alloc | apply IsS140.drewN | apply IsS140.drew | apply IsS140.set_1 | apply IsS140.set_2 | refine IsS140.far ?_ NB0_250.out _ | refine IsS140.far ?_ NB0_260.out _) | exact HI0.out), by repeat (first | (with_reducible first | exact HB.out | apply below_alloc | apply pw_below_drewN | apply below_drew1 | refine below_set ?_ (IsS140.ge HI0.out) | refine below_set ?_ GE250.out | refine below_set ?_ GE260.out) | exact HB.out), by repeat (first | (with_reducible first | exact HK.out | apply KeepBut.set_ | apply keep_drewN | apply keep_drew | apply keep_alloc | refine keep_far ?_ GW250.out _ | refine keep_far ?_ GW260.out _) | exact HK.out)⟩

/-! ### spec_DrawAskBucket: function 43 -/
def spec_DrawAskBucket.f (k : Nat) (l0 : List Int) : Option (Int × Int × Int × Int × Int) := (spec_l1Cur_bucket.f k l0 0 0).bind fun bt290 => ((spec_l1Cur_pick.f l0 bt290.2.2.2.2.1 bt290.2.2.2.2.2 12).bind fun bt297 => (some (bt290.1, bt290.2.1, bt290.2.2.1, bt290.2.2.2.1, wrap64 ((wrap64 (bt290.2.2.2.1 + bt297.1)) - 1))))
theorem spec_DrawAskBucket.mono : ∀ a0 k, LeO (spec_DrawAskBucket.f k a0) (spec_DrawAskBucket.f (k + 1) a0) := by
  intro a0 k
  unfold spec_DrawAskBucket.f
  repeat' first
      | (with_reducible exact spec_l1Cur_bucket.mono _ _ _ _)
      | (with_reducible exact LeO.refl _)
      | (with_reducible exact LeO.none _)
      | (with_reducible refine LeO.ite ?_ ?_)
      | (with_reducible refine LeO.bind ?_ (fun _ => ?_))
      | exact spec_l1Cur_bucket.mono _ _ _ _
      | exact LeO.none _
      | refine LeO.ite ?_ ?_
      | refine LeO.bind ?_ (fun _ => ?_)
def spec_DrawAskBucket.T3 : Bool × List (List Nat × List Nat) := (true, [([], []), ([], []), ([1], [1]), ([], []), ([3], [3]), ([2, 4], [2, 4]), ([5], [5]), ([0, 4, 0], [0]), ([6, 7, 0, 1, 2, 3, 4, 5, 6, 7], [6])])
def spec_DrawAskBucket.B3 : List Nat := [0, 0, 2, 0, 8, 30, 62, 25, 255]
theorem spec_DrawAskBucket.tab3 : rtab .any (opsOf Try.f43 3) = spec_DrawAskBucket.T3 := by kernel_rfl
theorem spec_DrawAskBucket.bits3 : waitsOk spec_DrawAskBucket.T3.2 spec_DrawAskBucket.B3 = true := by kernel_rfl
set_option maxHeartbeats 8000000 in
set_option maxRecDepth 100000 in
theorem spec_DrawAskBucket.calls (k : Nat) (A0 : Option Addr) (c0 : Nat) (l0 : List Int) (r1 : Int) (r2 : Int) (r3 : Int) (r4 : Int) (r5 : Int) (w : World) (hr0 : Kd.C (Kd.int .u8) w A0 l0.length l0) (hc0 : l0.length ≤ c0) (h : spec_DrawAskBucket.f k l0 = some (r1, r2, r3, r4, r5)) :
    Calls Try.prog 43 #[.slice A0 l0.length c0] w fun e w' => e = .returned (.tuple #[.agg #[.int .i64 r1, .int .i64 r2, .int .i64 r3, .int .i64 r4], .int .i64 r5]) ∧ Below w.heap.size w w' := by
  have hu68 := Try.underlying68
  have hu140 := Try.underlying140
  have HR0 := Aside0.mk hr0
  have HC0 := Aside0.mk hc0
  clear hr0 hc0
  have HB := Aside0.mk (Below.refl w.heap.size w)
  have H : ((spec_l1Cur_bucket.f k l0 0 0).bind fun bt290 => ((spec_l1Cur_pick.f l0 bt290.2.2.2.2.1 bt290.2.2.2.2.2 12).bind fun bt297 => (some (bt290.1, bt290.2.1, bt290.2.2.1, bt290.2.2.2.1, wrap64 ((wrap64 (bt290.2.2.2.1 + bt297.1)) - 1))))) = some (r1, r2, r3, r4, r5) := h
  clear h
  replace H := Option.bind_eq_some_iff.mp H
  obtain ⟨⟨t290, t291, t292, t293, t294, t295⟩, A20, H⟩ := H
  replace H : ((spec_l1Cur_pick.f l0 t294 t295 12).bind fun bt297 => (some (t290, t291, t292, t293, wrap64 ((wrap64 (t293 + bt297.1)) - 1)))) = some (r1, r2, r3, r4, r5) := H
  have A2 := Aside0.mk A20
  clear A20
  replace H := Option.bind_eq_some_iff.mp H
  obtain ⟨⟨t297, t298, t299⟩, A30, H⟩ := H
  replace H : (some (t290, t291, t292, t293, wrap64 ((wrap64 (t293 + t297)) - 1))) = some (r1, r2, r3, r4, r5) := H
  have A3 := Aside0.mk A30
  clear A30
  simp only [Option.some.injEq, Prod.mk.injEq] at H
  obtain ⟨rfl, rfl, rfl, rfl, rfl⟩ := H
  go_enter Try.func43, Try.ntmps43
  try go_wp2_with (first | ((with_reducible refine gate_dst (N := 2) rfl ?_); refine box_event ?hg (N := 2) ?hd (cs := #[.int .i64 0, .int .i64 0, .int .i64 0, .int .i64 0]) (t := 68) ?hr ?_; (case hd => rfl); (case hg => rfl); (case hr => first | (go_simp; done) | (go_simp; rfl)); intro gb288 hg w4 hbox hb; have n0_ := Aside0.mk (below_step (by repeat (first | (with_reducible first | exact HB.out | apply below_alloc | apply pw_below_drewN | apply below_drew1) | exact HB.out)) hb); have n1_ := Aside0.mk (hbox); have n2_ := Aside0.mk ((by rw [hg]; exact (below_size (by repeat (first | (with_reducible first | exact HB.out | apply below_alloc | apply pw_below_drewN | apply below_drew1) | exact HB.out))) : w.heap.size ≤ gb288)); have n3_ := Aside0.mk ((by rw [hg]; exact (below_size (by repeat (first | (with_reducible first | exact HB.out | apply below_alloc | apply pw_below_drewN | apply below_drew1) | exact HB.out))) : w.heap.size ≤ gb288)); clear HB; have HB := n0_; have BK288 := n1_; have GW288 := n2_; have GE288 := n3_; clear n0_ n1_ n2_ n3_; clear hb hbox hg) | ((with_reducible refine gate_dst (N := 8) rfl ?_); refine box_event ?hg (N := 8) ?hd (cs := #[.slice A0 l0.length c0, .int .i64 0, .int .u64 0]) (t := 140) ?hr ?_; (case hd => rfl); (case hg => rfl); (case hr => first | (go_simp; done) | (go_simp; rfl)); intro gb289 hg w5 hbox hb; have n0_ := Aside0.mk (blk_below (g := gb288) (o := .cells #[.int .i64 0, .int .i64 0, .int .i64 0, .int .i64 0] 68 (0, 0)) (by (with_reducible repeat (first | refine blk_drewN ?_ _ | refine blk_drew ?_ | refine blk_alloc ?_ _)); exact BK288.out) hb); have n1_ := Aside0.mk (below_step (by repeat (first | (with_reducible first | exact HB.out | apply below_alloc | apply pw_below_drewN | apply below_drew1 | refine below_set ?_ GE288.out) | exact HB.out)) hb); have n2_ := Aside0.mk (hbox); have n3_ := Aside0.mk ((by rw [hg]; exact (below_size (by repeat (first | (with_reducible first | exact HB.out | apply below_alloc | apply pw_below_drewN | apply below_drew1 | refine below_set ?_ GE288.out) | exact HB.out))) : w.heap.size ≤ gb289)); have n4_ := Aside0.mk ((by rw [hg]; exact (below_size (by repeat (first | (with_reducible first | exact HB.out | apply below_alloc | apply pw_below_drewN | apply below_drew1 | refine below_set ?_ GE288.out) | exact HB.out))) : w.heap.size ≤ gb289)); have n5_ := Aside0.mk ((by rw [hg]; exact Nat.ne_of_lt (blk_lt (g := gb288) (o := .cells #[.int .i64 0, .int .i64 0, .int .i64 0, .int .i64 0] 68 (0, 0)) (by (with_reducible repeat (first | refine blk_drewN ?_ _ | refine blk_drew ?_ | refine blk_alloc ?_ _)); exact BK288.out)) : gb288 ≠ gb289)); have n6_ := Aside0.mk ((by rw [hg]; exact Nat.ne_of_gt (blk_lt (g := gb288) (o := .cells #[.int .i64 0, .int .i64 0, .int .i64 0, .int .i64 0] 68 (0, 0)) (by (with_reducible repeat (first | refine blk_drewN ?_ _ | refine blk_drew ?_ | refine blk_alloc ?_ _)); exact BK288.out)) : gb289 ≠ gb288)); clear BK288; clear HB; have BK288 := n0_; have HB := n1_; have BK289 := n2_; have GW289 := n3_; have GE289 := n4_; have NB288_289 := n5_; have NB289_288 := n6_; clear n0_ n1_ n2_ n3_ n4_ n5_ n6_; clear hb hbox hg) | ((with_reducible refine gate_callee (f := 110) rfl ?_); refine goesA (some 10) rfl rfl Try.func110 #[.pointer (some ⟨gb289, 0, none⟩)] rfl ?_; (with_reducible refine (spec_l1Cur_bucket.calls k gb289 l0 0 0 t290 t291 t292 t293 t294 t295 w _ ?side1 ?side2 A2.out).mono ?_); (case side1 => exact ⟨_, _, (by (with_reducible repeat (first | refine blk_drewN ?_ _ | refine blk_drew ?_ | refine blk_alloc ?_ _)); exact BK289.out), GE289.out, HR0.out⟩); (case side2 => repeat (first | (with_reducible first | exact HB.out | apply below_alloc | apply pw_below_drewN | apply below_drew1 | refine below_set ?_ (IsS140.ge HI289.out) | refine below_set ?_ GE288.out) | exact HB.out)); rintro e w6 ⟨rfl, hi, hb, hk⟩; refine ⟨_, rfl, ?_⟩; have n0_ := Aside0.mk (KeepBut.blk hk (g' := gb288) (o := .cells #[.int .i64 0, .int .i64 0, .int .i64 0, .int .i64 0] 68 (0, 0)) (by (with_reducible repeat (first | refine blk_drewN ?_ _ | refine blk_drew ?_ | refine blk_alloc ?_ _)); exact BK288.out) NB288_289.out (by simp)); have n1_ := Aside0.mk (hb); have n2_ := Aside0.mk (hi); clear BK288; clear HB; clear BK289; have BK288 := n0_; have HB := n1_; have HI289 := n2_; clear n0_ n1_ n2_; (try clear hb); (try clear hb2); (try clear hk); (try clear hi)) | ((with_reducible refine gate_dst (N := 5) rfl ?_); refine box_event ?hg (N := 5) ?hd (cs := #[.int .i64 0, .int .i64 0, .int .i64 0, .int .i64 0]) (t := 68) ?hr ?_; (case hd => rfl); (case hg => rfl); (case hr => first | (go_simp; done) | (go_simp; rfl)); intro gb296 hg w7 hbox hb; have n0_ := Aside0.mk (blk_below (g := gb288) (o := .cells #[.int .i64 0, .int .i64 0, .int .i64 0, .int .i64 0] 68 (0, 0)) (by (with_reducible repeat (first | refine blk_drewN ?_ _ | refine blk_drew ?_ | refine blk_alloc ?_ _)); exact BK288.out) hb); have n1_ := Aside0.mk (IsS140.below (by repeat (first | (with_reducible first | exact HI289.out | apply IsS140.alloc | apply IsS140.drewN | apply IsS140.drew | apply IsS140.set_1 | apply IsS140.set_2 | refine IsS140.far ?_ NB289_288.out _) | exact HI289.out)) hb); have n2_ := Aside0.mk (below_step (by repeat (first | (with_reducible first | exact HB.out | apply below_alloc | apply pw_below_drewN | apply below_drew1 | refine below_set ?_ (IsS140.ge HI289.out) | refine below_set ?_ GE288.out) | exact HB.out)) hb); have n3_ := Aside0.mk (hbox); have n4_ := Aside0.mk ((by rw [hg]; exact (below_size (by repeat (first | (with_reducible first | exact HB.out | apply below_alloc | apply pw_below_drewN | apply below_drew1 | refine below_set ?_ (IsS140.ge HI289.out) | refine below_set ?_ GE288.out) | exact HB.out))) : w.heap.size ≤ gb296)); have n5_ := Aside0.mk ((by rw [hg]; exact (below_size (by repeat (first | (with_reducible first | exact HB.out | apply below_alloc | apply pw_below_drewN | apply below_drew1 | refine below_set ?_ (IsS140.ge HI289.out) | refine below_set ?_ GE288.out) | exact HB.out))) : w.heap.size ≤ gb296)); have n6_ := Aside0.mk ((by rw [hg]; exact Nat.ne_of_lt (blk_lt (g := gb288) (o := .cells #[.int .i64 0, .int .i64 0, .int .i64 0, .int .i64 0] 68 (0, 0)) (by (with_reducible repeat (first | refine blk_drewN ?_ _ | refine blk_drew ?_ | refine blk_alloc ?_ _)); exact BK288.out)) : gb288 ≠ gb296)); have n7_ := Aside0.mk ((by rw [hg]; exact Nat.ne_of_gt (blk_lt (g := gb288) (o := .cells #[.int .i64 0, .int .i64 0, .int .i64 0, .int .i64 0] 68 (0, 0)) (by (with_reducible repeat (first | refine blk_drewN ?_ _ | refine blk_drew ?_ | refine blk_alloc ?_ _)); exact BK288.out)) : gb296 ≠ gb288)); have n8_ := Aside0.mk ((by rw [hg]; exact Nat.ne_of_lt (IsS140.lt (show IsS140 w _ gb289 l0 t294 t295 from by repeat (first | (with_reducible first | exact HI289.out | apply IsS140.alloc | apply IsS140.drewN | apply IsS140.drew | apply IsS140.set_1 | apply IsS140.set_2 | refine IsS140.far ?_ NB289_288.out _) | exact HI289.out))) : gb289 ≠ gb296)); have n9_ := Aside0.mk ((by rw [hg]; exact Nat.ne_of_gt (IsS140.lt (show IsS140 w _ gb289 l0 t294 t295 from by repeat (first | (with_reducible first | exact HI289.out | apply IsS140.alloc | apply IsS140.drewN | apply IsS140.drew | apply IsS140.set_1 | apply IsS140.set_2 | refine IsS140.far ?_ NB289_288.out _) | exact HI289.out))) : gb296 ≠ gb289)); clear BK288; clear HI289; clear HB; have BK288 := n0_; have HI289 := n1_; have HB := n2_; have BK296 := n3_; have GW296 := n4_; have GE296 := n5_; have NB288_296 := n6_; have NB296_288 := n7_; have NB289_296 := n8_; have NB296_289 := n9_; clear n0_ n1_ n2_ n3_ n4_ n5_ n6_ n7_ n8_ n9_; clear hb hbox hg; have hnb8 := NB296_288.out; have hnc8 := NB288_296.out; have hnb9 := NB296_289.out; have hnc9 := NB289_296.out; have hcz10_0 : w7.cell? ⟨gb296, 0, none⟩ = some (.int .i64 0) := (blk_cell BK296.out 0).trans rfl; have hcz10_1 : w7.cell? ⟨gb296, 1, none⟩ = some (.int .i64 0) := (blk_cell BK296.out 1).trans rfl; have hcz10_2 : w7.cell? ⟨gb296, 2, none⟩ = some (.int .i64 0) := (blk_cell BK296.out 2).trans rfl; have hcz10_3 : w7.cell? ⟨gb296, 3, none⟩ = some (.int .i64 0) := (blk_cell BK296.out 3).trans rfl; have hfz10_0 := blk_frozen BK296.out 0; have hfz10_1 := blk_frozen BK296.out 1; have hfz10_2 := blk_frozen BK296.out 2; have hfz10_3 := blk_frozen BK296.out 3))
  have n0_ : Aside0 (((((w7.setCell ⟨gb296, 0, none⟩ (.int .i64 t290)).setCell ⟨gb296, 1, none⟩ (.int .i64 t291)).setCell ⟨gb296, 2, none⟩ (.int .i64 t292)).setCell ⟨gb296, 3, none⟩ (.int .i64 t293)).heap[gb288]? = some (.cells #[.int .i64 0, .int .i64 0, .int .i64 0, .int .i64 0] 68 (0, 0))) := ⟨by (with_reducible repeat (first | refine blk_drewN ?_ _ | refine blk_drew ?_ | refine blk_alloc ?_ _)); refine blk_far ?_ NB288_296.out _; (with_reducible repeat (first | refine blk_drewN ?_ _ | refine blk_drew ?_ | refine blk_alloc ?_ _)); refine blk_far ?_ NB288_296.out _; (with_reducible repeat (first | refine blk_drewN ?_ _ | refine blk_drew ?_ | refine blk_alloc ?_ _)); refine blk_far ?_ NB288_296.out _; (with_reducible repeat (first | refine blk_drewN ?_ _ | refine blk_drew ?_ | refine blk_alloc ?_ _)); refine blk_far ?_ NB288_296.out _; (with_reducible repeat (first | refine blk_drewN ?_ _ | refine blk_drew ?_ | refine blk_alloc ?_ _)); exact BK288.out⟩
  have n1_ : Aside0 (((((w7.setCell ⟨gb296, 0, none⟩ (.int .i64 t290)).setCell ⟨gb296, 1, none⟩ (.int .i64 t291)).setCell ⟨gb296, 2, none⟩ (.int .i64 t292)).setCell ⟨gb296, 3, none⟩ (.int .i64 t293)).heap[gb296]? = some (.cells #[.int .i64 t290, .int .i64 t291, .int .i64 t292, .int .i64 t293] 68 (0, 0))) := ⟨by (with_reducible repeat (first | refine blk_drewN ?_ _ | refine blk_drew ?_ | refine blk_alloc ?_ _)); refine blk_put (cs := #[.int .i64 t290, .int .i64 t291, .int .i64 t292, .int .i64 0]) ?_ 3 _ rfl; (with_reducible repeat (first | refine blk_drewN ?_ _ | refine blk_drew ?_ | refine blk_alloc ?_ _)); refine blk_put (cs := #[.int .i64 t290, .int .i64 t291, .int .i64 0, .int .i64 0]) ?_ 2 _ rfl; (with_reducible repeat (first | refine blk_drewN ?_ _ | refine blk_drew ?_ | refine blk_alloc ?_ _)); refine blk_put (cs := #[.int .i64 t290, .int .i64 0, .int .i64 0, .int .i64 0]) ?_ 1 _ rfl; (with_reducible repeat (first | refine blk_drewN ?_ _ | refine blk_drew ?_ | refine blk_alloc ?_ _)); refine blk_put (cs := #[.int .i64 0, .int .i64 0, .int .i64 0, .int .i64 0]) ?_ 0 _ rfl; (with_reducible repeat (first | refine blk_drewN ?_ _ | refine blk_drew ?_ | refine blk_alloc ?_ _)); exact BK296.out⟩
  have n2_ : Aside0 (IsS140 w ((((w7.setCell ⟨gb296, 0, none⟩ (.int .i64 t290)).setCell ⟨gb296, 1, none⟩ (.int .i64 t291)).setCell ⟨gb296, 2, none⟩ (.int .i64 t292)).setCell ⟨gb296, 3, none⟩ (.int .i64 t293)) gb289 l0 t294 t295) := ⟨by repeat (first | (with_reducible first | exact HI289.out | apply IsS140.alloc | apply IsS140.drewN | apply IsS140.drew | apply IsS140.set_1 | apply IsS140.set_2 | refine IsS140.far ?_ NB289_288.out _ | refine IsS140.far ?_ NB289_296.out _) | exact HI289.out)⟩
  have n3_ : Aside0 (Below w.heap.size w ((((w7.setCell ⟨gb296, 0, none⟩ (.int .i64 t290)).setCell ⟨gb296, 1, none⟩ (.int .i64 t291)).setCell ⟨gb296, 2, none⟩ (.int .i64 t292)).setCell ⟨gb296, 3, none⟩ (.int .i64 t293))) := ⟨by repeat (first | (with_reducible first | exact HB.out | apply below_alloc | apply pw_below_drewN | apply below_drew1 | refine below_set ?_ (IsS140.ge HI289.out) | refine below_set ?_ GE288.out | refine below_set ?_ GE296.out) | exact HB.out)⟩
  (try clear BK288)
  (try clear BK296)
  (try clear HI289)
  (try clear HB)
  generalize ((((w7.setCell ⟨gb296, 0, none⟩ (.int .i64 t290)).setCell ⟨gb296, 1, none⟩ (.int .i64 t291)).setCell ⟨gb296, 2, none⟩ (.int .i64 t292)).setCell ⟨gb296, 3, none⟩ (.int .i64 t293)) = w11 at n0_ n1_ n2_ n3_ ⊢
  have BK288 := n0_
  have BK296 := n1_
  have HI289 := n2_
  have HB := n3_
  clear n0_ n1_ n2_ n3_
  (try (rw [drewN_self w11]; generalize hq_ : World.drewN w11 _ = w11; have n0_ : Aside0 (w11.heap[gb288]? = some (.cells #[.int .i64 0, .int .i64 0, .int .i64 0, .int .i64 0] 68 (0, 0))) := ⟨by rw [← hq_]; exact (by (with_reducible repeat (first | refine blk_drewN ?_ _ | refine blk_drew ?_ | refine blk_alloc ?_ _)); exact BK288.out)⟩; have n1_ : Aside0 (w11.heap[gb296]? = some (.cells #[.int .i64 t290, .int .i64 t291, .int .i64 t292, .int .i64 t293] 68 (0, 0))) := ⟨by rw [← hq_]; exact (by (with_reducible repeat (first | refine blk_drewN ?_ _ | refine blk_drew ?_ | refine blk_alloc ?_ _)); exact BK296.out)⟩; have n2_ : Aside0 (IsS140 w w11 gb289 l0 t294 t295) := ⟨by rw [← hq_]; exact (by repeat (first | (with_reducible first | exact HI289.out | apply IsS140.alloc | apply IsS140.drewN | apply IsS140.drew | apply IsS140.set_1 | apply IsS140.set_2 | refine IsS140.far ?_ NB289_288.out _ | refine IsS140.far ?_ NB289_296.out _) | exact HI289.out))⟩; have n3_ : Aside0 (Below w.heap.size w w11) := ⟨by rw [← hq_]; exact (by repeat (first | (with_reducible first | exact HB.out | apply below_alloc | apply pw_below_drewN | apply below_drew1 | refine below_set ?_ (IsS140.ge HI289.out) | refine below_set ?_ GE288.out | refine below_set ?_ GE296.out) | exact HB.out))⟩; clear BK288 BK296 HI289 HB hq_; have BK288 := n0_; have BK296 := n1_; have HI289 := n2_; have HB := n3_; clear n0_ n1_ n2_ n3_))
  have n0_ := Aside0.mk (blk_drew BK288.out)
  have n1_ := Aside0.mk (blk_drew BK296.out)
  have n2_ := Aside0.mk (IsS140.drew HI289.out)
  have n3_ := Aside0.mk (below_drew1 HB.out)
  clear BK288
  clear BK296
  clear HI289
  clear HB
  have BK288 := n0_
  have BK296 := n1_
  have HI289 := n2_
  have HB := n3_
  clear n0_ n1_ n2_ n3_
  refine start_ (n := 9) (S := fun w' => w'.cell? ⟨gb296, 0, none⟩ = some (.int .i64 t290) ∧ w'.cell? ⟨gb296, 1, none⟩ = some (.int .i64 t291) ∧ w'.cell? ⟨gb296, 2, none⟩ = some (.int .i64 t292) ∧ w'.cell? ⟨gb296, 3, none⟩ = some (.int .i64 t293)) (ds := []) #[false, false, false, false, false, false, false, false, false] (by kernel_rfl) rfl rfl ⟨(blk_cell BK296.out 0).trans rfl, (blk_cell BK296.out 1).trans rfl, (blk_cell BK296.out 2).trans rfl, (blk_cell BK296.out 3).trans rfl⟩ (fun hHeld => ?_); refine with_tabW spec_DrawAskBucket.tab3 spec_DrawAskBucket.bits3 (fun HT_ HW_ => ?_)
  generalize w11.drew = w12 at BK288 BK296 HI289 HB hHeld ⊢
  refine pure_ (i := 1) (N := some 12) (v := ?_) (a' := ?_) #[false, true, false, false, false, false, false, false, false] rfl rfl (any_of HT_.out (by kernel_rfl)) (fun _ _ _ h => h) (Or.inl ⟨by rfl, ?_⟩) ?_ ?_
  rotate_left
  · intro w'
    go_simp
    with_reducible rfl
  rotate_left
  · simp only [Act.put, List.setIfInBounds_toArray, List.set_cons_zero, List.set_cons_succ, i64_w, i32_w]
    rfl
  refine pure_ (i := 3) (N := some 14) (v := ?_) (a' := ?_) #[false, true, false, true, false, false, false, false, false] rfl rfl (any_of HT_.out (by kernel_rfl)) (fun _ _ _ h => h) (Or.inl ⟨by rfl, ?_⟩) ?_ ?_
  rotate_left
  · intro w'
    go_simp
    with_reducible rfl
  rotate_left
  · simp only [Act.put, List.setIfInBounds_toArray, List.set_cons_zero, List.set_cons_succ, i64_w, i32_w]
    rfl
  refine take_ (i := 0) (N := some 11) (v := ?_) (a' := ?_) #[true, true, false, true, false, false, false, false, false] rfl rfl (take_ofW HT_.out HW_.out (by kernel_rfl)) (fun _ _ _ h => h) (Or.inl ⟨by rfl, ?_⟩) hHeld ?_ ?_
  rotate_left
  · rintro w' ⟨s0, s1, s2, s3⟩
    go_simp
    with_reducible rfl
  rotate_left
  · simp only [Act.put, List.setIfInBounds_toArray, List.set_cons_zero, List.set_cons_succ, i64_w, i32_w]
    rfl
  refine take_ (i := 2) (N := some 13) (v := ?_) (a' := ?_) #[true, true, true, true, false, false, false, false, false] rfl rfl (take_ofW HT_.out HW_.out (by kernel_rfl)) (fun _ _ _ h => h) (Or.inl ⟨by rfl, ?_⟩) hHeld ?_ ?_
  rotate_left
  · rintro w' ⟨s0, s1, s2, s3⟩
    go_simp
    with_reducible rfl
  rotate_left
  · simp only [Act.put, List.setIfInBounds_toArray, List.set_cons_zero, List.set_cons_succ, i64_w, i32_w]
    rfl
  refine one_ (i := 4) (N := some 15) #[true, true, true, true, true, false, false, false, false] rfl rfl (one_of HT_.out (by kernel_rfl)) (by decide) (fun K hK => ?_)
  refine goes_ Try.func111 (by kernel_rfl) rfl #[.pointer (some ⟨gb289, 0, none⟩), .int .i64 12] (by rfl) rfl rfl (by (try simp only [List.map_toArray, List.map_cons, List.map_nil]); first | done | rfl | (simp only [List.length_drop, List.length_take]; rfl)) ?_
  with_reducible refine (spec_l1Cur_pick.calls gb289 l0 t294 t295 12 t297 t298 t299 w _ ?side1 ?side2 A3.out).mono ?_
  (case side1 => repeat (first | (with_reducible first | exact HI289.out | apply IsS140.alloc | apply IsS140.drewN | apply IsS140.drew | apply IsS140.set_1 | apply IsS140.set_2 | refine IsS140.far ?_ NB289_288.out _ | refine IsS140.far ?_ NB289_296.out _) | exact HI289.out))
  (case side2 => repeat (first | (with_reducible first | exact HB.out | apply below_alloc | apply pw_below_drewN | apply below_drew1 | refine below_set ?_ (IsS140.ge HI289.out) | refine below_set ?_ GE288.out | refine below_set ?_ GE296.out) | exact HB.out))
  rintro e w13 ⟨rfl, hi, hb, hk⟩
  refine ⟨_, rfl, ?_⟩
  have n0_ := Aside0.mk (KeepBut.blk hk (g' := gb288) (o := .cells #[.int .i64 0, .int .i64 0, .int .i64 0, .int .i64 0] 68 (0, 0)) (by (with_reducible repeat (first | refine blk_drewN ?_ _ | refine blk_drew ?_ | refine blk_alloc ?_ _)); exact BK288.out) NB288_289.out (by simp))
  have n1_ := Aside0.mk (KeepBut.blk hk (g' := gb296) (o := .cells #[.int .i64 t290, .int .i64 t291, .int .i64 t292, .int .i64 t293] 68 (0, 0)) (by (with_reducible repeat (first | refine blk_drewN ?_ _ | refine blk_drew ?_ | refine blk_alloc ?_ _)); exact BK296.out) NB296_289.out (by simp))
  have n2_ := Aside0.mk (hb)
  have n3_ := Aside0.mk (hi)
  clear BK288
  clear BK296
  clear HB
  clear HI289
  have BK288 := n0_
  have BK296 := n1_
  have HB := n2_
  have HI289 := n3_
  clear n0_ n1_ n2_ n3_
  (try clear hb)
  (try clear hb2)
  (try clear hk)
  (try clear hi)
  refine hK.out _ _ ⟨(blk_cell BK296.out 0).trans rfl, (blk_cell BK296.out 1).trans rfl, (blk_cell BK296.out 2).trans rfl, (blk_cell BK296.out 3).trans rfl⟩ (fun hHeld => ?_)
  clear hK K
  refine norm_ (a' := ?_) ?_ ?_
  rotate_left
  · show Act.put _ (some 15) _ = _
    simp only [Act.put, List.setIfInBounds_toArray, List.set_cons_zero, List.set_cons_succ, i64_w, i32_w]
    rfl
  refine pure_ (i := 5) (N := some 16) (v := ?_) (a' := ?_) #[true, true, true, true, true, true, false, false, false] rfl rfl (any_of HT_.out (by kernel_rfl)) (fun _ _ _ h => h) (Or.inl ⟨by rfl, ?_⟩) ?_ ?_
  rotate_left
  · intro w'
    go_simp
    with_reducible rfl
  rotate_left
  · simp only [Act.put, List.setIfInBounds_toArray, List.set_cons_zero, List.set_cons_succ, i64_w, i32_w]
    rfl
  refine pure_ (i := 6) (N := some 17) (v := ?_) (a' := ?_) #[true, true, true, true, true, true, true, false, false] rfl rfl (any_of HT_.out (by kernel_rfl)) (fun _ _ _ h => h) (Or.inl ⟨by rfl, ?_⟩) ?_ ?_
  rotate_left
  · intro w'
    go_simp
    with_reducible rfl
  rotate_left
  · simp only [Act.put, List.setIfInBounds_toArray, List.set_cons_zero, List.set_cons_succ, i64_w, i32_w]
    rfl
  refine one_ (i := 7) (N := none) #[true, true, true, true, true, true, true, true, false] rfl rfl (one_of HT_.out (by kernel_rfl)) (by decide) (fun K hK => ?_)
  have hs14 : w13.cell? ⟨gb288, 0, none⟩ = some (.int .i64 0) := (blk_cell BK288.out 0).trans rfl
  have hfs14 := blk_frozen BK288.out 0
  have hns14_1 := NB296_288.out
  have hms14_1 := NB288_296.out
  have hs15 : w13.cell? ⟨gb288, 1, none⟩ = some (.int .i64 0) := (blk_cell BK288.out 1).trans rfl
  have hfs15 := blk_frozen BK288.out 1
  have hns15_1 := NB296_288.out
  have hms15_1 := NB288_296.out
  have hs16 : w13.cell? ⟨gb288, 2, none⟩ = some (.int .i64 0) := (blk_cell BK288.out 2).trans rfl
  have hfs16 := blk_frozen BK288.out 2
  have hns16_1 := NB296_288.out
  have hms16_1 := NB288_296.out
  have hs17 : w13.cell? ⟨gb288, 3, none⟩ = some (.int .i64 0) := (blk_cell BK288.out 3).trans rfl
  have hfs17 := blk_frozen BK288.out 3
  have hns17_1 := NB296_288.out
  have hms17_1 := NB288_296.out
  refine skip_ (w1 := ?_) (by rfl) rfl ?_ ?_
  rotate_left
  · go_simp
    rfl
  refine hK.out _ _ ⟨((cell_far (p := ⟨gb288, _, none⟩) NB296_288.out _).trans (((cell_far (p := ⟨gb288, _, none⟩) NB296_288.out _).trans (((cell_far (p := ⟨gb288, _, none⟩) NB296_288.out _).trans (((cell_far (p := ⟨gb288, _, none⟩) NB296_288.out _).trans (hHeld.1)))))))), ((cell_far (p := ⟨gb288, _, none⟩) NB296_288.out _).trans (((cell_far (p := ⟨gb288, _, none⟩) NB296_288.out _).trans (((cell_far (p := ⟨gb288, _, none⟩) NB296_288.out _).trans (((cell_far (p := ⟨gb288, _, none⟩) NB296_288.out _).trans (hHeld.2.1)))))))), ((cell_far (p := ⟨gb288, _, none⟩) NB296_288.out _).trans (((cell_far (p := ⟨gb288, _, none⟩) NB296_288.out _).trans (((cell_far (p := ⟨gb288, _, none⟩) NB296_288.out _).trans (((cell_far (p := ⟨gb288, _, none⟩) NB296_288.out _).trans (hHeld.2.2.1)))))))), ((cell_far (p := ⟨gb288, _, none⟩) NB296_288.out _).trans (((cell_far (p := ⟨gb288, _, none⟩) NB296_288.out _).trans (((cell_far (p := ⟨gb288, _, none⟩) NB296_288.out _).trans (((cell_far (p := ⟨gb288, _, none⟩) NB296_288.out _).trans (hHeld.2.2.2))))))))⟩ (fun hHeld => ?_)
  clear hK K
  refine pure_ (i := 8) (N := some 3) (v := ?_) (a' := ?_) #[true, true, true, true, true, true, true, true, true] rfl rfl (any_of HT_.out (by kernel_rfl)) (fun _ _ _ h => h) (Or.inl ⟨by rfl, ?_⟩) ?_ ?_
  rotate_left
  · intro w'
    go_simp
    with_reducible rfl
  rotate_left
  · simp only [Act.put, List.setIfInBounds_toArray, List.set_cons_zero, List.set_cons_succ, i64_w, i32_w]
    rfl
  refine done_ (done_of HT_.out (by kernel_rfl)) ?_
  try go_wp2
  refine bodyPost_ret (results_ct rfl _ _ gb288 68 #[.int .i64 t290, .int .i64 t291, .int .i64 t292, .int .i64 t293] (0, 0) _ rfl (by (with_reducible repeat (first | refine blk_drewN ?_ _ | refine blk_drew ?_ | refine blk_alloc ?_ _)); refine blk_put (cs := #[.int .i64 t290, .int .i64 t291, .int .i64 t292, .int .i64 0]) ?_ 3 _ rfl; (with_reducible repeat (first | refine blk_drewN ?_ _ | refine blk_drew ?_ | refine blk_alloc ?_ _)); refine blk_put (cs := #[.int .i64 t290, .int .i64 t291, .int .i64 0, .int .i64 0]) ?_ 2 _ rfl; (with_reducible repeat (first | refine blk_drewN ?_ _ | refine blk_drew ?_ | refine blk_alloc ?_ _)); refine blk_put (cs := #[.int .i64 t290, .int .i64 0, .int .i64 0, .int .i64 0]) ?_ 1 _ rfl; (with_reducible repeat (first | refine blk_drewN ?_ _ | refine blk_drew ?_ | refine blk_alloc ?_ _)); refine blk_put (cs := #[.int .i64 0, .int .i64 0, .int .i64 0, .int .i64 0]) ?_ 0 _ rfl; (with_reducible repeat (first | refine blk_drewN ?_ _ | refine blk_drew ?_ | refine blk_alloc ?_ _)); exact BK288.out) Try.underlying68 rfl (by kernel_rfl)) rfl ?_
  exact ⟨by first | rfl | (simp [errW_none, errW_some] <;> rfl) | (simp [*, errW_none, errW_some] <;> rfl), by repeat (first | (with_reducible first | exact HB.out | apply below_alloc | apply pw_below_drewN | apply below_drew1 | refine below_set ?_ (IsS140.ge HI289.out) | refine below_set ?_ GE288.out | refine below_set ?_ GE296.out) | exact HB.out)⟩

end Go.Proofs.Ytnphabcbnpenjaa.XFnMost
