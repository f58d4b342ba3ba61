-- Written by this session's own program (wip/xprint.py) out of the translation; Lean checks it.
import Derived.Test.YtnphabcbnpenjaaXFnSdnvx0
import Derived.Test.YtnphabcbnpenjaaXFnSdnvx1
import Derived.Test.YtnphabcbnpenjaaXFnSdnvx2
import Derived.Test.YtnphabcbnpenjaaXFnSdnvx3
import Derived.Test.YtnphabcbnpenjaaXFnSdnvx4
import Derived.Test.YtnphabcbnpenjaaXFnSdnvx5
namespace Go.Proofs.Ytnphabcbnpenjaa.XFnSdnv
open Go.RowKit Go.Proofs.YtnphabcbnpenjaaW.PrintWords Go.Proofs.YtnphabcbnpenjaaW.PrintLast Go.Proofs.YtnphabcbnpenjaaW.PrintMore
attribute [local go_sem] max2_int min2_int max_two min_two max_three min_three max_four min_four   -- for this text's walks alone
set_option linter.unusedVariables false
set_option linter.unusedSimpArgs false

/-! ### laws_FnSdnv: function 9 -/
mutual
def laws_FnSdnv.j0 : Nat → List Int → List Int → ByteArray → Bool → Bool → Option (Bool)
  | 0, _, _, _, _, _ => none
  | k + 1, x1, x5, x6, x7, x52 => if x52 = true then (some false) else (if x7 = true then (if (x6.size : Int) ≤ 400 then ((impl_ReadSdnvs.f k x6).bind fun bt243 => (if bt243.2 = true then ((laws_sameInts.f k bt243.1 x5).bind fun t247 => (if t247 = true then (laws_FnSdnv.j1 k x1 x5 x6) else (some false))) else (some false))) else (laws_FnSdnv.j1 k x1 x5 x6)) else (laws_FnSdnv.j4 k x1))
def laws_FnSdnv.j4 : Nat → List Int → Option (Bool)
  | 0, _ => none
  | k + 1, x1 => (spec_DrawReadSdnvs.f k x1).bind fun t254 => ((impl_ReadSdnvs.f k t254).bind fun bt255 => ((spec_ReadSdnvs.f k t254).bind fun bt259 => (if (bt255.2 != bt259.2) = true then (some false) else ((laws_sameInts.f k bt255.1 bt259.1).bind fun t263 => (if t263 = true then ((impl_SdnvList.f k bt255.1).bind fun bt264 => (if bt255.2 = true then (if bt264.2 = true then (some (bt264.1.toList == t254.toList)) else (some false)) else (some true))) else (some false))))))
def laws_FnSdnv.j1 : Nat → List Int → List Int → ByteArray → Option (Bool)
  | 0, _, _, _ => none
  | k + 1, x1, x5, x6 => laws_FnSdnv.l0 k x1 x6 0 x5 (x5.length : Int) 0
def laws_FnSdnv.l0 : Nat → List Int → ByteArray → Int → List Int → Int → Int → Option (Bool)
  | 0, _, _, _, _, _, _ => none
  | k + 1, x1, x6, x12, x70, x71, x72 => if x72 < x71 then (if 0 ≤ x72 then (if x72 < (x70.length : Int) then ((impl_SdnvOf.f k (rd x70 x72)).bind fun bt249 => (if bt249.2 = true then (if 0 ≤ x12 then (if x12 ≤ (wrap64 (x12 + (bt249.1.size : Int))) then (if (wrap64 (x12 + (bt249.1.size : Int))) ≤ (x6.size : Int) then (if (x6.extract (x12 : Int).toNat ((wrap64 (x12 + (bt249.1.size : Int))) : Int).toNat).toList = bt249.1.toList then (laws_FnSdnv.j3 k x1 x6 x12 (rd x70 x72) bt249.1 x70 x71 x72 (decide ((bt249.1.size : Int) > 5))) else (laws_FnSdnv.j3 k x1 x6 x12 (rd x70 x72) bt249.1 x70 x71 x72 true)) else (none)) else (none)) else (none)) else (laws_FnSdnv.j3 k x1 x6 x12 (rd x70 x72) bt249.1 x70 x71 x72 true))) else (none)) else (none)) else (if x12 = (x6.size : Int) then (laws_FnSdnv.j4 k x1) else (some false))
def laws_FnSdnv.j3 : Nat → List Int → ByteArray → Int → Int → ByteArray → List Int → Int → Int → Bool → Option (Bool)
  | 0, _, _, _, _, _, _, _, _, _ => none
  | k + 1, x1, x6, x12, x14, x15, x70, x71, x72, x98 => if x98 = true then (some false) else (if (x6.size : Int) ≤ 400 then ((impl_TakeSdnv.f k x6 x12).bind fun bt251 => (if bt251.2.2 = true then (if bt251.1 = x14 then (if bt251.2.1 = (wrap64 (x12 + (x15.size : Int))) then (laws_FnSdnv.l0 k x1 x6 (wrap64 (x12 + (x15.size : Int))) x70 x71 (wrap64 (x72 + 1))) else (some false)) else (some false)) else (some false))) else (laws_FnSdnv.l0 k x1 x6 (wrap64 (x12 + (x15.size : Int))) x70 x71 (wrap64 (x72 + 1))))
end
def laws_FnSdnv.f (k : Nat) (l0 : List Int) (l1 : List Int) : Option (Bool) := if (wrap64 ((l0.length : Int) + (l1.length : Int))) > 1048576 then (some true) else ((spec_DrawSdnvList.f k l0).bind fun t236 => ((impl_SdnvList.f k t236).bind fun bt239 => ((spec_SdnvList.f k t236).bind fun bt241 => (if (bt239.2 != bt241.2) = true then (laws_FnSdnv.j0 k l1 t236 bt239.1 bt239.2 true) else (laws_FnSdnv.j0 k l1 t236 bt239.1 bt239.2 (bt239.1.toList != bt241.1.toList))))))
theorem laws_FnSdnv.mono_l : ∀ k, (∀ y0 y1 y2 y3 y4, LeO (laws_FnSdnv.j0 k y0 y1 y2 y3 y4) (laws_FnSdnv.j0 (k + 1) y0 y1 y2 y3 y4)) ∧ (∀ y0, LeO (laws_FnSdnv.j4 k y0) (laws_FnSdnv.j4 (k + 1) y0)) ∧ (∀ y0 y1 y2, LeO (laws_FnSdnv.j1 k y0 y1 y2) (laws_FnSdnv.j1 (k + 1) y0 y1 y2)) ∧ (∀ y0 y1 y2 y3 y4 y5, LeO (laws_FnSdnv.l0 k y0 y1 y2 y3 y4 y5) (laws_FnSdnv.l0 (k + 1) y0 y1 y2 y3 y4 y5)) ∧ (∀ y0 y1 y2 y3 y4 y5 y6 y7 y8, LeO (laws_FnSdnv.j3 k y0 y1 y2 y3 y4 y5 y6 y7 y8) (laws_FnSdnv.j3 (k + 1) y0 y1 y2 y3 y4 y5 y6 y7 y8))
  | 0 => ⟨fun _ _ _ _ _ r h => by simp [laws_FnSdnv.j0] at h, fun _ r h => by simp [laws_FnSdnv.j4] at h, fun _ _ _ r h => by simp [laws_FnSdnv.j1] at h, fun _ _ _ _ _ _ r h => by simp [laws_FnSdnv.l0] at h, fun _ _ _ _ _ _ _ _ _ r h => by simp [laws_FnSdnv.j3] at h⟩
  | k + 1 => by
    obtain ⟨ih0, ih1, ih2, ih3, ih4⟩ := laws_FnSdnv.mono_l k
    refine ⟨?_, ?_, ?_, ?_, ?_⟩
    · intro y0 y1 y2 y3 y4
      unfold laws_FnSdnv.j0
      repeat' first
      | (with_reducible exact ih0 _ _ _ _ _)
      | (with_reducible exact ih1 _)
      | (with_reducible exact ih2 _ _ _)
      | (with_reducible exact ih3 _ _ _ _ _ _)
      | (with_reducible exact ih4 _ _ _ _ _ _ _ _ _)
      | (with_reducible exact impl_ReadSdnvs.mono _ _)
      | (with_reducible exact impl_SdnvList.mono _ _)
      | (with_reducible exact impl_SdnvOf.mono _ _)
      | (with_reducible exact impl_TakeSdnv.mono _ _ _)
      | (with_reducible exact laws_sameInts.mono _ _ _)
      | (with_reducible exact spec_DrawReadSdnvs.mono _ _)
      | (with_reducible exact spec_DrawSdnvList.mono _ _)
      | (with_reducible exact spec_ReadSdnvs.mono _ _)
      | (with_reducible exact spec_SdnvList.mono _ _)
      | (with_reducible exact LeO.refl _)
      | (with_reducible exact LeO.none _)
      | (with_reducible refine LeO.ite ?_ ?_)
      | (with_reducible refine LeO.bind ?_ (fun _ => ?_))
      | exact ih0 _ _ _ _ _
      | exact ih1 _
      | exact ih2 _ _ _
      | exact ih3 _ _ _ _ _ _
      | exact ih4 _ _ _ _ _ _ _ _ _
      | exact impl_ReadSdnvs.mono _ _
      | exact impl_SdnvList.mono _ _
      | exact impl_SdnvOf.mono _ _
      | exact impl_TakeSdnv.mono _ _ _
      | exact laws_sameInts.mono _ _ _
      | exact spec_DrawReadSdnvs.mono _ _
      | exact spec_DrawSdnvList.mono _ _
      | exact spec_ReadSdnvs.mono _ _
      | exact spec_SdnvList.mono _ _
      | exact LeO.none _
      | refine LeO.ite ?_ ?_
      | refine LeO.bind ?_ (fun _ => ?_)
    · intro y0
      unfold laws_FnSdnv.j4
      repeat' first
      | (with_reducible exact ih0 _ _ _ _ _)
      | (with_reducible exact ih1 _)
      | (with_reducible exact ih2 _ _ _)
      | (with_reducible exact ih3 _ _ _ _ _ _)
      | (with_reducible exact ih4 _ _ _ _ _ _ _ _ _)
      | (with_reducible exact impl_ReadSdnvs.mono _ _)
      | (with_reducible exact impl_SdnvList.mono _ _)
      | (with_reducible exact impl_SdnvOf.mono _ _)
      | (with_reducible exact impl_TakeSdnv.mono _ _ _)
      | (with_reducible exact laws_sameInts.mono _ _ _)
      | (with_reducible exact spec_DrawReadSdnvs.mono _ _)
      | (with_reducible exact spec_DrawSdnvList.mono _ _)
      | (with_reducible exact spec_ReadSdnvs.mono _ _)
      | (with_reducible exact spec_SdnvList.mono _ _)
      | (with_reducible exact LeO.refl _)
      | (with_reducible exact LeO.none _)
      | (with_reducible refine LeO.ite ?_ ?_)
      | (with_reducible refine LeO.bind ?_ (fun _ => ?_))
      | exact ih0 _ _ _ _ _
      | exact ih1 _
      | exact ih2 _ _ _
      | exact ih3 _ _ _ _ _ _
      | exact ih4 _ _ _ _ _ _ _ _ _
      | exact impl_ReadSdnvs.mono _ _
      | exact impl_SdnvList.mono _ _
      | exact impl_SdnvOf.mono _ _
      | exact impl_TakeSdnv.mono _ _ _
      | exact laws_sameInts.mono _ _ _
      | exact spec_DrawReadSdnvs.mono _ _
      | exact spec_DrawSdnvList.mono _ _
      | exact spec_ReadSdnvs.mono _ _
      | exact spec_SdnvList.mono _ _
      | exact LeO.none _
      | refine LeO.ite ?_ ?_
      | refine LeO.bind ?_ (fun _ => ?_)
    · intro y0 y1 y2
      unfold laws_FnSdnv.j1
      repeat' first
      | (with_reducible exact ih0 _ _ _ _ _)
      | (with_reducible exact ih1 _)
      | (with_reducible exact ih2 _ _ _)
      | (with_reducible exact ih3 _ _ _ _ _ _)
      | (with_reducible exact ih4 _ _ _ _ _ _ _ _ _)
      | (with_reducible exact impl_ReadSdnvs.mono _ _)
      | (with_reducible exact impl_SdnvList.mono _ _)
      | (with_reducible exact impl_SdnvOf.mono _ _)
      | (with_reducible exact impl_TakeSdnv.mono _ _ _)
      | (with_reducible exact laws_sameInts.mono _ _ _)
      | (with_reducible exact spec_DrawReadSdnvs.mono _ _)
      | (with_reducible exact spec_DrawSdnvList.mono _ _)
      | (with_reducible exact spec_ReadSdnvs.mono _ _)
      | (with_reducible exact spec_SdnvList.mono _ _)
      | (with_reducible exact LeO.refl _)
      | (with_reducible exact LeO.none _)
      | (with_reducible refine LeO.ite ?_ ?_)
      | (with_reducible refine LeO.bind ?_ (fun _ => ?_))
      | exact ih0 _ _ _ _ _
      | exact ih1 _
      | exact ih2 _ _ _
      | exact ih3 _ _ _ _ _ _
      | exact ih4 _ _ _ _ _ _ _ _ _
      | exact impl_ReadSdnvs.mono _ _
      | exact impl_SdnvList.mono _ _
      | exact impl_SdnvOf.mono _ _
      | exact impl_TakeSdnv.mono _ _ _
      | exact laws_sameInts.mono _ _ _
      | exact spec_DrawReadSdnvs.mono _ _
      | exact spec_DrawSdnvList.mono _ _
      | exact spec_ReadSdnvs.mono _ _
      | exact spec_SdnvList.mono _ _
      | exact LeO.none _
      | refine LeO.ite ?_ ?_
      | refine LeO.bind ?_ (fun _ => ?_)
    · intro y0 y1 y2 y3 y4 y5
      unfold laws_FnSdnv.l0
      repeat' first
      | (with_reducible exact ih0 _ _ _ _ _)
      | (with_reducible exact ih1 _)
      | (with_reducible exact ih2 _ _ _)
      | (with_reducible exact ih3 _ _ _ _ _ _)
      | (with_reducible exact ih4 _ _ _ _ _ _ _ _ _)
      | (with_reducible exact impl_ReadSdnvs.mono _ _)
      | (with_reducible exact impl_SdnvList.mono _ _)
      | (with_reducible exact impl_SdnvOf.mono _ _)
      | (with_reducible exact impl_TakeSdnv.mono _ _ _)
      | (with_reducible exact laws_sameInts.mono _ _ _)
      | (with_reducible exact spec_DrawReadSdnvs.mono _ _)
      | (with_reducible exact spec_DrawSdnvList.mono _ _)
      | (with_reducible exact spec_ReadSdnvs.mono _ _)
      | (with_reducible exact spec_SdnvList.mono _ _)
      | (with_reducible exact LeO.refl _)
      | (with_reducible exact LeO.none _)
      | (with_reducible refine LeO.ite ?_ ?_)
      | (with_reducible refine LeO.bind ?_ (fun _ => ?_))
      | exact ih0 _ _ _ _ _
      | exact ih1 _
      | exact ih2 _ _ _
      | exact ih3 _ _ _ _ _ _
      | exact ih4 _ _ _ _ _ _ _ _ _
      | exact impl_ReadSdnvs.mono _ _
      | exact impl_SdnvList.mono _ _
      | exact impl_SdnvOf.mono _ _
      | exact impl_TakeSdnv.mono _ _ _
      | exact laws_sameInts.mono _ _ _
      | exact spec_DrawReadSdnvs.mono _ _
      | exact spec_DrawSdnvList.mono _ _
      | exact spec_ReadSdnvs.mono _ _
      | exact spec_SdnvList.mono _ _
      | exact LeO.none _
      | refine LeO.ite ?_ ?_
      | refine LeO.bind ?_ (fun _ => ?_)
    · intro y0 y1 y2 y3 y4 y5 y6 y7 y8
      unfold laws_FnSdnv.j3
      repeat' first
      | (with_reducible exact ih0 _ _ _ _ _)
      | (with_reducible exact ih1 _)
      | (with_reducible exact ih2 _ _ _)
      | (with_reducible exact ih3 _ _ _ _ _ _)
      | (with_reducible exact ih4 _ _ _ _ _ _ _ _ _)
      | (with_reducible exact impl_ReadSdnvs.mono _ _)
      | (with_reducible exact impl_SdnvList.mono _ _)
      | (with_reducible exact impl_SdnvOf.mono _ _)
      | (with_reducible exact impl_TakeSdnv.mono _ _ _)
      | (with_reducible exact laws_sameInts.mono _ _ _)
      | (with_reducible exact spec_DrawReadSdnvs.mono _ _)
      | (with_reducible exact spec_DrawSdnvList.mono _ _)
      | (with_reducible exact spec_ReadSdnvs.mono _ _)
      | (with_reducible exact spec_SdnvList.mono _ _)
      | (with_reducible exact LeO.refl _)
      | (with_reducible exact LeO.none _)
      | (with_reducible refine LeO.ite ?_ ?_)
      | (with_reducible refine LeO.bind ?_ (fun _ => ?_))
      | exact ih0 _ _ _ _ _
      | exact ih1 _
      | exact ih2 _ _ _
      | exact ih3 _ _ _ _ _ _
      | exact ih4 _ _ _ _ _ _ _ _ _
      | exact impl_ReadSdnvs.mono _ _
      | exact impl_SdnvList.mono _ _
      | exact impl_SdnvOf.mono _ _
      | exact impl_TakeSdnv.mono _ _ _
      | exact laws_sameInts.mono _ _ _
      | exact spec_DrawReadSdnvs.mono _ _
      | exact spec_DrawSdnvList.mono _ _
      | exact spec_ReadSdnvs.mono _ _
      | exact spec_SdnvList.mono _ _
      | exact LeO.none _
      | refine LeO.ite ?_ ?_
      | refine LeO.bind ?_ (fun _ => ?_)
theorem laws_FnSdnv.mono : ∀ a0 a1 k, LeO (laws_FnSdnv.f k a0 a1) (laws_FnSdnv.f (k + 1) a0 a1) := by
  intro a0 a1 k
  obtain ⟨ih0, ih1, ih2, ih3, ih4⟩ := laws_FnSdnv.mono_l k
  unfold laws_FnSdnv.f
  repeat' first
      | (with_reducible exact ih0 _ _ _ _ _)
      | (with_reducible exact ih1 _)
      | (with_reducible exact ih2 _ _ _)
      | (with_reducible exact ih3 _ _ _ _ _ _)
      | (with_reducible exact ih4 _ _ _ _ _ _ _ _ _)
      | (with_reducible exact impl_ReadSdnvs.mono _ _)
      | (with_reducible exact impl_SdnvList.mono _ _)
      | (with_reducible exact impl_SdnvOf.mono _ _)
      | (with_reducible exact impl_TakeSdnv.mono _ _ _)
      | (with_reducible exact laws_sameInts.mono _ _ _)
      | (with_reducible exact spec_DrawReadSdnvs.mono _ _)
      | (with_reducible exact spec_DrawSdnvList.mono _ _)
      | (with_reducible exact spec_ReadSdnvs.mono _ _)
      | (with_reducible exact spec_SdnvList.mono _ _)
      | (with_reducible exact LeO.refl _)
      | (with_reducible exact LeO.none _)
      | (with_reducible refine LeO.ite ?_ ?_)
      | (with_reducible refine LeO.bind ?_ (fun _ => ?_))
      | exact ih0 _ _ _ _ _
      | exact ih1 _
      | exact ih2 _ _ _
      | exact ih3 _ _ _ _ _ _
      | exact ih4 _ _ _ _ _ _ _ _ _
      | exact impl_ReadSdnvs.mono _ _
      | exact impl_SdnvList.mono _ _
      | exact impl_SdnvOf.mono _ _
      | exact impl_TakeSdnv.mono _ _ _
      | exact laws_sameInts.mono _ _ _
      | exact spec_DrawReadSdnvs.mono _ _
      | exact spec_DrawSdnvList.mono _ _
      | exact spec_ReadSdnvs.mono _ _
      | exact spec_SdnvList.mono _ _
      | exact LeO.none _
      | refine LeO.ite ?_ ?_
      | refine LeO.bind ?_ (fun _ => ?_)
set_option maxHeartbeats 8000000 in
set_option maxRecDepth 100000 in
theorem laws_FnSdnv.calls (k : Nat) (A0 : Option Addr) (c0 : Nat) (l0 : List Int) (A1 : Option Addr) (c1 : Nat) (l1 : List Int) (r : Bool) (w : World) (hr0 : Kd.C (Kd.int .u8) w A0 l0.length l0) (hc0 : l0.length ≤ c0) (hr1 : Kd.C (Kd.int .u8) w A1 l1.length l1) (hc1 : l1.length ≤ c1) (h : laws_FnSdnv.f k l0 l1 = some r) :
    Calls Try.prog 9 #[.slice A0 l0.length c0, .slice A1 l1.length c1] w fun e w' => e = .returned (.bool r) ∧ Below w.heap.size w w' := by
  have HR0 := Aside0.mk hr0
  have HC0 := Aside0.mk hc0
  clear hr0 hc0
  have HR1 := Aside0.mk hr1
  have HC1 := Aside0.mk hc1
  clear hr1 hc1
  have HB := Aside0.mk (Below.refl w.heap.size w)
  have H : (if (wrap64 ((l0.length : Int) + (l1.length : Int))) > 1048576 then (some true) else ((spec_DrawSdnvList.f k l0).bind fun t236 => ((impl_SdnvList.f k t236).bind fun bt239 => ((spec_SdnvList.f k t236).bind fun bt241 => (if (bt239.2 != bt241.2) = true then (laws_FnSdnv.j0 k l1 t236 bt239.1 bt239.2 true) else (laws_FnSdnv.j0 k l1 t236 bt239.1 bt239.2 (bt239.1.toList != bt241.1.toList))))))) = some r := h
  clear h
  by_cases c3 : (wrap64 ((l0.length : Int) + (l1.length : Int))) > 1048576
  · rw [if_pos c3] at H
    have c3b0 : decide (1048576 < (wrap64 ((l0.length : Int) + (l1.length : Int)))) = true := decide_eq_true c3
    clear c3
    obtain rfl := Option.some.inj H
    go_enter Try.func9, Try.ntmps9
    go_wp2
    go_ret
    exact ⟨by first | rfl | (simp [errW_none, errW_some] <;> rfl) | (simp [*, errW_none, errW_some] <;> rfl), by repeat (first | (with_reducible first | exact HB.out | apply below_alloc | apply pw_below_drewN | apply below_drew1) | exact HB.out)⟩
  · rw [if_neg c3] at H
    have c3b0 : decide (1048576 < (wrap64 ((l0.length : Int) + (l1.length : Int)))) = false := decide_eq_false c3
    clear c3
    replace H := Option.bind_eq_some_iff.mp H
    obtain ⟨t236, A40, H⟩ := H
    replace H : ((impl_SdnvList.f k t236).bind fun bt239 => ((spec_SdnvList.f k t236).bind fun bt241 => (if (bt239.2 != bt241.2) = true then (laws_FnSdnv.j0 k l1 t236 bt239.1 bt239.2 true) else (laws_FnSdnv.j0 k l1 t236 bt239.1 bt239.2 (bt239.1.toList != bt241.1.toList))))) = some r := H
    have A4 := Aside0.mk A40
    clear A40
    replace H := Option.bind_eq_some_iff.mp H
    obtain ⟨⟨t239, t240⟩, A50, H⟩ := H
    replace H : ((spec_SdnvList.f k t236).bind fun bt241 => (if (t240 != bt241.2) = true then (laws_FnSdnv.j0 k l1 t236 t239 t240 true) else (laws_FnSdnv.j0 k l1 t236 t239 t240 (t239.toList != bt241.1.toList)))) = some r := H
    have A5 := Aside0.mk A50
    clear A50
    replace H := Option.bind_eq_some_iff.mp H
    obtain ⟨⟨t241, t242⟩, A60, H⟩ := H
    replace H : (if (t240 != t242) = true then (laws_FnSdnv.j0 k l1 t236 t239 t240 true) else (laws_FnSdnv.j0 k l1 t236 t239 t240 (t239.toList != t241.toList))) = some r := H
    have A6 := Aside0.mk A60
    clear A60
    have HC7 := Aside0.mk H
    clear H
    go_enter Try.func9, Try.ntmps9
    go_upto_region 6 with (first | ((with_reducible refine gate_callee (f := 50) rfl ?_); refine goesA (some 34) rfl rfl Try.func50 #[.slice A0 l0.length c0] rfl ?_; (with_reducible refine (spec_DrawSdnvList.calls k _ _ l0 t236 _ ?side1 ?side2 A4.out).mono ?_); (case side1 => repeat (first | exact HR0.out | (with_reducible refine Kd.C_alloc ?_ _) | (with_reducible refine Kd.C_drewN ?_ _) | (with_reducible refine Kd.C_drew ?_))); (case side2 => exact HC0.out); rintro e w8 ⟨v237, rfl, ho0, hb⟩; refine ⟨_, rfl, ?_⟩; have n0_ := Aside0.mk (Kd.R_lower ho0 (below_size (by repeat (first | (with_reducible first | exact HB.out | apply below_alloc | apply pw_below_drewN | apply below_drew1) | exact HB.out)))); have n1_ := Aside0.mk (below_step (by repeat (first | (with_reducible first | exact HB.out | apply below_alloc | apply pw_below_drewN | apply below_drew1) | exact HB.out)) hb); clear HB; have HO238 := n0_; have HB := n1_; clear n0_ n1_; (try clear hb); (try clear hb2); (try clear hk); (try clear hi); (try clear ho0); obtain ⟨Ao9, co9, eo9⟩ := Kd.R_slice HO238.out; subst eo9) | ((with_reducible refine gate_callee (f := 51) rfl ?_); refine goesA (some 37) rfl rfl Try.func51 #[.slice Ao9 t236.length co9] rfl ?_; (with_reducible refine (impl_SdnvList.calls k _ _ t236 t239 t240 _ ?side1 ?side2 A5.out).mono ?_); (case side1 => repeat (first | exact (Kd.R_reads' HO238.out).2.2 | (with_reducible refine Kd.C_alloc ?_ _) | (with_reducible refine Kd.C_drewN ?_ _) | (with_reducible refine Kd.C_drew ?_))); (case side2 => exact (Kd.R_reads' HO238.out).2.1); rintro e w10 ⟨rfl, hb⟩; refine ⟨_, rfl, ?_⟩; have n0_ := Aside0.mk (Kd.R_below (by (with_reducible repeat (first | apply Kd.R_alloc | apply Kd.R_drewN | apply Kd.R_drew)); exact HO238.out) hb); have n1_ := Aside0.mk (below_step (by repeat (first | (with_reducible first | exact HB.out | apply below_alloc | apply pw_below_drewN | apply below_drew1) | exact HB.out)) hb); clear HO238; clear HB; have HO238 := n0_; have HB := n1_; clear n0_ n1_; (try clear hb); (try clear hb2); (try clear hk); (try clear hi)) | ((with_reducible refine gate_callee (f := 52) rfl ?_); refine goesA (some 42) rfl rfl Try.func52 #[.slice Ao9 t236.length co9] rfl ?_; (with_reducible refine (spec_SdnvList.calls k _ _ t236 t241 t242 _ ?side1 ?side2 A6.out).mono ?_); (case side1 => repeat (first | exact (Kd.R_reads' HO238.out).2.2 | (with_reducible refine Kd.C_alloc ?_ _) | (with_reducible refine Kd.C_drewN ?_ _) | (with_reducible refine Kd.C_drew ?_))); (case side2 => exact (Kd.R_reads' HO238.out).2.1); rintro e w11 ⟨rfl, hb⟩; refine ⟨_, rfl, ?_⟩; have n0_ := Aside0.mk (Kd.R_below (by (with_reducible repeat (first | apply Kd.R_alloc | apply Kd.R_drewN | apply Kd.R_drew)); exact HO238.out) hb); have n1_ := Aside0.mk (below_step (by repeat (first | (with_reducible first | exact HB.out | apply below_alloc | apply pw_below_drewN | apply below_drew1) | exact HB.out)) hb); clear HO238; clear HB; have HO238 := n0_; have HB := n1_; clear n0_ n1_; (try clear hb); (try clear hb2); (try clear hk); (try clear hi)))
    (try simp only [Act.put, List.setIfInBounds_toArray, List.set_cons_zero, List.set_cons_succ])
    go_cut [52] (fun v52 wc => ∃ (kq : Nat) (x52_6 : Bool), v52 = .bool x52_6 ∧ Aside0 (laws_FnSdnv.j0 kq l1 t236 t239 t240 x52_6 = some r) ∧ Aside0 (kq ≤ k) ∧ Aside0 (Kd.R (Kd.int .i64) 3 wc w.heap.size (fun _ => True) (.slice Ao9 t236.length co9) t236) ∧ Aside0 (Below w.heap.size w wc))
    case first =>
      have H := HC7.out
      clear HC7
      by_cases c12 : (t240 != t242) = true
      · rw [if_pos c12] at H
        have c12b0 : (t240 != t242) = true := c12
        (try (have c12b1 : decide (t240 = t242) = false := by simpa using c12))
        (try (have c12b2 : (t240 == t242) = false := by simpa using c12))
        (try (have c12b3 : ¬ (t240 = t242) := by simpa using c12))
        clear c12
        (first | rw [c12b0] | (simp only [i64_w, i32_w]; rw [c12b0]) | skip)
        have H' := Aside0.mk H
        clear H
        go_wp2
        go_meet
        case rel => exact ⟨_, (true), (by first | rfl | (simp; done) | (simp [*]; done)), H', ⟨by first | omega | exact Nat.le_refl _⟩, ⟨by (with_reducible repeat (first | apply Kd.R_alloc | apply Kd.R_drewN | apply Kd.R_drew)); exact HO238.out⟩, ⟨by repeat (first | (with_reducible first | exact HB.out | apply below_alloc | apply pw_below_drewN | apply below_drew1) | exact HB.out)⟩⟩
      · rw [if_neg c12] at H
        have c12b0 : (t240 != t242) = false := by simpa using c12
        (try (have c12b1 : decide (t240 = t242) = true := by simpa using c12))
        (try (have c12b2 : (t240 == t242) = true := by simpa using c12))
        clear c12
        (first | rw [c12b0] | (simp only [i64_w, i32_w]; rw [c12b0]) | skip)
        have H' := Aside0.mk H
        clear H
        go_wp2
        go_meet
        case rel => exact ⟨_, ((t239.toList != t241.toList)), (by first | rfl | (simp; done) | (simp [*]; done)), H', ⟨by first | omega | exact Nat.le_refl _⟩, ⟨by (with_reducible repeat (first | apply Kd.R_alloc | apply Kd.R_drewN | apply Kd.R_drew)); exact HO238.out⟩, ⟨by repeat (first | (with_reducible first | exact HB.out | apply below_alloc | apply pw_below_drewN | apply below_drew1) | exact HB.out)⟩⟩
    case rest =>
      clear HC7
      try clear c1
      try clear p2
      try clear c3
      try clear c3b0
      try clear c5
      try clear p6
      try clear c9
      try clear c12
      try clear c12b0
      try clear c12b1
      try clear c12b2
      obtain ⟨kq, x52_6, rfl, HA, HJ6, HO_5, HB⟩ := hcut
      cases kq with
      | zero => exact absurd HA.out (by simp [laws_FnSdnv.j0])
      | succ kj6 =>
        have H := HA.out
        clear HA
        simp only [laws_FnSdnv.j0] at H
        by_cases c13 : x52_6 = true
        · subst c13
          have H1 : (some false) = some r := by rw [if_pos rfl] at H; exact H
          clear H
          have H := H1
          clear H1
          obtain rfl := Option.some.inj H
          go_wp2
          go_ret
          exact ⟨by first | rfl | (simp [errW_none, errW_some] <;> rfl) | (simp [*, errW_none, errW_some] <;> rfl), by repeat (first | (with_reducible first | exact HB.out | apply below_alloc | apply pw_below_drewN | apply below_drew1) | exact HB.out)⟩
        · replace c13 := Bool.eq_false_iff.mpr c13
          subst c13
          have H1 : (if t240 = true then (if (t239.size : Int) ≤ 400 then ((impl_ReadSdnvs.f kj6 t239).bind fun bt243 => (if bt243.2 = true then ((laws_sameInts.f kj6 bt243.1 t236).bind fun t247 => (if t247 = true then (laws_FnSdnv.j1 kj6 l1 t236 t239) else (some false))) else (some false))) else (laws_FnSdnv.j1 kj6 l1 t236 t239)) else (laws_FnSdnv.j4 kj6 l1)) = some r := by rw [if_neg (show ¬ (false = true) by decide)] at H; exact H
          clear H
          have H := H1
          clear H1
          have HC14 := Aside0.mk H
          clear H
          go_upto_if 53 with (fail)
          go_cut [] (fun wc => ∃ (kq : Nat), Aside0 (laws_FnSdnv.j4 kq l1 = some r) ∧ Aside0 (kq ≤ kj6) ∧ Aside0 (Below w.heap.size w wc))
          case first =>
            have H := HC14.out
            clear HC14
            by_cases c15 : t240 = true
            · subst c15
              have H1 : (if (t239.size : Int) ≤ 400 then ((impl_ReadSdnvs.f kj6 t239).bind fun bt243 => (if bt243.2 = true then ((laws_sameInts.f kj6 bt243.1 t236).bind fun t247 => (if t247 = true then (laws_FnSdnv.j1 kj6 l1 t236 t239) else (some false))) else (some false))) else (laws_FnSdnv.j1 kj6 l1 t236 t239)) = some r := by rw [if_pos rfl] at H; exact H
              clear H
              have H := H1
              clear H1
              have HC16 := Aside0.mk H
              clear H
              go_upto_if 56 with (fail)
              go_cut [] (fun wc => ∃ (kq : Nat), Aside0 (laws_FnSdnv.j1 kq l1 t236 t239 = some r) ∧ Aside0 (kq ≤ kj6) ∧ Aside0 (Kd.R (Kd.int .i64) 3 wc w.heap.size (fun _ => True) (.slice Ao9 t236.length co9) t236) ∧ Aside0 (Below w.heap.size w wc))
              case first =>
                have H := HC16.out
                clear HC16
                by_cases c17 : (t239.size : Int) ≤ 400
                · rw [if_pos c17] at H
                  have c17b0 : decide ((t239.size : Int) ≤ 400) = true := decide_eq_true c17
                  have c17b1 : decide (t239.size ≤ 400) = true := decide_eq_true (by omega)
                  clear c17
                  (first | rw [c17b0] | (simp only [i64_w, i32_w]; rw [c17b0]) | skip)
                  replace H := Option.bind_eq_some_iff.mp H
                  obtain ⟨⟨t243, t244⟩, A180, H⟩ := H
                  replace H : (if t244 = true then ((laws_sameInts.f kj6 t243 t236).bind fun t247 => (if t247 = true then (laws_FnSdnv.j1 kj6 l1 t236 t239) else (some false))) else (some false)) = some r := H
                  have A18 := Aside0.mk A180
                  clear A180
                  by_cases c19 : t244 = true
                  · subst c19
                    have H1 : ((laws_sameInts.f kj6 t243 t236).bind fun t247 => (if t247 = true then (laws_FnSdnv.j1 kj6 l1 t236 t239) else (some false))) = some r := by rw [if_pos rfl] at H; exact H
                    clear H
                    have H := H1
                    clear H1
                    replace H := Option.bind_eq_some_iff.mp H
                    obtain ⟨t247, A200, H⟩ := H
                    replace H : (if t247 = true then (laws_FnSdnv.j1 kj6 l1 t236 t239) else (some false)) = some r := H
                    have A20 := Aside0.mk A200
                    clear A200
                    by_cases c21 : t247 = true
                    · subst c21
                      have H1 : (laws_FnSdnv.j1 kj6 l1 t236 t239) = some r := by rw [if_pos rfl] at H; exact H
                      clear H
                      have H := H1
                      clear H1
                      have H' := Aside0.mk H
                      clear H
                      go_wp2_with (first | ((with_reducible refine gate_callee (f := 53) rfl ?_); refine goesA (some 59) rfl rfl Try.func53 #[.string t239] rfl ?_; (with_reducible refine (impl_ReadSdnvs.calls kj6 t239 t243 true _ A18.out).mono ?_); rintro e w22 ⟨v245, rfl, ho0, hb⟩; refine ⟨_, rfl, ?_⟩; have n0_ := Aside0.mk (Kd.R_elder' (by (with_reducible repeat (first | apply Kd.R_alloc | apply Kd.R_drewN | apply Kd.R_drew)); exact HO_5.out) (Kd.R_base ho0) hb); have n1_ := Aside0.mk (Kd.R_lower (Kd.R_new' ho0 (Kd.R_lt (by (with_reducible repeat (first | apply Kd.R_alloc | apply Kd.R_drewN | apply Kd.R_drew)); exact HO_5.out))) (below_size (by repeat (first | (with_reducible first | exact HB.out | apply below_alloc | apply pw_below_drewN | apply below_drew1) | exact HB.out)))); have n2_ := Aside0.mk (below_step (by repeat (first | (with_reducible first | exact HB.out | apply below_alloc | apply pw_below_drewN | apply below_drew1) | exact HB.out)) hb); clear HO_5; clear HB; have HO_5 := n0_; have HO246 := n1_; have HB := n2_; clear n0_ n1_ n2_; (try clear hb); (try clear hb2); (try clear hk); (try clear hi); (try clear ho0); obtain ⟨Ao23, co23, eo23⟩ := Kd.R_slice HO246.out; subst eo23) | (go_at_call 54; (with_reducible refine (laws_sameInts.calls kj6 _ _ t243 _ _ t236 true _ ?side1 ?side2 ?side3 ?side4 A20.out).mono ?_); (case side1 => repeat (first | exact (Kd.R_reads' HO246.out).2.2 | (with_reducible refine Kd.C_alloc ?_ _) | (with_reducible refine Kd.C_drewN ?_ _) | (with_reducible refine Kd.C_drew ?_))); (case side2 => exact (Kd.R_reads' HO246.out).2.1); (case side3 => repeat (first | exact (Kd.R_reads' HO_5.out).2.2 | (with_reducible refine Kd.C_alloc ?_ _) | (with_reducible refine Kd.C_drewN ?_ _) | (with_reducible refine Kd.C_drew ?_))); (case side4 => exact (Kd.R_reads' HO_5.out).2.1); rintro e w' ⟨rfl, ⟨nd, rfl⟩⟩))
                      go_meet
                      case rel => exact ⟨_, H', ⟨by have := HJ6.out; first | omega | exact Nat.le_refl _⟩, ⟨by (with_reducible repeat (first | apply Kd.R_alloc | apply Kd.R_drewN | apply Kd.R_drew)); exact Kd.R_mono HO_5.out (fun _ hk => trivial)⟩, ⟨by repeat (first | (with_reducible first | exact HB.out | apply below_alloc | apply pw_below_drewN | apply below_drew1) | exact HB.out)⟩⟩
                    · replace c21 := Bool.eq_false_iff.mpr c21
                      subst c21
                      have H1 : (some false) = some r := by rw [if_neg (show ¬ (false = true) by decide)] at H; exact H
                      clear H
                      have H := H1
                      clear H1
                      obtain rfl := Option.some.inj H
                      go_wp2_with (first | ((with_reducible refine gate_callee (f := 53) rfl ?_); refine goesA (some 59) rfl rfl Try.func53 #[.string t239] rfl ?_; (with_reducible refine (impl_ReadSdnvs.calls kj6 t239 t243 true _ A18.out).mono ?_); rintro e w24 ⟨v245, rfl, ho0, hb⟩; refine ⟨_, rfl, ?_⟩; have n0_ := Aside0.mk (Kd.R_elder' (by (with_reducible repeat (first | apply Kd.R_alloc | apply Kd.R_drewN | apply Kd.R_drew)); exact HO_5.out) (Kd.R_base ho0) hb); have n1_ := Aside0.mk (Kd.R_lower (Kd.R_new' ho0 (Kd.R_lt (by (with_reducible repeat (first | apply Kd.R_alloc | apply Kd.R_drewN | apply Kd.R_drew)); exact HO_5.out))) (below_size (by repeat (first | (with_reducible first | exact HB.out | apply below_alloc | apply pw_below_drewN | apply below_drew1) | exact HB.out)))); have n2_ := Aside0.mk (below_step (by repeat (first | (with_reducible first | exact HB.out | apply below_alloc | apply pw_below_drewN | apply below_drew1) | exact HB.out)) hb); clear HO_5; clear HB; have HO_5 := n0_; have HO246 := n1_; have HB := n2_; clear n0_ n1_ n2_; (try clear hb); (try clear hb2); (try clear hk); (try clear hi); (try clear ho0); obtain ⟨Ao25, co25, eo25⟩ := Kd.R_slice HO246.out; subst eo25) | (go_at_call 54; (with_reducible refine (laws_sameInts.calls kj6 _ _ t243 _ _ t236 false _ ?side1 ?side2 ?side3 ?side4 A20.out).mono ?_); (case side1 => repeat (first | exact (Kd.R_reads' HO246.out).2.2 | (with_reducible refine Kd.C_alloc ?_ _) | (with_reducible refine Kd.C_drewN ?_ _) | (with_reducible refine Kd.C_drew ?_))); (case side2 => exact (Kd.R_reads' HO246.out).2.1); (case side3 => repeat (first | exact (Kd.R_reads' HO_5.out).2.2 | (with_reducible refine Kd.C_alloc ?_ _) | (with_reducible refine Kd.C_drewN ?_ _) | (with_reducible refine Kd.C_drew ?_))); (case side4 => exact (Kd.R_reads' HO_5.out).2.1); rintro e w' ⟨rfl, ⟨nd, rfl⟩⟩))
                      go_ret
                      exact ⟨by first | rfl | (simp [errW_none, errW_some] <;> rfl) | (simp [*, errW_none, errW_some] <;> rfl), by repeat (first | (with_reducible first | exact HB.out | apply below_alloc | apply pw_below_drewN | apply below_drew1) | exact HB.out)⟩
                  · replace c19 := Bool.eq_false_iff.mpr c19
                    subst c19
                    have H1 : (some false) = some r := by rw [if_neg (show ¬ (false = true) by decide)] at H; exact H
                    clear H
                    have H := H1
                    clear H1
                    obtain rfl := Option.some.inj H
                    go_wp2_with (first | ((with_reducible refine gate_callee (f := 53) rfl ?_); refine goesA (some 59) rfl rfl Try.func53 #[.string t239] rfl ?_; (with_reducible refine (impl_ReadSdnvs.calls kj6 t239 t243 false _ A18.out).mono ?_); rintro e w26 ⟨v245, rfl, ho0, hb⟩; refine ⟨_, rfl, ?_⟩; have n0_ := Aside0.mk (Kd.R_elder' (by (with_reducible repeat (first | apply Kd.R_alloc | apply Kd.R_drewN | apply Kd.R_drew)); exact HO_5.out) (Kd.R_base ho0) hb); have n1_ := Aside0.mk (Kd.R_lower (Kd.R_new' ho0 (Kd.R_lt (by (with_reducible repeat (first | apply Kd.R_alloc | apply Kd.R_drewN | apply Kd.R_drew)); exact HO_5.out))) (below_size (by repeat (first | (with_reducible first | exact HB.out | apply below_alloc | apply pw_below_drewN | apply below_drew1) | exact HB.out)))); have n2_ := Aside0.mk (below_step (by repeat (first | (with_reducible first | exact HB.out | apply below_alloc | apply pw_below_drewN | apply below_drew1) | exact HB.out)) hb); clear HO_5; clear HB; have HO_5 := n0_; have HO246 := n1_; have HB := n2_; clear n0_ n1_ n2_; (try clear hb); (try clear hb2); (try clear hk); (try clear hi); (try clear ho0)))
                    go_ret
                    exact ⟨by first | rfl | (simp [errW_none, errW_some] <;> rfl) | (simp [*, errW_none, errW_some] <;> rfl), by repeat (first | (with_reducible first | exact HB.out | apply below_alloc | apply pw_below_drewN | apply below_drew1) | exact HB.out)⟩
                · rw [if_neg c17] at H
                  have c17b0 : decide ((t239.size : Int) ≤ 400) = false := decide_eq_false c17
                  have c17b1 : decide (t239.size ≤ 400) = false := decide_eq_false (by omega)
                  clear c17
                  (first | rw [c17b0] | (simp only [i64_w, i32_w]; rw [c17b0]) | skip)
                  have H' := Aside0.mk H
                  clear H
                  go_wp2
                  go_meet
                  case rel => exact ⟨_, H', ⟨by have := HJ6.out; first | omega | exact Nat.le_refl _⟩, ⟨by (with_reducible repeat (first | apply Kd.R_alloc | apply Kd.R_drewN | apply Kd.R_drew)); exact HO_5.out⟩, ⟨by repeat (first | (with_reducible first | exact HB.out | apply below_alloc | apply pw_below_drewN | apply below_drew1) | exact HB.out)⟩⟩
              case rest =>
                clear HC16
                try clear c1
                try clear c2
                try clear p2
                try clear c3
                try clear c3b0
                try clear c5
                try clear p6
                try clear c9
                try clear c12
                try clear c12b0
                try clear c12b1
                try clear c12b2
                try clear c13
                try clear c15
                try clear c17
                try clear c17b0
                try clear c17b1
                try clear c19
                try clear c21
                try clear p2
                try clear p6
                obtain ⟨kq, HA, HJ15, HO_5, HB⟩ := hcut
                cases kq with
                | zero => exact absurd HA.out (by simp [laws_FnSdnv.j1])
                | succ kj15 =>
                  have H := HA.out
                  clear HA
                  simp only [laws_FnSdnv.j1] at H
                  have H' := Aside0.mk H
                  clear H
                  go_wp2
                  go_loopg [12, 72] kj15 (fun kq v12 v72 w' => ∃ (x12_3 : Int) (x72_3 : Int), v12 = .int .i64 x12_3 ∧ v72 = .int .i64 x72_3 ∧ Aside0 (laws_FnSdnv.l0 kq l1 t239 x12_3 t236 (t236.length : Int) x72_3 = some r) ∧ Aside0 (kq ≤ kj15) ∧ Aside0 (Kd.R (Kd.int .i64) 3 w' w.heap.size (fun _ => True) (.slice Ao9 t236.length co9) t236) ∧ Aside0 (Below w.heap.size w w'))
                  case atStart => exact ⟨(0), (0), (by first | rfl | (simp; done) | (simp [*]; done)), (by first | rfl | (simp; done) | (simp [*]; done)), H', ⟨Nat.le_refl _⟩, ⟨by (with_reducible repeat (first | apply Kd.R_alloc | apply Kd.R_drewN | apply Kd.R_drew)); exact HO_5.out⟩, ⟨by repeat (first | (with_reducible first | exact HB.out | apply below_alloc | apply pw_below_drewN | apply below_drew1) | exact HB.out)⟩⟩
                  case round =>
                    clear H'
                    try clear c1
                    try clear c2
                    try clear p2
                    try clear c3
                    try clear c3b0
                    try clear c5
                    try clear p6
                    try clear c9
                    try clear c12
                    try clear c12b0
                    try clear c12b1
                    try clear c12b2
                    try clear c13
                    try clear c15
                    try clear c17
                    try clear c17b0
                    try clear c17b1
                    try clear c19
                    try clear c21
                    try clear p2
                    try clear p6
                    obtain ⟨x12_3, x72_3, rfl, rfl, HA, HK3, HO_70, HB⟩ := hrel
                    cases gk with
                    | zero => exact absurd HA.out (by simp [laws_FnSdnv.l0])
                    | succ k3 =>
                      have H := HA.out
                      clear HA
                      simp only [laws_FnSdnv.l0] at H
                      by_cases c27 : x72_3 < (t236.length : Int)
                      · rw [if_pos c27] at H
                        have c27b0 : decide (x72_3 < (t236.length : Int)) = true := decide_eq_true c27
                        clear c27
                        by_cases c28 : 0 ≤ x72_3
                        · rw [if_pos c28] at H
                          have c28b0 : decide (0 ≤ x72_3) = true := decide_eq_true c28
                          clear c28
                          by_cases c29 : x72_3 < (t236.length : Int)
                          · rw [if_pos c29] at H
                            have c29b0 : decide (x72_3 < (t236.length : Int)) = true := decide_eq_true c29
                            clear c29
                            replace H := Option.bind_eq_some_iff.mp H
                            obtain ⟨⟨t249, t250⟩, A300, H⟩ := H
                            replace H : (if t250 = true then (if 0 ≤ x12_3 then (if x12_3 ≤ (wrap64 (x12_3 + (t249.size : Int))) then (if (wrap64 (x12_3 + (t249.size : Int))) ≤ (t239.size : Int) then (if (t239.extract (x12_3 : Int).toNat ((wrap64 (x12_3 + (t249.size : Int))) : Int).toNat).toList = t249.toList then (laws_FnSdnv.j3 k3 l1 t239 x12_3 (rd t236 x72_3) t249 t236 (t236.length : Int) x72_3 (decide ((t249.size : Int) > 5))) else (laws_FnSdnv.j3 k3 l1 t239 x12_3 (rd t236 x72_3) t249 t236 (t236.length : Int) x72_3 true)) else (none)) else (none)) else (none)) else (laws_FnSdnv.j3 k3 l1 t239 x12_3 (rd t236 x72_3) t249 t236 (t236.length : Int) x72_3 true)) = some r := H
                            have A30 := Aside0.mk A300
                            clear A300
                            have HC31 := Aside0.mk H
                            clear H
                            have p248 : 0 ≤ (x72_3 : Int) := of_decide_eq_true (by first | (with_reducible assumption) | assumption)
                            have q248 : x72_3 < (t236.length : Int) := of_decide_eq_true (by first | (with_reducible assumption) | assumption)
                            obtain ⟨ad248, e248, hx248_0⟩ := Kd.at_int (Kd.R_reads' HO_70.out).2.2 x72_3 p248 q248
                            cases e248
                            replace p248 := eq_true p248
                            replace q248 := eq_true q248
                            go_upto_region 18 with (first | ((with_reducible refine gate_callee (f := 55) rfl ?_); refine goesA (some 78) rfl rfl Try.func55 #[.int .i64 (rd t236 x72_3)] rfl ?_; (with_reducible refine (impl_SdnvOf.calls k3 (rd t236 x72_3) t249 t250 _ A30.out).mono ?_); rintro e w32 ⟨rfl, hb⟩; refine ⟨_, rfl, ?_⟩; have n0_ := Aside0.mk (Kd.R_below (by (with_reducible repeat (first | apply Kd.R_alloc | apply Kd.R_drewN | apply Kd.R_drew)); exact HO_70.out) hb); have n1_ := Aside0.mk (below_step (by repeat (first | (with_reducible first | exact HB.out | apply below_alloc | apply pw_below_drewN | apply below_drew1) | exact HB.out)) hb); clear HO_70; clear HB; have HO_70 := n0_; have HB := n1_; clear n0_ n1_; (try clear hb); (try clear hb2); (try clear hk); (try clear hi)))
                            (try simp only [Act.put, List.setIfInBounds_toArray, List.set_cons_zero, List.set_cons_succ])
                            go_cut [98] (fun v98 wc => ∃ (kq : Nat) (x98_30 : Bool), v98 = .bool x98_30 ∧ Aside0 (laws_FnSdnv.j3 kq l1 t239 x12_3 (rd t236 x72_3) t249 t236 (t236.length : Int) x72_3 x98_30 = some r) ∧ Aside0 (kq ≤ k3) ∧ Aside0 (Kd.R (Kd.int .i64) 3 wc w.heap.size (fun _ => True) (.slice (some ad248) t236.length co9) t236) ∧ Aside0 (Below w.heap.size w wc))
                            case first =>
                              have H := HC31.out
                              clear HC31
                              by_cases c33 : t250 = true
                              · subst c33
                                have H1 : (if 0 ≤ x12_3 then (if x12_3 ≤ (wrap64 (x12_3 + (t249.size : Int))) then (if (wrap64 (x12_3 + (t249.size : Int))) ≤ (t239.size : Int) then (if (t239.extract (x12_3 : Int).toNat ((wrap64 (x12_3 + (t249.size : Int))) : Int).toNat).toList = t249.toList then (laws_FnSdnv.j3 k3 l1 t239 x12_3 (rd t236 x72_3) t249 t236 (t236.length : Int) x72_3 (decide ((t249.size : Int) > 5))) else (laws_FnSdnv.j3 k3 l1 t239 x12_3 (rd t236 x72_3) t249 t236 (t236.length : Int) x72_3 true)) else (none)) else (none)) else (none)) = some r := by rw [if_pos rfl] at H; exact H
                                clear H
                                have H := H1
                                clear H1
                                by_cases c34 : 0 ≤ x12_3
                                · rw [if_pos c34] at H
                                  have c34b0 := eq_true c34
                                  have c34b1 : decide (0 ≤ x12_3) = true := decide_eq_true c34
                                  clear c34
                                  by_cases c35 : x12_3 ≤ (wrap64 (x12_3 + (t249.size : Int)))
                                  · rw [if_pos c35] at H
                                    have c35b0 := eq_true c35
                                    have c35b1 : decide (x12_3 ≤ (wrap64 (x12_3 + (t249.size : Int)))) = true := decide_eq_true c35
                                    by_cases c36 : (wrap64 (x12_3 + (t249.size : Int))) ≤ (t239.size : Int)
                                    · rw [if_pos c36] at H
                                      have c36b0 := eq_true c36
                                      have c36b1 : decide ((wrap64 (x12_3 + (t249.size : Int))) ≤ (t239.size : Int)) = true := decide_eq_true c36
                                      by_cases c37 : (t239.extract (x12_3 : Int).toNat ((wrap64 (x12_3 + (t249.size : Int))) : Int).toNat).toList = t249.toList
                                      · rw [if_pos c37] at H
                                        have c37b0 : ((t239.extract (x12_3 : Int).toNat ((wrap64 (x12_3 + (t249.size : Int))) : Int).toNat).toList == t249.toList) = true := beq_iff_eq.mpr c37
                                        have c37b1 : ((t239.extract (x12_3 : Int).toNat ((wrap64 (x12_3 + (t249.size : Int))) : Int).toNat).toList != t249.toList) = false := bne_eq_false_iff_eq.mpr c37
                                        clear c37
                                        (first | rw [c37b0] | (simp only [i64_w, i32_w]; rw [c37b0]) | skip)
                                        have H' := Aside0.mk H
                                        clear H
                                        go_wp2
                                        go_meet
                                        case rel => exact ⟨_, (decide ((t249.size : Int) > 5)), (by first | rfl | (simp; done) | (simp [*]; done)), H', ⟨by have := HJ6.out; have := HJ15.out; have := HK3.out; first | omega | exact Nat.le_refl _⟩, ⟨by (with_reducible repeat (first | apply Kd.R_alloc | apply Kd.R_drewN | apply Kd.R_drew)); exact HO_70.out⟩, ⟨by repeat (first | (with_reducible first | exact HB.out | apply below_alloc | apply pw_below_drewN | apply below_drew1) | exact HB.out)⟩⟩
                                      · rw [if_neg c37] at H
                                        have c37b0 : ((t239.extract (x12_3 : Int).toNat ((wrap64 (x12_3 + (t249.size : Int))) : Int).toNat).toList == t249.toList) = false := beq_eq_false_iff_ne.mpr c37
                                        have c37b1 : ((t239.extract (x12_3 : Int).toNat ((wrap64 (x12_3 + (t249.size : Int))) : Int).toNat).toList != t249.toList) = true := bne_iff_ne.mpr c37
                                        (first | rw [c37b0] | (simp only [i64_w, i32_w]; rw [c37b0]) | skip)
                                        have H' := Aside0.mk H
                                        clear H
                                        go_wp2
                                        go_meet
                                        case rel => exact ⟨_, (true), (by first | rfl | (simp; done) | (simp [*]; done)), H', ⟨by have := HJ6.out; have := HJ15.out; have := HK3.out; first | omega | exact Nat.le_refl _⟩, ⟨by (with_reducible repeat (first | apply Kd.R_alloc | apply Kd.R_drewN | apply Kd.R_drew)); exact HO_70.out⟩, ⟨by repeat (first | (with_reducible first | exact HB.out | apply below_alloc | apply pw_below_drewN | apply below_drew1) | exact HB.out)⟩⟩
                                    · rw [if_neg c36] at H
                                      exact absurd H (by simp)
                                  · rw [if_neg c35] at H
                                    exact absurd H (by simp)
                                · rw [if_neg c34] at H
                                  exact absurd H (by simp)
                              · replace c33 := Bool.eq_false_iff.mpr c33
                                subst c33
                                have H1 : (laws_FnSdnv.j3 k3 l1 t239 x12_3 (rd t236 x72_3) t249 t236 (t236.length : Int) x72_3 true) = some r := by rw [if_neg (show ¬ (false = true) by decide)] at H; exact H
                                clear H
                                have H := H1
                                clear H1
                                have H' := Aside0.mk H
                                clear H
                                go_wp2
                                go_meet
                                case rel => exact ⟨_, (true), (by first | rfl | (simp; done) | (simp [*]; done)), H', ⟨by have := HJ6.out; have := HJ15.out; have := HK3.out; first | omega | exact Nat.le_refl _⟩, ⟨by (with_reducible repeat (first | apply Kd.R_alloc | apply Kd.R_drewN | apply Kd.R_drew)); exact HO_70.out⟩, ⟨by repeat (first | (with_reducible first | exact HB.out | apply below_alloc | apply pw_below_drewN | apply below_drew1) | exact HB.out)⟩⟩
                            case rest =>
                              clear HC31
                              try clear c1
                              try clear c2
                              try clear p2
                              try clear q2
                              try clear hx2
                              try clear c3
                              try clear c3b0
                              try clear c5
                              try clear p6
                              try clear c9
                              try clear c12
                              try clear c12b0
                              try clear c12b1
                              try clear c12b2
                              try clear c13
                              try clear c15
                              try clear c17
                              try clear c17b0
                              try clear c17b1
                              try clear c19
                              try clear c21
                              try clear p24
                              try clear q24
                              try clear hx24
                              try clear c27
                              try clear c27b0
                              try clear c28
                              try clear c28b0
                              try clear c29
                              try clear c29b0
                              try clear c33
                              try clear c34
                              try clear c34b0
                              try clear c34b1
                              try clear c35
                              try clear c35b0
                              try clear c35b1
                              try clear c36
                              try clear c36b0
                              try clear c36b1
                              try clear c37
                              try clear c37b0
                              try clear c37b1
                              try clear hx248_0
                              try clear p2
                              try clear p248
                              try clear p6
                              try clear q248
                              obtain ⟨kq, x98_30, rfl, HA, HJ30, HO_70, HB⟩ := hcut
                              cases kq with
                              | zero => exact absurd HA.out (by simp [laws_FnSdnv.j3])
                              | succ kj30 =>
                                have H := HA.out
                                clear HA
                                simp only [laws_FnSdnv.j3] at H
                                by_cases c38 : x98_30 = true
                                · subst c38
                                  have H1 : (some false) = some r := by rw [if_pos rfl] at H; exact H
                                  clear H
                                  have H := H1
                                  clear H1
                                  obtain rfl := Option.some.inj H
                                  go_wp2
                                  go_ret
                                  exact ⟨by first | rfl | (simp [errW_none, errW_some] <;> rfl) | (simp [*, errW_none, errW_some] <;> rfl), by repeat (first | (with_reducible first | exact HB.out | apply below_alloc | apply pw_below_drewN | apply below_drew1) | exact HB.out)⟩
                                · replace c38 := Bool.eq_false_iff.mpr c38
                                  subst c38
                                  have H1 : (if (t239.size : Int) ≤ 400 then ((impl_TakeSdnv.f kj30 t239 x12_3).bind fun bt251 => (if bt251.2.2 = true then (if bt251.1 = (rd t236 x72_3) then (if bt251.2.1 = (wrap64 (x12_3 + (t249.size : Int))) then (laws_FnSdnv.l0 kj30 l1 t239 (wrap64 (x12_3 + (t249.size : Int))) t236 (t236.length : Int) (wrap64 (x72_3 + 1))) else (some false)) else (some false)) else (some false))) else (laws_FnSdnv.l0 kj30 l1 t239 (wrap64 (x12_3 + (t249.size : Int))) t236 (t236.length : Int) (wrap64 (x72_3 + 1)))) = some r := by rw [if_neg (show ¬ (false = true) by decide)] at H; exact H
                                  clear H
                                  have H := H1
                                  clear H1
                                  by_cases c39 : (t239.size : Int) ≤ 400
                                  · rw [if_pos c39] at H
                                    have c39b0 : decide ((t239.size : Int) ≤ 400) = true := decide_eq_true c39
                                    have c39b1 : decide (t239.size ≤ 400) = true := decide_eq_true (by omega)
                                    clear c39
                                    replace H := Option.bind_eq_some_iff.mp H
                                    obtain ⟨⟨t251, t252, t253⟩, A400, H⟩ := H
                                    replace H : (if t253 = true then (if t251 = (rd t236 x72_3) then (if t252 = (wrap64 (x12_3 + (t249.size : Int))) then (laws_FnSdnv.l0 kj30 l1 t239 (wrap64 (x12_3 + (t249.size : Int))) t236 (t236.length : Int) (wrap64 (x72_3 + 1))) else (some false)) else (some false)) else (some false)) = some r := H
                                    have A40 := Aside0.mk A400
                                    clear A400
                                    by_cases c41 : t253 = true
                                    · subst c41
                                      have H1 : (if t251 = (rd t236 x72_3) then (if t252 = (wrap64 (x12_3 + (t249.size : Int))) then (laws_FnSdnv.l0 kj30 l1 t239 (wrap64 (x12_3 + (t249.size : Int))) t236 (t236.length : Int) (wrap64 (x72_3 + 1))) else (some false)) else (some false)) = some r := by rw [if_pos rfl] at H; exact H
                                      clear H
                                      have H := H1
                                      clear H1
                                      by_cases c42 : t251 = (rd t236 x72_3)
                                      · rw [if_pos c42] at H
                                        have c42b0 : (t251 == (rd t236 x72_3)) = true := beq_iff_eq.mpr c42
                                        have c42b1 : (t251 != (rd t236 x72_3)) = false := bne_eq_false_iff_eq.mpr c42
                                        clear c42
                                        by_cases c43 : t252 = (wrap64 (x12_3 + (t249.size : Int)))
                                        · rw [if_pos c43] at H
                                          have c43b0 : (t252 == (wrap64 (x12_3 + (t249.size : Int)))) = true := beq_iff_eq.mpr c43
                                          have c43b1 : (t252 != (wrap64 (x12_3 + (t249.size : Int)))) = false := bne_eq_false_iff_eq.mpr c43
                                          clear c43
                                          have H' := Aside0.mk H
                                          clear H
                                          go_wp2_with (first | ((with_reducible refine gate_callee (f := 56) rfl ?_); refine goesA (some 105) rfl rfl Try.func56 #[.string t239, .int .i64 x12_3] rfl ?_; (with_reducible refine (impl_TakeSdnv.calls kj30 t239 x12_3 t251 t252 true _ A40.out).mono ?_); rintro e w' ⟨rfl, ⟨nd, rfl⟩⟩; refine ⟨_, rfl, ?_⟩))
                                          go_roundg kj30
                                          case measure => have := HJ6.out; have := HJ15.out; have := HK3.out; have := HJ30.out; omega
                                          case rel => exact ⟨(wrap64 (x12_3 + (t249.size : Int))), (wrap64 (x72_3 + 1)), (by first | rfl | (simp; done) | (simp [*]; done)), (by first | rfl | (simp; done) | (simp [*]; done)), H', ⟨by have := HJ6.out; have := HJ15.out; have := HK3.out; have := HJ30.out; omega⟩, ⟨by (with_reducible repeat (first | apply Kd.R_alloc | apply Kd.R_drewN | apply Kd.R_drew)); exact HO_70.out⟩, ⟨by repeat (first | (with_reducible first | exact HB.out | apply below_alloc | apply pw_below_drewN | apply below_drew1) | exact HB.out)⟩⟩
                                        · rw [if_neg c43] at H
                                          have c43b0 : (t252 == (wrap64 (x12_3 + (t249.size : Int)))) = false := beq_eq_false_iff_ne.mpr c43
                                          have c43b1 : (t252 != (wrap64 (x12_3 + (t249.size : Int)))) = true := bne_iff_ne.mpr c43
                                          obtain rfl := Option.some.inj H
                                          go_wp2_with (first | ((with_reducible refine gate_callee (f := 56) rfl ?_); refine goesA (some 105) rfl rfl Try.func56 #[.string t239, .int .i64 x12_3] rfl ?_; (with_reducible refine (impl_TakeSdnv.calls kj30 t239 x12_3 t251 t252 true _ A40.out).mono ?_); rintro e w' ⟨rfl, ⟨nd, rfl⟩⟩; refine ⟨_, rfl, ?_⟩))
                                          go_ret
                                          exact ⟨by first | rfl | (simp [errW_none, errW_some] <;> rfl) | (simp [*, errW_none, errW_some] <;> rfl), by repeat (first | (with_reducible first | exact HB.out | apply below_alloc | apply pw_below_drewN | apply below_drew1) | exact HB.out)⟩
                                      · rw [if_neg c42] at H
                                        have c42b0 : (t251 == (rd t236 x72_3)) = false := beq_eq_false_iff_ne.mpr c42
                                        have c42b1 : (t251 != (rd t236 x72_3)) = true := bne_iff_ne.mpr c42
                                        obtain rfl := Option.some.inj H
                                        go_wp2_with (first | ((with_reducible refine gate_callee (f := 56) rfl ?_); refine goesA (some 105) rfl rfl Try.func56 #[.string t239, .int .i64 x12_3] rfl ?_; (with_reducible refine (impl_TakeSdnv.calls kj30 t239 x12_3 t251 t252 true _ A40.out).mono ?_); rintro e w' ⟨rfl, ⟨nd, rfl⟩⟩; refine ⟨_, rfl, ?_⟩))
                                        go_ret
                                        exact ⟨by first | rfl | (simp [errW_none, errW_some] <;> rfl) | (simp [*, errW_none, errW_some] <;> rfl), by repeat (first | (with_reducible first | exact HB.out | apply below_alloc | apply pw_below_drewN | apply below_drew1) | exact HB.out)⟩
                                    · replace c41 := Bool.eq_false_iff.mpr c41
                                      subst c41
                                      have H1 : (some false) = some r := by rw [if_neg (show ¬ (false = true) by decide)] at H; exact H
                                      clear H
                                      have H := H1
                                      clear H1
                                      obtain rfl := Option.some.inj H
                                      go_wp2_with (first | ((with_reducible refine gate_callee (f := 56) rfl ?_); refine goesA (some 105) rfl rfl Try.func56 #[.string t239, .int .i64 x12_3] rfl ?_; (with_reducible refine (impl_TakeSdnv.calls kj30 t239 x12_3 t251 t252 false _ A40.out).mono ?_); rintro e w' ⟨rfl, ⟨nd, rfl⟩⟩; refine ⟨_, rfl, ?_⟩))
                                      go_ret
                                      exact ⟨by first | rfl | (simp [errW_none, errW_some] <;> rfl) | (simp [*, errW_none, errW_some] <;> rfl), by repeat (first | (with_reducible first | exact HB.out | apply below_alloc | apply pw_below_drewN | apply below_drew1) | exact HB.out)⟩
                                  · rw [if_neg c39] at H
                                    have c39b0 : decide ((t239.size : Int) ≤ 400) = false := decide_eq_false c39
                                    have c39b1 : decide (t239.size ≤ 400) = false := decide_eq_false (by omega)
                                    clear c39
                                    have H' := Aside0.mk H
                                    clear H
                                    go_wp2
                                    go_roundg kj30
                                    case measure => have := HJ6.out; have := HJ15.out; have := HK3.out; have := HJ30.out; omega
                                    case rel => exact ⟨(wrap64 (x12_3 + (t249.size : Int))), (wrap64 (x72_3 + 1)), (by first | rfl | (simp; done) | (simp [*]; done)), (by first | rfl | (simp; done) | (simp [*]; done)), H', ⟨by have := HJ6.out; have := HJ15.out; have := HK3.out; have := HJ30.out; omega⟩, ⟨by (with_reducible repeat (first | apply Kd.R_alloc | apply Kd.R_drewN | apply Kd.R_drew)); exact HO_70.out⟩, ⟨by repeat (first | (with_reducible first | exact HB.out | apply below_alloc | apply pw_below_drewN | apply below_drew1) | exact HB.out)⟩⟩
                          · rw [if_neg c29] at H
                            exact absurd H (by simp)
                        · rw [if_neg c28] at H
                          exact absurd H (by simp)
                      · rw [if_neg c27] at H
                        have c27b0 : decide (x72_3 < (t236.length : Int)) = false := decide_eq_false c27
                        clear c27
                        by_cases c44 : x12_3 = (t239.size : Int)
                        · rw [if_pos c44] at H
                          have c44b0 : (x12_3 == (t239.size : Int)) = true := beq_iff_eq.mpr c44
                          have c44b1 : (x12_3 != (t239.size : Int)) = false := bne_eq_false_iff_eq.mpr c44
                          clear c44
                          have H' := Aside0.mk H
                          clear H
                          go_wp2
                          go_meet
                          case rel => exact ⟨_, H', ⟨by have := HJ6.out; have := HJ15.out; have := HK3.out; first | omega | exact Nat.le_refl _⟩, ⟨by repeat (first | (with_reducible first | exact HB.out | apply below_alloc | apply pw_below_drewN | apply below_drew1) | exact HB.out)⟩⟩
                        · rw [if_neg c44] at H
                          have c44b0 : (x12_3 == (t239.size : Int)) = false := beq_eq_false_iff_ne.mpr c44
                          have c44b1 : (x12_3 != (t239.size : Int)) = true := bne_iff_ne.mpr c44
                          obtain rfl := Option.some.inj H
                          go_wp2
                          go_ret
                          exact ⟨by first | rfl | (simp [errW_none, errW_some] <;> rfl) | (simp [*, errW_none, errW_some] <;> rfl), by repeat (first | (with_reducible first | exact HB.out | apply below_alloc | apply pw_below_drewN | apply below_drew1) | exact HB.out)⟩
            · replace c15 := Bool.eq_false_iff.mpr c15
              subst c15
              have H1 : (laws_FnSdnv.j4 kj6 l1) = some r := by rw [if_neg (show ¬ (false = true) by decide)] at H; exact H
              clear H
              have H := H1
              clear H1
              have H' := Aside0.mk H
              clear H
              go_wp2
              go_meet
              case rel => exact ⟨_, H', ⟨by have := HJ6.out; first | omega | exact Nat.le_refl _⟩, ⟨by repeat (first | (with_reducible first | exact HB.out | apply below_alloc | apply pw_below_drewN | apply below_drew1) | exact HB.out)⟩⟩
          case rest =>
            clear HC14
            try clear c1
            try clear c2
            try clear p2
            try clear q2
            try clear hx2
            try clear c3
            try clear c3b0
            try clear c4
            try clear c5
            try clear p6
            try clear c9
            try clear c12
            try clear c12b0
            try clear c12b1
            try clear c12b2
            try clear c13
            try clear c15
            try clear c17
            try clear c17b0
            try clear c17b1
            try clear c19
            try clear c21
            try clear p24
            try clear q24
            try clear hx24
            try clear c27
            try clear c27b0
            try clear c28
            try clear c28b0
            try clear c29
            try clear c29b0
            try clear c33
            try clear c34
            try clear c34b0
            try clear c34b1
            try clear c35
            try clear c35b0
            try clear c35b1
            try clear c36
            try clear c36b0
            try clear c36b1
            try clear c37
            try clear c37b0
            try clear c37b1
            try clear c38
            try clear c39
            try clear c39b0
            try clear c39b1
            try clear c41
            try clear c42
            try clear c42b0
            try clear c42b1
            try clear c43
            try clear c43b0
            try clear c43b1
            try clear c44
            try clear c44b0
            try clear c44b1
            try clear hx248_0
            try clear p2
            try clear p24
            try clear p248
            try clear p6
            try clear q2
            try clear q24
            try clear q248
            obtain ⟨kq, HA, HJ13, HB⟩ := hcut
            cases kq with
            | zero => exact absurd HA.out (by simp [laws_FnSdnv.j4])
            | succ kj13 =>
              have H := HA.out
              clear HA
              simp only [laws_FnSdnv.j4] at H
              replace H := Option.bind_eq_some_iff.mp H
              obtain ⟨t254, A450, H⟩ := H
              replace H : ((impl_ReadSdnvs.f kj13 t254).bind fun bt255 => ((spec_ReadSdnvs.f kj13 t254).bind fun bt259 => (if (bt255.2 != bt259.2) = true then (some false) else ((laws_sameInts.f kj13 bt255.1 bt259.1).bind fun t263 => (if t263 = true then ((impl_SdnvList.f kj13 bt255.1).bind fun bt264 => (if bt255.2 = true then (if bt264.2 = true then (some (bt264.1.toList == t254.toList)) else (some false)) else (some true))) else (some false)))))) = some r := H
              have A45 := Aside0.mk A450
              clear A450
              replace H := Option.bind_eq_some_iff.mp H
              obtain ⟨⟨t255, t256⟩, A460, H⟩ := H
              replace H : ((spec_ReadSdnvs.f kj13 t254).bind fun bt259 => (if (t256 != bt259.2) = true then (some false) else ((laws_sameInts.f kj13 t255 bt259.1).bind fun t263 => (if t263 = true then ((impl_SdnvList.f kj13 t255).bind fun bt264 => (if t256 = true then (if bt264.2 = true then (some (bt264.1.toList == t254.toList)) else (some false)) else (some true))) else (some false))))) = some r := H
              have A46 := Aside0.mk A460
              clear A460
              replace H := Option.bind_eq_some_iff.mp H
              obtain ⟨⟨t259, t260⟩, A470, H⟩ := H
              replace H : (if (t256 != t260) = true then (some false) else ((laws_sameInts.f kj13 t255 t259).bind fun t263 => (if t263 = true then ((impl_SdnvList.f kj13 t255).bind fun bt264 => (if t256 = true then (if bt264.2 = true then (some (bt264.1.toList == t254.toList)) else (some false)) else (some true))) else (some false)))) = some r := H
              have A47 := Aside0.mk A470
              clear A470
              by_cases c48 : (t256 != t260) = true
              · rw [if_pos c48] at H
                have c48b0 : (t256 != t260) = true := c48
                (try (have c48b1 : decide (t256 = t260) = false := by simpa using c48))
                (try (have c48b2 : (t256 == t260) = false := by simpa using c48))
                (try (have c48b3 : ¬ (t256 = t260) := by simpa using c48))
                clear c48
                obtain rfl := Option.some.inj H
                go_wp2_with (first | ((with_reducible refine gate_callee (f := 57) rfl ?_); refine goesA (some 134) rfl rfl Try.func57 #[.slice A1 l1.length c1] rfl ?_; (with_reducible refine (spec_DrawReadSdnvs.calls kj13 _ _ l1 t254 _ ?side1 ?side2 A45.out).mono ?_); (case side1 => repeat (first | exact (Kd.C_below HR1.out HB.out) | (with_reducible refine Kd.C_alloc ?_ _) | (with_reducible refine Kd.C_drewN ?_ _) | (with_reducible refine Kd.C_drew ?_))); (case side2 => exact HC1.out); rintro e w49 ⟨rfl, hb⟩; refine ⟨_, rfl, ?_⟩; have n0_ := Aside0.mk (below_step (by repeat (first | (with_reducible first | exact HB.out | apply below_alloc | apply pw_below_drewN | apply below_drew1) | exact HB.out)) hb); clear HB; have HB := n0_; clear n0_; (try clear hb); (try clear hb2); (try clear hk); (try clear hi)) | ((with_reducible refine gate_callee (f := 53) rfl ?_); refine goesA (some 137) rfl rfl Try.func53 #[.string t254] rfl ?_; (with_reducible refine (impl_ReadSdnvs.calls kj13 t254 t255 t256 _ A46.out).mono ?_); rintro e w50 ⟨v257, rfl, ho0, hb⟩; refine ⟨_, rfl, ?_⟩; have n0_ := Aside0.mk (Kd.R_lower ho0 (below_size (by repeat (first | (with_reducible first | exact HB.out | apply below_alloc | apply pw_below_drewN | apply below_drew1) | exact HB.out)))); have n1_ := Aside0.mk (below_step (by repeat (first | (with_reducible first | exact HB.out | apply below_alloc | apply pw_below_drewN | apply below_drew1) | exact HB.out)) hb); clear HB; have HO258 := n0_; have HB := n1_; clear n0_ n1_; (try clear hb); (try clear hb2); (try clear hk); (try clear hi); (try clear ho0)) | ((with_reducible refine gate_callee (f := 58) rfl ?_); refine goesA (some 142) rfl rfl Try.func58 #[.string t254] rfl ?_; (with_reducible refine (spec_ReadSdnvs.calls kj13 t254 t259 t260 _ A47.out).mono ?_); rintro e w51 ⟨v261, rfl, ho0, hb⟩; refine ⟨_, rfl, ?_⟩; have n0_ := Aside0.mk (Kd.R_elder' (by (with_reducible repeat (first | apply Kd.R_alloc | apply Kd.R_drewN | apply Kd.R_drew)); exact HO258.out) (Kd.R_base ho0) hb); have n1_ := Aside0.mk (Kd.R_lower (Kd.R_new' ho0 (Kd.R_lt (by (with_reducible repeat (first | apply Kd.R_alloc | apply Kd.R_drewN | apply Kd.R_drew)); exact HO258.out))) (below_size (by repeat (first | (with_reducible first | exact HB.out | apply below_alloc | apply pw_below_drewN | apply below_drew1) | exact HB.out)))); have n2_ := Aside0.mk (below_step (by repeat (first | (with_reducible first | exact HB.out | apply below_alloc | apply pw_below_drewN | apply below_drew1) | exact HB.out)) hb); clear HO258; clear HB; have HO258 := n0_; have HO262 := n1_; have HB := n2_; clear n0_ n1_ n2_; (try clear hb); (try clear hb2); (try clear hk); (try clear hi); (try clear ho0)))
                go_ret
                exact ⟨by first | rfl | (simp [errW_none, errW_some] <;> rfl) | (simp [*, errW_none, errW_some] <;> rfl), by repeat (first | (with_reducible first | exact HB.out | apply below_alloc | apply pw_below_drewN | apply below_drew1) | exact HB.out)⟩
              · rw [if_neg c48] at H
                have c48b0 : (t256 != t260) = false := by simpa using c48
                (try (have c48b1 : decide (t256 = t260) = true := by simpa using c48))
                (try (have c48b2 : (t256 == t260) = true := by simpa using c48))
                clear c48
                replace H := Option.bind_eq_some_iff.mp H
                obtain ⟨t263, A520, H⟩ := H
                replace H : (if t263 = true then ((impl_SdnvList.f kj13 t255).bind fun bt264 => (if t256 = true then (if bt264.2 = true then (some (bt264.1.toList == t254.toList)) else (some false)) else (some true))) else (some false)) = some r := H
                have A52 := Aside0.mk A520
                clear A520
                by_cases c53 : t263 = true
                · subst c53
                  have H1 : ((impl_SdnvList.f kj13 t255).bind fun bt264 => (if t256 = true then (if bt264.2 = true then (some (bt264.1.toList == t254.toList)) else (some false)) else (some true))) = some r := by rw [if_pos rfl] at H; exact H
                  clear H
                  have H := H1
                  clear H1
                  replace H := Option.bind_eq_some_iff.mp H
                  obtain ⟨⟨t264, t265⟩, A540, H⟩ := H
                  replace H : (if t256 = true then (if t265 = true then (some (t264.toList == t254.toList)) else (some false)) else (some true)) = some r := H
                  have A54 := Aside0.mk A540
                  clear A540
                  by_cases c55 : t256 = true
                  · subst c55
                    have H1 : (if t265 = true then (some (t264.toList == t254.toList)) else (some false)) = some r := by rw [if_pos rfl] at H; exact H
                    clear H
                    have H := H1
                    clear H1
                    by_cases c56 : t265 = true
                    · subst c56
                      have H1 : (some (t264.toList == t254.toList)) = some r := by rw [if_pos rfl] at H; exact H
                      clear H
                      have H := H1
                      clear H1
                      obtain rfl := Option.some.inj H
                      go_wp2_with (first | ((with_reducible refine gate_callee (f := 57) rfl ?_); refine goesA (some 134) rfl rfl Try.func57 #[.slice A1 l1.length c1] rfl ?_; (with_reducible refine (spec_DrawReadSdnvs.calls kj13 _ _ l1 t254 _ ?side1 ?side2 A45.out).mono ?_); (case side1 => repeat (first | exact (Kd.C_below HR1.out HB.out) | (with_reducible refine Kd.C_alloc ?_ _) | (with_reducible refine Kd.C_drewN ?_ _) | (with_reducible refine Kd.C_drew ?_))); (case side2 => exact HC1.out); rintro e w57 ⟨rfl, hb⟩; refine ⟨_, rfl, ?_⟩; have n0_ := Aside0.mk (below_step (by repeat (first | (with_reducible first | exact HB.out | apply below_alloc | apply pw_below_drewN | apply below_drew1) | exact HB.out)) hb); clear HB; have HB := n0_; clear n0_; (try clear hb); (try clear hb2); (try clear hk); (try clear hi)) | ((with_reducible refine gate_callee (f := 53) rfl ?_); refine goesA (some 137) rfl rfl Try.func53 #[.string t254] rfl ?_; (with_reducible refine (impl_ReadSdnvs.calls kj13 t254 t255 true _ A46.out).mono ?_); rintro e w58 ⟨v257, rfl, ho0, hb⟩; refine ⟨_, rfl, ?_⟩; have n0_ := Aside0.mk (Kd.R_lower ho0 (below_size (by repeat (first | (with_reducible first | exact HB.out | apply below_alloc | apply pw_below_drewN | apply below_drew1) | exact HB.out)))); have n1_ := Aside0.mk (below_step (by repeat (first | (with_reducible first | exact HB.out | apply below_alloc | apply pw_below_drewN | apply below_drew1) | exact HB.out)) hb); clear HB; have HO258 := n0_; have HB := n1_; clear n0_ n1_; (try clear hb); (try clear hb2); (try clear hk); (try clear hi); (try clear ho0)) | ((with_reducible refine gate_callee (f := 58) rfl ?_); refine goesA (some 142) rfl rfl Try.func58 #[.string t254] rfl ?_; (with_reducible refine (spec_ReadSdnvs.calls kj13 t254 t259 t260 _ A47.out).mono ?_); rintro e w59 ⟨v261, rfl, ho0, hb⟩; refine ⟨_, rfl, ?_⟩; have n0_ := Aside0.mk (Kd.R_elder' (by (with_reducible repeat (first | apply Kd.R_alloc | apply Kd.R_drewN | apply Kd.R_drew)); exact HO258.out) (Kd.R_base ho0) hb); have n1_ := Aside0.mk (Kd.R_lower (Kd.R_new' ho0 (Kd.R_lt (by (with_reducible repeat (first | apply Kd.R_alloc | apply Kd.R_drewN | apply Kd.R_drew)); exact HO258.out))) (below_size (by repeat (first | (with_reducible first | exact HB.out | apply below_alloc | apply pw_below_drewN | apply below_drew1) | exact HB.out)))); have n2_ := Aside0.mk (below_step (by repeat (first | (with_reducible first | exact HB.out | apply below_alloc | apply pw_below_drewN | apply below_drew1) | exact HB.out)) hb); clear HO258; clear HB; have HO258 := n0_; have HO262 := n1_; have HB := n2_; clear n0_ n1_ n2_; (try clear hb); (try clear hb2); (try clear hk); (try clear hi); (try clear ho0); obtain ⟨Ao60, co60, eo60⟩ := Kd.R_slice HO258.out; subst eo60; obtain ⟨Ao61, co61, eo61⟩ := Kd.R_slice HO262.out; subst eo61) | (go_at_call 54; (with_reducible refine (laws_sameInts.calls kj13 _ _ t255 _ _ t259 true _ ?side1 ?side2 ?side3 ?side4 A52.out).mono ?_); (case side1 => repeat (first | exact (Kd.R_reads' HO258.out).2.2 | (with_reducible refine Kd.C_alloc ?_ _) | (with_reducible refine Kd.C_drewN ?_ _) | (with_reducible refine Kd.C_drew ?_))); (case side2 => exact (Kd.R_reads' HO258.out).2.1); (case side3 => repeat (first | exact (Kd.R_reads' HO262.out).2.2 | (with_reducible refine Kd.C_alloc ?_ _) | (with_reducible refine Kd.C_drewN ?_ _) | (with_reducible refine Kd.C_drew ?_))); (case side4 => exact (Kd.R_reads' HO262.out).2.1); rintro e w' ⟨rfl, ⟨nd, rfl⟩⟩) | ((with_reducible refine gate_callee (f := 51) rfl ?_); refine goesA (some 156) rfl rfl Try.func51 #[.slice Ao60 t255.length co60] rfl ?_; (with_reducible refine (impl_SdnvList.calls kj13 _ _ t255 t264 true _ ?side1 ?side2 A54.out).mono ?_); (case side1 => repeat (first | exact (Kd.R_reads' HO258.out).2.2 | (with_reducible refine Kd.C_alloc ?_ _) | (with_reducible refine Kd.C_drewN ?_ _) | (with_reducible refine Kd.C_drew ?_))); (case side2 => exact (Kd.R_reads' HO258.out).2.1); rintro e w62 ⟨rfl, hb⟩; refine ⟨_, rfl, ?_⟩; have n0_ := Aside0.mk (Kd.R_below (by (with_reducible repeat (first | apply Kd.R_alloc | apply Kd.R_drewN | apply Kd.R_drew)); exact HO258.out) hb); have n1_ := Aside0.mk (Kd.R_below (by (with_reducible repeat (first | apply Kd.R_alloc | apply Kd.R_drewN | apply Kd.R_drew)); exact HO262.out) hb); have n2_ := Aside0.mk (below_step (by repeat (first | (with_reducible first | exact HB.out | apply below_alloc | apply pw_below_drewN | apply below_drew1) | exact HB.out)) hb); clear HO258; clear HO262; clear HB; have HO258 := n0_; have HO262 := n1_; have HB := n2_; clear n0_ n1_ n2_; (try clear hb); (try clear hb2); (try clear hk); (try clear hi)))
                      go_ret
                      exact ⟨by first | rfl | (simp [errW_none, errW_some] <;> rfl) | (simp [*, errW_none, errW_some] <;> rfl), by repeat (first | (with_reducible first | exact HB.out | apply below_alloc | apply pw_below_drewN | apply below_drew1) | exact HB.out)⟩
                    · replace c56 := Bool.eq_false_iff.mpr c56
                      subst c56
                      have H1 : (some false) = some r := by rw [if_neg (show ¬ (false = true) by decide)] at H; exact H
                      clear H
                      have H := H1
                      clear H1
                      obtain rfl := Option.some.inj H
                      go_wp2_with (first | ((with_reducible refine gate_callee (f := 57) rfl ?_); refine goesA (some 134) rfl rfl Try.func57 #[.slice A1 l1.length c1] rfl ?_; (with_reducible refine (spec_DrawReadSdnvs.calls kj13 _ _ l1 t254 _ ?side1 ?side2 A45.out).mono ?_); (case side1 => repeat (first | exact (Kd.C_below HR1.out HB.out) | (with_reducible refine Kd.C_alloc ?_ _) | (with_reducible refine Kd.C_drewN ?_ _) | (with_reducible refine Kd.C_drew ?_))); (case side2 => exact HC1.out); rintro e w63 ⟨rfl, hb⟩; refine ⟨_, rfl, ?_⟩; have n0_ := Aside0.mk (below_step (by repeat (first | (with_reducible first | exact HB.out | apply below_alloc | apply pw_below_drewN | apply below_drew1) | exact HB.out)) hb); clear HB; have HB := n0_; clear n0_; (try clear hb); (try clear hb2); (try clear hk); (try clear hi)) | ((with_reducible refine gate_callee (f := 53) rfl ?_); refine goesA (some 137) rfl rfl Try.func53 #[.string t254] rfl ?_; (with_reducible refine (impl_ReadSdnvs.calls kj13 t254 t255 true _ A46.out).mono ?_); rintro e w64 ⟨v257, rfl, ho0, hb⟩; refine ⟨_, rfl, ?_⟩; have n0_ := Aside0.mk (Kd.R_lower ho0 (below_size (by repeat (first | (with_reducible first | exact HB.out | apply below_alloc | apply pw_below_drewN | apply below_drew1) | exact HB.out)))); have n1_ := Aside0.mk (below_step (by repeat (first | (with_reducible first | exact HB.out | apply below_alloc | apply pw_below_drewN | apply below_drew1) | exact HB.out)) hb); clear HB; have HO258 := n0_; have HB := n1_; clear n0_ n1_; (try clear hb); (try clear hb2); (try clear hk); (try clear hi); (try clear ho0)) | ((with_reducible refine gate_callee (f := 58) rfl ?_); refine goesA (some 142) rfl rfl Try.func58 #[.string t254] rfl ?_; (with_reducible refine (spec_ReadSdnvs.calls kj13 t254 t259 t260 _ A47.out).mono ?_); rintro e w65 ⟨v261, rfl, ho0, hb⟩; refine ⟨_, rfl, ?_⟩; have n0_ := Aside0.mk (Kd.R_elder' (by (with_reducible repeat (first | apply Kd.R_alloc | apply Kd.R_drewN | apply Kd.R_drew)); exact HO258.out) (Kd.R_base ho0) hb); have n1_ := Aside0.mk (Kd.R_lower (Kd.R_new' ho0 (Kd.R_lt (by (with_reducible repeat (first | apply Kd.R_alloc | apply Kd.R_drewN | apply Kd.R_drew)); exact HO258.out))) (below_size (by repeat (first | (with_reducible first | exact HB.out | apply below_alloc | apply pw_below_drewN | apply below_drew1) | exact HB.out)))); have n2_ := Aside0.mk (below_step (by repeat (first | (with_reducible first | exact HB.out | apply below_alloc | apply pw_below_drewN | apply below_drew1) | exact HB.out)) hb); clear HO258; clear HB; have HO258 := n0_; have HO262 := n1_; have HB := n2_; clear n0_ n1_ n2_; (try clear hb); (try clear hb2); (try clear hk); (try clear hi); (try clear ho0); obtain ⟨Ao66, co66, eo66⟩ := Kd.R_slice HO258.out; subst eo66; obtain ⟨Ao67, co67, eo67⟩ := Kd.R_slice HO262.out; subst eo67) | (go_at_call 54; (with_reducible refine (laws_sameInts.calls kj13 _ _ t255 _ _ t259 true _ ?side1 ?side2 ?side3 ?side4 A52.out).mono ?_); (case side1 => repeat (first | exact (Kd.R_reads' HO258.out).2.2 | (with_reducible refine Kd.C_alloc ?_ _) | (with_reducible refine Kd.C_drewN ?_ _) | (with_reducible refine Kd.C_drew ?_))); (case side2 => exact (Kd.R_reads' HO258.out).2.1); (case side3 => repeat (first | exact (Kd.R_reads' HO262.out).2.2 | (with_reducible refine Kd.C_alloc ?_ _) | (with_reducible refine Kd.C_drewN ?_ _) | (with_reducible refine Kd.C_drew ?_))); (case side4 => exact (Kd.R_reads' HO262.out).2.1); rintro e w' ⟨rfl, ⟨nd, rfl⟩⟩) | ((with_reducible refine gate_callee (f := 51) rfl ?_); refine goesA (some 156) rfl rfl Try.func51 #[.slice Ao66 t255.length co66] rfl ?_; (with_reducible refine (impl_SdnvList.calls kj13 _ _ t255 t264 false _ ?side1 ?side2 A54.out).mono ?_); (case side1 => repeat (first | exact (Kd.R_reads' HO258.out).2.2 | (with_reducible refine Kd.C_alloc ?_ _) | (with_reducible refine Kd.C_drewN ?_ _) | (with_reducible refine Kd.C_drew ?_))); (case side2 => exact (Kd.R_reads' HO258.out).2.1); rintro e w68 ⟨rfl, hb⟩; refine ⟨_, rfl, ?_⟩; have n0_ := Aside0.mk (Kd.R_below (by (with_reducible repeat (first | apply Kd.R_alloc | apply Kd.R_drewN | apply Kd.R_drew)); exact HO258.out) hb); have n1_ := Aside0.mk (Kd.R_below (by (with_reducible repeat (first | apply Kd.R_alloc | apply Kd.R_drewN | apply Kd.R_drew)); exact HO262.out) hb); have n2_ := Aside0.mk (below_step (by repeat (first | (with_reducible first | exact HB.out | apply below_alloc | apply pw_below_drewN | apply below_drew1) | exact HB.out)) hb); clear HO258; clear HO262; clear HB; have HO258 := n0_; have HO262 := n1_; have HB := n2_; clear n0_ n1_ n2_; (try clear hb); (try clear hb2); (try clear hk); (try clear hi)))
                      go_ret
                      exact ⟨by first | rfl | (simp [errW_none, errW_some] <;> rfl) | (simp [*, errW_none, errW_some] <;> rfl), by repeat (first | (with_reducible first | exact HB.out | apply below_alloc | apply pw_below_drewN | apply below_drew1) | exact HB.out)⟩
                  · replace c55 := Bool.eq_false_iff.mpr c55
                    subst c55
                    have H1 : (some true) = some r := by rw [if_neg (show ¬ (false = true) by decide)] at H; exact H
                    clear H
                    have H := H1
                    clear H1
                    obtain rfl := Option.some.inj H
                    go_wp2_with (first | ((with_reducible refine gate_callee (f := 57) rfl ?_); refine goesA (some 134) rfl rfl Try.func57 #[.slice A1 l1.length c1] rfl ?_; (with_reducible refine (spec_DrawReadSdnvs.calls kj13 _ _ l1 t254 _ ?side1 ?side2 A45.out).mono ?_); (case side1 => repeat (first | exact (Kd.C_below HR1.out HB.out) | (with_reducible refine Kd.C_alloc ?_ _) | (with_reducible refine Kd.C_drewN ?_ _) | (with_reducible refine Kd.C_drew ?_))); (case side2 => exact HC1.out); rintro e w69 ⟨rfl, hb⟩; refine ⟨_, rfl, ?_⟩; have n0_ := Aside0.mk (below_step (by repeat (first | (with_reducible first | exact HB.out | apply below_alloc | apply pw_below_drewN | apply below_drew1) | exact HB.out)) hb); clear HB; have HB := n0_; clear n0_; (try clear hb); (try clear hb2); (try clear hk); (try clear hi)) | ((with_reducible refine gate_callee (f := 53) rfl ?_); refine goesA (some 137) rfl rfl Try.func53 #[.string t254] rfl ?_; (with_reducible refine (impl_ReadSdnvs.calls kj13 t254 t255 false _ A46.out).mono ?_); rintro e w70 ⟨v257, rfl, ho0, hb⟩; refine ⟨_, rfl, ?_⟩; have n0_ := Aside0.mk (Kd.R_lower ho0 (below_size (by repeat (first | (with_reducible first | exact HB.out | apply below_alloc | apply pw_below_drewN | apply below_drew1) | exact HB.out)))); have n1_ := Aside0.mk (below_step (by repeat (first | (with_reducible first | exact HB.out | apply below_alloc | apply pw_below_drewN | apply below_drew1) | exact HB.out)) hb); clear HB; have HO258 := n0_; have HB := n1_; clear n0_ n1_; (try clear hb); (try clear hb2); (try clear hk); (try clear hi); (try clear ho0)) | ((with_reducible refine gate_callee (f := 58) rfl ?_); refine goesA (some 142) rfl rfl Try.func58 #[.string t254] rfl ?_; (with_reducible refine (spec_ReadSdnvs.calls kj13 t254 t259 t260 _ A47.out).mono ?_); rintro e w71 ⟨v261, rfl, ho0, hb⟩; refine ⟨_, rfl, ?_⟩; have n0_ := Aside0.mk (Kd.R_elder' (by (with_reducible repeat (first | apply Kd.R_alloc | apply Kd.R_drewN | apply Kd.R_drew)); exact HO258.out) (Kd.R_base ho0) hb); have n1_ := Aside0.mk (Kd.R_lower (Kd.R_new' ho0 (Kd.R_lt (by (with_reducible repeat (first | apply Kd.R_alloc | apply Kd.R_drewN | apply Kd.R_drew)); exact HO258.out))) (below_size (by repeat (first | (with_reducible first | exact HB.out | apply below_alloc | apply pw_below_drewN | apply below_drew1) | exact HB.out)))); have n2_ := Aside0.mk (below_step (by repeat (first | (with_reducible first | exact HB.out | apply below_alloc | apply pw_below_drewN | apply below_drew1) | exact HB.out)) hb); clear HO258; clear HB; have HO258 := n0_; have HO262 := n1_; have HB := n2_; clear n0_ n1_ n2_; (try clear hb); (try clear hb2); (try clear hk); (try clear hi); (try clear ho0); obtain ⟨Ao72, co72, eo72⟩ := Kd.R_slice HO258.out; subst eo72; obtain ⟨Ao73, co73, eo73⟩ := Kd.R_slice HO262.out; subst eo73) | (go_at_call 54; (with_reducible refine (laws_sameInts.calls kj13 _ _ t255 _ _ t259 true _ ?side1 ?side2 ?side3 ?side4 A52.out).mono ?_); (case side1 => repeat (first | exact (Kd.R_reads' HO258.out).2.2 | (with_reducible refine Kd.C_alloc ?_ _) | (with_reducible refine Kd.C_drewN ?_ _) | (with_reducible refine Kd.C_drew ?_))); (case side2 => exact (Kd.R_reads' HO258.out).2.1); (case side3 => repeat (first | exact (Kd.R_reads' HO262.out).2.2 | (with_reducible refine Kd.C_alloc ?_ _) | (with_reducible refine Kd.C_drewN ?_ _) | (with_reducible refine Kd.C_drew ?_))); (case side4 => exact (Kd.R_reads' HO262.out).2.1); rintro e w' ⟨rfl, ⟨nd, rfl⟩⟩) | ((with_reducible refine gate_callee (f := 51) rfl ?_); refine goesA (some 156) rfl rfl Try.func51 #[.slice Ao72 t255.length co72] rfl ?_; (with_reducible refine (impl_SdnvList.calls kj13 _ _ t255 t264 t265 _ ?side1 ?side2 A54.out).mono ?_); (case side1 => repeat (first | exact (Kd.R_reads' HO258.out).2.2 | (with_reducible refine Kd.C_alloc ?_ _) | (with_reducible refine Kd.C_drewN ?_ _) | (with_reducible refine Kd.C_drew ?_))); (case side2 => exact (Kd.R_reads' HO258.out).2.1); rintro e w74 ⟨rfl, hb⟩; refine ⟨_, rfl, ?_⟩; have n0_ := Aside0.mk (Kd.R_below (by (with_reducible repeat (first | apply Kd.R_alloc | apply Kd.R_drewN | apply Kd.R_drew)); exact HO258.out) hb); have n1_ := Aside0.mk (Kd.R_below (by (with_reducible repeat (first | apply Kd.R_alloc | apply Kd.R_drewN | apply Kd.R_drew)); exact HO262.out) hb); have n2_ := Aside0.mk (below_step (by repeat (first | (with_reducible first | exact HB.out | apply below_alloc | apply pw_below_drewN | apply below_drew1) | exact HB.out)) hb); clear HO258; clear HO262; clear HB; have HO258 := n0_; have HO262 := n1_; have HB := n2_; clear n0_ n1_ n2_; (try clear hb); (try clear hb2); (try clear hk); (try clear hi)))
                    go_ret
                    exact ⟨by first | rfl | (simp [errW_none, errW_some] <;> rfl) | (simp [*, errW_none, errW_some] <;> rfl), by repeat (first | (with_reducible first | exact HB.out | apply below_alloc | apply pw_below_drewN | apply below_drew1) | exact HB.out)⟩
                · replace c53 := Bool.eq_false_iff.mpr c53
                  subst c53
                  have H1 : (some false) = some r := by rw [if_neg (show ¬ (false = true) by decide)] at H; exact H
                  clear H
                  have H := H1
                  clear H1
                  obtain rfl := Option.some.inj H
                  go_wp2_with (first | ((with_reducible refine gate_callee (f := 57) rfl ?_); refine goesA (some 134) rfl rfl Try.func57 #[.slice A1 l1.length c1] rfl ?_; (with_reducible refine (spec_DrawReadSdnvs.calls kj13 _ _ l1 t254 _ ?side1 ?side2 A45.out).mono ?_); (case side1 => repeat (first | exact (Kd.C_below HR1.out HB.out) | (with_reducible refine Kd.C_alloc ?_ _) | (with_reducible refine Kd.C_drewN ?_ _) | (with_reducible refine Kd.C_drew ?_))); (case side2 => exact HC1.out); rintro e w75 ⟨rfl, hb⟩; refine ⟨_, rfl, ?_⟩; have n0_ := Aside0.mk (below_step (by repeat (first | (with_reducible first | exact HB.out | apply below_alloc | apply pw_below_drewN | apply below_drew1) | exact HB.out)) hb); clear HB; have HB := n0_; clear n0_; (try clear hb); (try clear hb2); (try clear hk); (try clear hi)) | ((with_reducible refine gate_callee (f := 53) rfl ?_); refine goesA (some 137) rfl rfl Try.func53 #[.string t254] rfl ?_; (with_reducible refine (impl_ReadSdnvs.calls kj13 t254 t255 t256 _ A46.out).mono ?_); rintro e w76 ⟨v257, rfl, ho0, hb⟩; refine ⟨_, rfl, ?_⟩; have n0_ := Aside0.mk (Kd.R_lower ho0 (below_size (by repeat (first | (with_reducible first | exact HB.out | apply below_alloc | apply pw_below_drewN | apply below_drew1) | exact HB.out)))); have n1_ := Aside0.mk (below_step (by repeat (first | (with_reducible first | exact HB.out | apply below_alloc | apply pw_below_drewN | apply below_drew1) | exact HB.out)) hb); clear HB; have HO258 := n0_; have HB := n1_; clear n0_ n1_; (try clear hb); (try clear hb2); (try clear hk); (try clear hi); (try clear ho0)) | ((with_reducible refine gate_callee (f := 58) rfl ?_); refine goesA (some 142) rfl rfl Try.func58 #[.string t254] rfl ?_; (with_reducible refine (spec_ReadSdnvs.calls kj13 t254 t259 t260 _ A47.out).mono ?_); rintro e w77 ⟨v261, rfl, ho0, hb⟩; refine ⟨_, rfl, ?_⟩; have n0_ := Aside0.mk (Kd.R_elder' (by (with_reducible repeat (first | apply Kd.R_alloc | apply Kd.R_drewN | apply Kd.R_drew)); exact HO258.out) (Kd.R_base ho0) hb); have n1_ := Aside0.mk (Kd.R_lower (Kd.R_new' ho0 (Kd.R_lt (by (with_reducible repeat (first | apply Kd.R_alloc | apply Kd.R_drewN | apply Kd.R_drew)); exact HO258.out))) (below_size (by repeat (first | (with_reducible first | exact HB.out | apply below_alloc | apply pw_below_drewN | apply below_drew1) | exact HB.out)))); have n2_ := Aside0.mk (below_step (by repeat (first | (with_reducible first | exact HB.out | apply below_alloc | apply pw_below_drewN | apply below_drew1) | exact HB.out)) hb); clear HO258; clear HB; have HO258 := n0_; have HO262 := n1_; have HB := n2_; clear n0_ n1_ n2_; (try clear hb); (try clear hb2); (try clear hk); (try clear hi); (try clear ho0); obtain ⟨Ao78, co78, eo78⟩ := Kd.R_slice HO258.out; subst eo78; obtain ⟨Ao79, co79, eo79⟩ := Kd.R_slice HO262.out; subst eo79) | (go_at_call 54; (with_reducible refine (laws_sameInts.calls kj13 _ _ t255 _ _ t259 false _ ?side1 ?side2 ?side3 ?side4 A52.out).mono ?_); (case side1 => repeat (first | exact (Kd.R_reads' HO258.out).2.2 | (with_reducible refine Kd.C_alloc ?_ _) | (with_reducible refine Kd.C_drewN ?_ _) | (with_reducible refine Kd.C_drew ?_))); (case side2 => exact (Kd.R_reads' HO258.out).2.1); (case side3 => repeat (first | exact (Kd.R_reads' HO262.out).2.2 | (with_reducible refine Kd.C_alloc ?_ _) | (with_reducible refine Kd.C_drewN ?_ _) | (with_reducible refine Kd.C_drew ?_))); (case side4 => exact (Kd.R_reads' HO262.out).2.1); rintro e w' ⟨rfl, ⟨nd, rfl⟩⟩))
                  go_ret
                  exact ⟨by first | rfl | (simp [errW_none, errW_some] <;> rfl) | (simp [*, errW_none, errW_some] <;> rfl), by repeat (first | (with_reducible first | exact HB.out | apply below_alloc | apply pw_below_drewN | apply below_drew1) | exact HB.out)⟩

/-- THE ONE PURE STATEMENT of laws_FnSdnv: yours. -/
def laws_FnSdnv.Pure : Prop := ∀ (l0 : List Int) (l1 : List Int), l0.length ≤ maxLen → l0.length * 1 ≤ 140737488351232 → (∀ x ∈ l0, (Lit.int .u8 x).wf = true) → l1.length ≤ maxLen → l1.length * 1 ≤ 140737488351232 → (∀ x ∈ l1, (Lit.int .u8 x).wf = true) → ∃ k, laws_FnSdnv.f k l0 l1 = some true
theorem laws_FnSdnv.walk (P : laws_FnSdnv.Pure) (a0 : Option Addr) (len0 cap0 : Nat) (z0 : List Int) (a1 : Option Addr) (len1 cap1 : Nat) (z1 : List Int) (w : World) (w0 : (a0 = none ∧ len0 = 0 ∧ cap0 = 0 ∧ z0 = []) ∨ ∃ x, a0 = some x ∧ len0 ≤ cap0 ∧ cap0 ≤ maxLen ∧ z0.length = cap0 ∧ (∀ i, i < z0.length → w.cell? (x.add i) = some (.int .u8 (z0.getD i 0))) ∧ ∀ n ∈ z0, (Lit.int .u8 n).wf = true) (y0 : len0 * 1 ≤ 140737488351232) (w1 : (a1 = none ∧ len1 = 0 ∧ cap1 = 0 ∧ z1 = []) ∨ ∃ x, a1 = some x ∧ len1 ≤ cap1 ∧ cap1 ≤ maxLen ∧ z1.length = cap1 ∧ (∀ i, i < z1.length → w.cell? (x.add i) = some (.int .u8 (z1.getD i 0))) ∧ ∀ n ∈ z1, (Lit.int .u8 n).wf = true) (y1 : len1 * 1 ≤ 140737488351232) :
    Calls Try.prog 9 #[.slice a0 len0 cap0, .slice a1 len1 cap1] w fun e w' => e = .returned (.bool true) ∧ Below w.heap.size w w' := by
  obtain ⟨l0, rfl, hr0, hm0, hw0, hc0⟩ := ReadsInt.ofRowC w0
  obtain ⟨l1, rfl, hr1, hm1, hw1, hc1⟩ := ReadsInt.ofRowC w1
  obtain ⟨k, h⟩ := P l0 l1 hm0 y0 hw0 hm1 y1 hw1
  refine (laws_FnSdnv.calls k _ _ l0 _ _ l1 true w (Kd.C_of_reads (d := (0 : Int)) (h1 := fun _ => rfl) hr0) hc0 (Kd.C_of_reads (d := (0 : Int)) (h1 := fun _ => rfl) hr1) hc1 h).mono ?_
  rintro e w' ⟨rfl, hd⟩
  exact ⟨rfl, hd⟩

end Go.Proofs.Ytnphabcbnpenjaa.XFnSdnv
