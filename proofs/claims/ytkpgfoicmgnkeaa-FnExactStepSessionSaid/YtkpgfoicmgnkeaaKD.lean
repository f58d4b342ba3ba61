/-
Printed by engpr.py: pure definitions of the functions.
-/
import Derived.Test.YtkpgfoicmgnkeaaKC
set_option linter.unusedVariables false
namespace Go.Eng
open Go Go.Proofs Go.Proofs.YtkpgfoicmgnkeaaW.PrintWords
/-- f52 impl.within -/
noncomputable def impl_within (n0 : Int) (low1 : Int) (high2 : Int) : Option (Bool) :=
  bif decide (low1 ≤ n0) then
    some (decide (n0 ≤ high2))
  else
    some false
/-- f48 impl.isBlock -/
noncomputable def impl_isBlock (block0 : ByteArray) : Option (Bool) :=
  (impl_within (block0.size : Int) 1 40).bind fun c2 =>
  some c2
/-- f49 impl.many -/
noncomputable def impl_many (block0 : ByteArray) : Option (Int) :=
  some (w64 (Int.tdiv (w64 ((w64 ((block0.size : Int) + 8)) - 1)) 8))
/-- f24 impl.NewSession -/
noncomputable def impl_NewSession (block0 : ByteArray) : Option (ByteArray × ByteArray × Bool × Bool × List Bool × List Bool) :=
  (impl_isBlock block0).bind fun c4 =>
  bif (!c4) then
    some (emp, emp, false, false, [], [])
  else
    (impl_many block0).bind fun c5 =>
    grd (c5 == c5) <| grd (decide (0 ≤ c5)) <| grd (decide ((c5).toNat * 1 ≤ 140737488355328)) <| grd (c5 == c5) <| grd (decide (0 ≤ c5)) <| grd (decide ((c5).toNat * 1 ≤ 140737488355328)) <| grd ((block0.size : Int) == (block0.size : Int)) <| grd (decide (0 ≤ (block0.size : Int))) <| grd (decide (((block0.size : Int)).toNat * 1 ≤ 140737488355328)) <|
    some (block0, strOfNums (List.replicate ((block0.size : Int)).toNat 0), false, true, List.replicate (c5).toNat false, List.replicate (c5).toNat false)
/-- f53 impl.segment -/
noncomputable def impl_segment (block0 : ByteArray) (at1 : Int) : Option (ByteArray) :=
  grd (decide (0 ≤ mn (block0.size : Int) (w64 ((w64 (at1 + 1)) * 8)))) <| grd (decide (mn (block0.size : Int) (w64 ((w64 (at1 + 1)) * 8)) ≤ (block0.size : Int))) <| grd (decide (0 ≤ w64 (at1 * 8))) <| grd (decide (w64 (at1 * 8) ≤ mn (block0.size : Int) (w64 ((w64 (at1 + 1)) * 8)))) <|
  some (sub block0 (w64 (at1 * 8)) (mn (block0.size : Int) (w64 ((w64 (at1 + 1)) * 8))))
/-- f65 (impl.Session).left -/
noncomputable def impl_Session_left.s0 (k : Nat) (go0 : (List Bool × Int × Int × List Int) → Option (List Int)) : (List Bool × Int × Int × List Int) → Option (List Int) := fun (t8, t9, t10, r0) =>
  bif decide (t10 < t9) then
    grd (decide (0 ≤ t10)) <| grd (decide (t10 < (t8.length : Int))) <|
    bif (!rdOf false t8 t10) then
      grd (decide ((r0.length + 1) * 8 ≤ 140737488355328)) <|
      go0 (t8, t9, w64 (t10 + 1), r0 ++ [t10])
    else
      go0 (t8, t9, w64 (t10 + 1), r0)
  else
    some r0
noncomputable def impl_Session_left.g (k : Nat) (s0_0 : ByteArray) (s0_1 : List Bool) (s0_2 : List Bool) (s0_3 : ByteArray) (s0_4 : Bool) (s0_5 : List (Int × Int × ByteArray × Bool × List Bool)) (s0_6 : List (Int × Int × ByteArray × Bool × List Bool)) : Option (List Int) :=
  iter (impl_Session_left.s0 k) k (s0_1, (s0_1.length : Int), 0, [])
noncomputable def impl_Session_left (s0_0 : ByteArray) (s0_1 : List Bool) (s0_2 : List Bool) (s0_3 : ByteArray) (s0_4 : Bool) (s0_5 : List (Int × Int × ByteArray × Bool × List Bool)) (s0_6 : List (Int × Int × ByteArray × Bool × List Bool)) : Option (List Int) := lim fun k => impl_Session_left.g k s0_0 s0_1 s0_2 s0_3 s0_4 s0_5 s0_6
/-- f78 (impl.Segment).copied -/
noncomputable def impl_Segment_copied (x0_0 : Int) (x0_1 : Int) (x0_2 : ByteArray) (x0_3 : Bool) (x0_4 : List Bool) : Option (Int × Int × ByteArray × Bool × List Bool) :=
  (cloneF 1 x0_4).bind fun c2 =>
  some (x0_0, x0_1, x0_2, x0_3, c2)
/-- f92 slices.Index[[]bool,bool] -/
noncomputable def slices_Index_bool.s0 (k : Nat) (go0 : (List Bool × Bool × Int × Int) → Option (Int)) : (List Bool × Bool × Int × Int) → Option (Int) := fun (s0, v1, t7, t8) =>
  bif decide (t8 < t7) then
    grd (decide (0 ≤ t8)) <| grd (decide (t8 < (s0.length : Int))) <|
    bif (v1 == rdOf false s0 t8) then
      some t8
    else
      go0 (s0, v1, t7, w64 (t8 + 1))
  else
    some (-1)
noncomputable def slices_Index_bool.g (k : Nat) (s0 : List Bool) (v1 : Bool) : Option (Int) :=
  iter (slices_Index_bool.s0 k) k (s0, v1, (s0.length : Int), 0)
noncomputable def slices_Index_bool (s0 : List Bool) (v1 : Bool) : Option (Int) := lim fun k => slices_Index_bool.g k s0 v1
/-- f85 slices.Contains[[]bool,bool] -/
noncomputable def slices_Contains_bool (s0 : List Bool) (v1 : Bool) : Option (Bool) :=
  (slices_Index_bool s0 v1).bind fun c2 =>
  some (decide (c2 ≥ 0))
/-- f47 impl.isAll -/
noncomputable def impl_isAll (l0 : List Bool) : Option (Bool) :=
  (slices_Contains_bool l0 false).bind fun c2 =>
  some (!c2)
/-- f51 (impl.Session).bytes -/
noncomputable def impl_Session_bytes.s0 (k : Nat) (go0 : (List Bool × Int × Int × ByteArray × List Bool × List Bool × ByteArray × Bool × List (Int × Int × ByteArray × Bool × List Bool) × List (Int × Int × ByteArray × Bool × List Bool) × List Int) → Option (ByteArray)) : (List Bool × Int × Int × ByteArray × List Bool × List Bool × ByteArray × Bool × List (Int × Int × ByteArray × Bool × List Bool) × List (Int × Int × ByteArray × Bool × List Bool) × List Int) → Option (ByteArray) := fun (t11, t12, t13, b0_0, b0_1, b0_2, b0_3, b0_4, b0_5, b0_6, r1) =>
  bif decide (t13 < t12) then
    grd (decide (0 ≤ t13)) <| grd (decide (t13 < (t11.length : Int))) <|
    bif rdOf false t11 t13 then
      grd (decide (0 ≤ w64 (t13 * 8))) <| grd (decide (w64 (t13 * 8) ≤ (r1.length : Int))) <|
      (impl_segment b0_0 t13).bind fun c2 =>
      grd (decide (w64 (t13 * 8) + (c2.size : Int) ≤ (r1.length : Int))) <|
      go0 (t11, t12, w64 (t13 + 1), b0_0, b0_1, b0_2, b0_3, b0_4, b0_5, b0_6, putS r1 (w64 (t13 * 8)) c2)
    else
      go0 (t11, t12, w64 (t13 + 1), b0_0, b0_1, b0_2, b0_3, b0_4, b0_5, b0_6, r1)
  else
    some (strOfNums r1)
noncomputable def impl_Session_bytes.g (k : Nat) (s0_0 : ByteArray) (s0_1 : List Bool) (s0_2 : List Bool) (s0_3 : ByteArray) (s0_4 : Bool) (s0_5 : List (Int × Int × ByteArray × Bool × List Bool)) (s0_6 : List (Int × Int × ByteArray × Bool × List Bool)) : Option (ByteArray) :=
  grd ((s0_0.size : Int) == (s0_0.size : Int)) <| grd (decide (0 ≤ (s0_0.size : Int))) <| grd (decide (((s0_0.size : Int)).toNat * 1 ≤ 140737488355328)) <|
  iter (impl_Session_bytes.s0 k) k (s0_2, (s0_2.length : Int), 0, s0_0, s0_1, s0_2, s0_3, s0_4, s0_5, s0_6, List.replicate ((s0_0.size : Int)).toNat 0)
noncomputable def impl_Session_bytes (s0_0 : ByteArray) (s0_1 : List Bool) (s0_2 : List Bool) (s0_3 : ByteArray) (s0_4 : Bool) (s0_5 : List (Int × Int × ByteArray × Bool × List Bool)) (s0_6 : List (Int × Int × ByteArray × Bool × List Bool)) : Option (ByteArray) := lim fun k => impl_Session_bytes.g k s0_0 s0_1 s0_2 s0_3 s0_4 s0_5 s0_6
/-- f80 (*impl.Session).take -/
noncomputable def impl_Session_take.s0 (k : Nat) (go0 : (List Bool × Int × Int × ByteArray × ByteArray × Bool × List Bool × List Bool × List (Int × Int × ByteArray × Bool × List Bool) × List (Int × Int × ByteArray × Bool × List Bool)) → Option (ByteArray × ByteArray × Bool × List Bool × List Bool × List (Int × Int × ByteArray × Bool × List Bool) × List (Int × Int × ByteArray × Bool × List Bool))) : (List Bool × Int × Int × ByteArray × ByteArray × Bool × List Bool × List Bool × List (Int × Int × ByteArray × Bool × List Bool) × List (Int × Int × ByteArray × Bool × List Bool)) → Option (ByteArray × ByteArray × Bool × List Bool × List Bool × List (Int × Int × ByteArray × Bool × List Bool) × List (Int × Int × ByteArray × Bool × List Bool)) := fun (t10, t11, t12, b0_0, b0_3, b0_4, r1, r2, r3, r4) =>
  bif decide (t12 < t11) then
    grd (decide (0 ≤ t12)) <| grd (decide (t12 < (t10.length : Int))) <| grd (decide (0 ≤ t12)) <| grd (decide (t12 < (r1.length : Int))) <|
    bif rdOf false r1 t12 then
      grd (decide (0 ≤ t12)) <| grd (decide (t12 < (r1.length : Int))) <|
      go0 (t10, t11, w64 (t12 + 1), b0_0, b0_3, b0_4, setI r1 t12 true, r2, r3, r4)
    else
      grd (decide (0 ≤ t12)) <| grd (decide (t12 < (r1.length : Int))) <|
      go0 (t10, t11, w64 (t12 + 1), b0_0, b0_3, b0_4, setI r1 t12 (rdOf false t10 t12), r2, r3, r4)
  else
    (impl_isAll r1).bind fun c5 =>
    some (b0_0, b0_3, c5, r1, r2, r3, r4)
noncomputable def impl_Session_take.g (k : Nat) (x1_0 : Int) (x1_1 : Int) (x1_2 : ByteArray) (x1_3 : Bool) (x1_4 : List Bool) (b0_0 : ByteArray) (b0_3 : ByteArray) (b0_4 : Bool) (r1 : List Bool) (r2 : List Bool) (r3 : List (Int × Int × ByteArray × Bool × List Bool)) (r4 : List (Int × Int × ByteArray × Bool × List Bool)) : Option (ByteArray × ByteArray × Bool × List Bool × List Bool × List (Int × Int × ByteArray × Bool × List Bool) × List (Int × Int × ByteArray × Bool × List Bool)) :=
  bif (x1_0 == 2) then
    iter (impl_Session_take.s0 k) k (x1_4, (x1_4.length : Int), 0, b0_0, b0_3, b0_4, r1, r2, r3, r4)
  else
    grd (decide (0 ≤ x1_1)) <| grd (decide (x1_1 < (r2.length : Int))) <|
    (impl_Session_bytes b0_0 r1 (setI r2 x1_1 true) b0_3 b0_4 r3 r4).bind fun c6 =>
    bif x1_3 then
      bif decide ((r4.length : Int) < 30) then
        (cloneF 1 (setI r2 x1_1 true)).bind fun c7 =>
        grd (decide ((r4.length + 1) * 64 ≤ 140737488355328)) <|
        some (b0_0, c6, b0_4, r1, setI r2 x1_1 true, r3, r4 ++ [(2, 0, emp, false, c7)])
      else
        some (b0_0, c6, b0_4, r1, setI r2 x1_1 true, r3, r4)
    else
      some (b0_0, c6, b0_4, r1, setI r2 x1_1 true, r3, r4)
noncomputable def impl_Session_take (x1_0 : Int) (x1_1 : Int) (x1_2 : ByteArray) (x1_3 : Bool) (x1_4 : List Bool) (b0_0 : ByteArray) (b0_3 : ByteArray) (b0_4 : Bool) (r1 : List Bool) (r2 : List Bool) (r3 : List (Int × Int × ByteArray × Bool × List Bool)) (r4 : List (Int × Int × ByteArray × Bool × List Bool)) : Option (ByteArray × ByteArray × Bool × List Bool × List Bool × List (Int × Int × ByteArray × Bool × List Bool) × List (Int × Int × ByteArray × Bool × List Bool)) := lim fun k => impl_Session_take.g k x1_0 x1_1 x1_2 x1_3 x1_4 b0_0 b0_3 b0_4 r1 r2 r3 r4
/-- f43 (*impl.Session).step -/
noncomputable def impl_Session_step.s0 (k : Nat) (go0 : (Int × Int × ByteArray × ByteArray × Bool × List Bool × List Bool × List (Int × Int × ByteArray × Bool × List Bool) × List (Int × Int × ByteArray × Bool × List Bool) × List Int) → Option (Bool × ByteArray × ByteArray × Bool × List Bool × List Bool × List (Int × Int × ByteArray × Bool × List Bool) × List (Int × Int × ByteArray × Bool × List Bool))) : (Int × Int × ByteArray × ByteArray × Bool × List Bool × List Bool × List (Int × Int × ByteArray × Bool × List Bool) × List (Int × Int × ByteArray × Bool × List Bool) × List Int) → Option (Bool × ByteArray × ByteArray × Bool × List Bool × List Bool × List (Int × Int × ByteArray × Bool × List Bool) × List (Int × Int × ByteArray × Bool × List Bool)) := fun (t33, t34, b0_0, b0_3, b0_4, r1, r2, r3, r4, r5) =>
  bif decide (t34 < t33) then
    grd (decide (0 ≤ t34)) <| grd (decide (t34 < (r5.length : Int))) <|
    (impl_segment b0_0 (rdOf 0 r5 t34)).bind fun c11 =>
    grd (decide ((r3.length + 1) * 64 ≤ 140737488355328)) <|
    go0 (t33, w64 (t34 + 1), b0_0, b0_3, b0_4, r1, r2, r3 ++ [(1, rdOf 0 r5 t34, c11, (t34 == w64 ((r5.length : Int) - 1)), [])], r4, r5)
  else
    some (true, b0_0, b0_3, b0_4, r1, r2, r3, r4)
noncomputable def impl_Session_step.g (k : Nat) (x1_0 : Int) (x1_1 : Bool) (x1_2 : Int) (b0_0 : ByteArray) (b0_3 : ByteArray) (b0_4 : Bool) (r1 : List Bool) (r2 : List Bool) (r3 : List (Int × Int × ByteArray × Bool × List Bool)) (r4 : List (Int × Int × ByteArray × Bool × List Bool)) : Option (Bool × ByteArray × ByteArray × Bool × List Bool × List Bool × List (Int × Int × ByteArray × Bool × List Bool) × List (Int × Int × ByteArray × Bool × List Bool)) :=
  bif (x1_0 == 1) then
    (impl_Session_left b0_0 r1 r2 b0_3 b0_4 r3 r4).bind fun c10 =>
    bif b0_4 then
      some (false, b0_0, b0_3, b0_4, r1, r2, r3, r4)
    else
      bif decide (w64 ((r3.length : Int) + (c10.length : Int)) > 30) then
        some (false, b0_0, b0_3, b0_4, r1, r2, r3, r4)
      else
        iter (impl_Session_step.s0 k) k ((c10.length : Int), 0, b0_0, b0_3, b0_4, r1, r2, r3, r4, c10)
  else
    bif x1_1 then
      (impl_within x1_0 2 4).bind fun c12 =>
      bif (!c12) then
        some (false, b0_0, b0_3, b0_4, r1, r2, r3, r4)
      else
        (impl_within x1_2 0 (w64 ((r4.length : Int) - 1))).bind fun c13 =>
        bif (!c13) then
          some (false, b0_0, b0_3, b0_4, r1, r2, r3, r4)
        else
          grd (decide (0 ≤ x1_2)) <| grd (decide (x1_2 < (r4.length : Int))) <|
          bif (x1_0 == 4) then
            bif ((r4.length : Int) == 30) then
              some (false, b0_0, b0_3, b0_4, r1, r2, r3, r4)
            else
              (impl_Segment_copied (rdOf (0, 0, emp, false, []) r4 x1_2).1 (rdOf (0, 0, emp, false, []) r4 x1_2).2.1 (rdOf (0, 0, emp, false, []) r4 x1_2).2.2.1 (rdOf (0, 0, emp, false, []) r4 x1_2).2.2.2.1 (rdOf (0, 0, emp, false, []) r4 x1_2).2.2.2.2).bind fun (c14_0, c14_1, c14_2, c14_3, c14_4) =>
              grd (decide ((r4.length + 1) * 64 ≤ 140737488355328)) <|
              some (true, b0_0, b0_3, b0_4, r1, r2, r3, r4 ++ [(c14_0, c14_1, c14_2, c14_3, c14_4)])
          else
            (delF r4 x1_2 (w64 (x1_2 + 1))).bind fun c15 =>
            bif (x1_0 == 2) then
              (impl_Session_take (rdOf (0, 0, emp, false, []) r4 x1_2).1 (rdOf (0, 0, emp, false, []) r4 x1_2).2.1 (rdOf (0, 0, emp, false, []) r4 x1_2).2.2.1 (rdOf (0, 0, emp, false, []) r4 x1_2).2.2.2.1 (rdOf (0, 0, emp, false, []) r4 x1_2).2.2.2.2 b0_0 b0_3 b0_4 r1 r2 r3 c15).bind fun (c16_0, c16_1, c16_2, c16_3, c16_4, c16_5, c16_6) =>
              some (true, c16_0, c16_1, c16_2, c16_3, c16_4, c16_5, c16_6)
            else
              some (true, b0_0, b0_3, b0_4, r1, r2, r3, c15)
    else
      (impl_within x1_0 2 4).bind fun c17 =>
      bif (!c17) then
        some (false, b0_0, b0_3, b0_4, r1, r2, r3, r4)
      else
        (impl_within x1_2 0 (w64 ((r3.length : Int) - 1))).bind fun c18 =>
        bif (!c18) then
          some (false, b0_0, b0_3, b0_4, r1, r2, r3, r4)
        else
          grd (decide (0 ≤ x1_2)) <| grd (decide (x1_2 < (r3.length : Int))) <|
          bif (x1_0 == 4) then
            bif ((r3.length : Int) == 30) then
              some (false, b0_0, b0_3, b0_4, r1, r2, r3, r4)
            else
              (impl_Segment_copied (rdOf (0, 0, emp, false, []) r3 x1_2).1 (rdOf (0, 0, emp, false, []) r3 x1_2).2.1 (rdOf (0, 0, emp, false, []) r3 x1_2).2.2.1 (rdOf (0, 0, emp, false, []) r3 x1_2).2.2.2.1 (rdOf (0, 0, emp, false, []) r3 x1_2).2.2.2.2).bind fun (c19_0, c19_1, c19_2, c19_3, c19_4) =>
              grd (decide ((r3.length + 1) * 64 ≤ 140737488355328)) <|
              some (true, b0_0, b0_3, b0_4, r1, r2, r3 ++ [(c19_0, c19_1, c19_2, c19_3, c19_4)], r4)
          else
            (delF r3 x1_2 (w64 (x1_2 + 1))).bind fun c20 =>
            bif (x1_0 == 2) then
              (impl_Session_take (rdOf (0, 0, emp, false, []) r3 x1_2).1 (rdOf (0, 0, emp, false, []) r3 x1_2).2.1 (rdOf (0, 0, emp, false, []) r3 x1_2).2.2.1 (rdOf (0, 0, emp, false, []) r3 x1_2).2.2.2.1 (rdOf (0, 0, emp, false, []) r3 x1_2).2.2.2.2 b0_0 b0_3 b0_4 r1 r2 c20 r4).bind fun (c21_0, c21_1, c21_2, c21_3, c21_4, c21_5, c21_6) =>
              some (true, c21_0, c21_1, c21_2, c21_3, c21_4, c21_5, c21_6)
            else
              some (true, b0_0, b0_3, b0_4, r1, r2, c20, r4)
noncomputable def impl_Session_step (x1_0 : Int) (x1_1 : Bool) (x1_2 : Int) (b0_0 : ByteArray) (b0_3 : ByteArray) (b0_4 : Bool) (r1 : List Bool) (r2 : List Bool) (r3 : List (Int × Int × ByteArray × Bool × List Bool)) (r4 : List (Int × Int × ByteArray × Bool × List Bool)) : Option (Bool × ByteArray × ByteArray × Bool × List Bool × List Bool × List (Int × Int × ByteArray × Bool × List Bool) × List (Int × Int × ByteArray × Bool × List Bool)) := lim fun k => impl_Session_step.g k x1_0 x1_1 x1_2 b0_0 b0_3 b0_4 r1 r2 r3 r4
/-- f9 impl.PlaySession -/
noncomputable def impl_PlaySession.s0 (k : Nat) (go0 : (List (Int × Bool × Int) × Int × Int × ByteArray × ByteArray × Bool × ByteArray × ByteArray × Bool × List Bool × List Bool × List Bool × List (Int × Int × ByteArray × Bool × List Bool) × List (Int × Int × ByteArray × Bool × List Bool)) → Option (ByteArray × ByteArray × Bool × Bool × List Bool × List Bool × List (Int × Int × ByteArray × Bool × List Bool) × List (Int × Int × ByteArray × Bool × List Bool) × List Bool)) : (List (Int × Bool × Int) × Int × Int × ByteArray × ByteArray × Bool × ByteArray × ByteArray × Bool × List Bool × List Bool × List Bool × List (Int × Int × ByteArray × Bool × List Bool) × List (Int × Int × ByteArray × Bool × List Bool)) → Option (ByteArray × ByteArray × Bool × Bool × List Bool × List Bool × List (Int × Int × ByteArray × Bool × List Bool) × List (Int × Int × ByteArray × Bool × List Bool) × List Bool) := fun (t26, t27, t28, b0_0, b0_3, b0_4, b1_0, b1_3, b1_4, r2, r3, r4, r5, r6) =>
  bif decide (t28 < t27) then
    grd (decide (0 ≤ t28)) <| grd (decide (t28 < (t26.length : Int))) <|
    (impl_Session_step (rdOf (0, false, 0) t26 t28).1 (rdOf (0, false, 0) t26 t28).2.1 (rdOf (0, false, 0) t26 t28).2.2 b1_0 b1_3 b1_4 r3 r4 r5 r6).bind fun (c8_0, c8_1, c8_2, c8_3, c8_4, c8_5, c8_6, c8_7) =>
    grd (decide ((r2.length + 1) * 1 ≤ 140737488355328)) <|
    go0 (t26, t27, w64 (t28 + 1), b0_0, b0_3, b0_4, c8_1, c8_2, c8_3, r2 ++ [c8_0], c8_4, c8_5, c8_6, c8_7)
  else
    some (b1_0, b1_3, b1_4, true, r3, r4, r5, r6, r2)
noncomputable def impl_PlaySession.g (k : Nat) (block0 : ByteArray) (l1 : List (Int × Bool × Int)) : Option (ByteArray × ByteArray × Bool × Bool × List Bool × List Bool × List (Int × Int × ByteArray × Bool × List Bool) × List (Int × Int × ByteArray × Bool × List Bool) × List Bool) :=
  (impl_NewSession block0).bind fun (c7_0, c7_1, c7_2, c7_3, c7_4, c7_5) =>
  bif (!c7_3) then
    some (emp, emp, false, false, [], [], [], [], [])
  else
    bif decide ((l1.length : Int) > 160) then
      some (emp, emp, false, false, [], [], [], [], [])
    else
      iter (impl_PlaySession.s0 k) k (l1, (l1.length : Int), 0, emp, emp, false, c7_0, c7_1, c7_2, [], c7_4, c7_5, [], [])
noncomputable def impl_PlaySession (block0 : ByteArray) (l1 : List (Int × Bool × Int)) : Option (ByteArray × ByteArray × Bool × Bool × List Bool × List Bool × List (Int × Int × ByteArray × Bool × List Bool) × List (Int × Int × ByteArray × Bool × List Bool) × List Bool) := lim fun k => impl_PlaySession.g k block0 l1
/-- f58 spec.l1In -/
noncomputable def spec_l1In (n0 : Int) (lo1 : Int) (hi2 : Int) : Option (Bool) :=
  bif decide (n0 ≥ lo1) then
    some (decide (n0 ≤ hi2))
  else
    some false
/-- f59 spec.l5Many -/
noncomputable def spec_l5Many (s0_0 : ByteArray) (s0_1 : List Bool) (s0_2 : List Bool) (s0_3 : ByteArray) (s0_4 : Bool) (s0_5 : List (Int × Int × ByteArray × Bool × List Bool)) (s0_6 : List (Int × Int × ByteArray × Bool × List Bool)) : Option (Int) :=
  some (w64 (Int.tdiv (w64 ((w64 ((s0_0.size : Int) + 8)) - 1)) 8))
/-- f25 spec.NewSession -/
noncomputable def spec_NewSession (block0 : ByteArray) : Option (ByteArray × ByteArray × Bool × Bool × List Bool × List Bool) :=
  (spec_l1In (block0.size : Int) 1 40).bind fun c5 =>
  bif (!c5) then
    some (emp, emp, false, false, [], [])
  else
    grd ((block0.size : Int) == (block0.size : Int)) <| grd (decide (0 ≤ (block0.size : Int))) <| grd (decide (((block0.size : Int)).toNat * 1 ≤ 140737488355328)) <|
    (spec_l5Many block0 [] [] (strOfNums (List.replicate ((block0.size : Int)).toNat 0)) false [] []).bind fun c6 =>
    grd (c6 == c6) <| grd (decide (0 ≤ c6)) <| grd (decide ((c6).toNat * 1 ≤ 140737488355328)) <|
    (spec_l5Many block0 (List.replicate (c6).toNat false) [] (strOfNums (List.replicate ((block0.size : Int)).toNat 0)) false [] []).bind fun c7 =>
    grd (c7 == c7) <| grd (decide (0 ≤ c7)) <| grd (decide ((c7).toNat * 1 ≤ 140737488355328)) <|
    some (block0, strOfNums (List.replicate ((block0.size : Int)).toNat 0), false, true, List.replicate (c6).toNat false, List.replicate (c7).toNat false)
/-- f66 spec.l5Left -/
noncomputable def spec_l5Left.s0 (k : Nat) (go0 : (List Bool × Int × Int × List Int) → Option (List Int)) : (List Bool × Int × Int × List Int) → Option (List Int) := fun (t7, t8, t9, r0) =>
  bif decide (t9 < t8) then
    grd (decide (0 ≤ t9)) <| grd (decide (t9 < (t7.length : Int))) <|
    bif (!rdOf false t7 t9) then
      grd (decide ((r0.length + 1) * 8 ≤ 140737488355328)) <|
      go0 (t7, t8, w64 (t9 + 1), r0 ++ [t9])
    else
      go0 (t7, t8, w64 (t9 + 1), r0)
  else
    some r0
noncomputable def spec_l5Left.g (k : Nat) (s0_0 : ByteArray) (s0_1 : List Bool) (s0_2 : List Bool) (s0_3 : ByteArray) (s0_4 : Bool) (s0_5 : List (Int × Int × ByteArray × Bool × List Bool)) (s0_6 : List (Int × Int × ByteArray × Bool × List Bool)) : Option (List Int) :=
  iter (spec_l5Left.s0 k) k (s0_1, (s0_1.length : Int), 0, [])
noncomputable def spec_l5Left (s0_0 : ByteArray) (s0_1 : List Bool) (s0_2 : List Bool) (s0_3 : ByteArray) (s0_4 : Bool) (s0_5 : List (Int × Int × ByteArray × Bool × List Bool)) (s0_6 : List (Int × Int × ByteArray × Bool × List Bool)) : Option (List Int) := lim fun k => spec_l5Left.g k s0_0 s0_1 s0_2 s0_3 s0_4 s0_5 s0_6
/-- f81 spec.l5Text -/
noncomputable def spec_l5Text (s0_0 : ByteArray) (s0_1 : List Bool) (s0_2 : List Bool) (s0_3 : ByteArray) (s0_4 : Bool) (s0_5 : List (Int × Int × ByteArray × Bool × List Bool)) (s0_6 : List (Int × Int × ByteArray × Bool × List Bool)) (k1 : Int) : Option (ByteArray) :=
  bif decide (w64 ((w64 (k1 + 1)) * 8) > (s0_0.size : Int)) then
    grd (decide (0 ≤ (s0_0.size : Int))) <| grd (decide ((s0_0.size : Int) ≤ (s0_0.size : Int))) <| grd (decide (0 ≤ w64 (k1 * 8))) <| grd (decide (w64 (k1 * 8) ≤ (s0_0.size : Int))) <|
    some (sub s0_0 (w64 (k1 * 8)) (s0_0.size : Int))
  else
    grd (decide (0 ≤ w64 ((w64 (k1 + 1)) * 8))) <| grd (decide (w64 ((w64 (k1 + 1)) * 8) ≤ (s0_0.size : Int))) <| grd (decide (0 ≤ w64 (k1 * 8))) <| grd (decide (w64 (k1 * 8) ≤ w64 ((w64 (k1 + 1)) * 8))) <|
    some (sub s0_0 (w64 (k1 * 8)) (w64 ((w64 (k1 + 1)) * 8)))
/-- f82 spec.l5OwnSegments -/
noncomputable def spec_l5OwnSegments.s0 (k : Nat) (go0 : (List (Int × Int × ByteArray × Bool × List Bool) × Int × Int × List (Int × Int × ByteArray × Bool × List Bool)) → Option (List (Int × Int × ByteArray × Bool × List Bool))) : (List (Int × Int × ByteArray × Bool × List Bool) × Int × Int × List (Int × Int × ByteArray × Bool × List Bool)) → Option (List (Int × Int × ByteArray × Bool × List Bool)) := fun (t6, t7, t8, r0) =>
  bif decide (t8 < t7) then
    grd (decide (0 ≤ t8)) <| grd (decide (t8 < (t6.length : Int))) <| grd (decide ((0 + (rdOf (0, 0, emp, false, []) t6 t8).2.2.2.2.length) * 1 ≤ 140737488355328)) <| grd (decide ((r0.length + 1) * 64 ≤ 140737488355328)) <|
    go0 (t6, t7, w64 (t8 + 1), r0 ++ [((rdOf (0, 0, emp, false, []) t6 t8).1, (rdOf (0, 0, emp, false, []) t6 t8).2.1, (rdOf (0, 0, emp, false, []) t6 t8).2.2.1, (rdOf (0, 0, emp, false, []) t6 t8).2.2.2.1, [] ++ (rdOf (0, 0, emp, false, []) t6 t8).2.2.2.2)])
  else
    some r0
noncomputable def spec_l5OwnSegments.g (k : Nat) (l0 : List (Int × Int × ByteArray × Bool × List Bool)) : Option (List (Int × Int × ByteArray × Bool × List Bool)) :=
  iter (spec_l5OwnSegments.s0 k) k (l0, (l0.length : Int), 0, [])
noncomputable def spec_l5OwnSegments (l0 : List (Int × Int × ByteArray × Bool × List Bool)) : Option (List (Int × Int × ByteArray × Bool × List Bool)) := lim fun k => spec_l5OwnSegments.g k l0
/-- f61 spec.l5Bytes -/
noncomputable def spec_l5Bytes.s0 (k : Nat) (go0 : (ByteArray × Int × ByteArray × List Bool × List Bool × ByteArray × Bool × List (Int × Int × ByteArray × Bool × List Bool) × List (Int × Int × ByteArray × Bool × List Bool)) → Option (ByteArray)) : (ByteArray × Int × ByteArray × List Bool × List Bool × ByteArray × Bool × List (Int × Int × ByteArray × Bool × List Bool) × List (Int × Int × ByteArray × Bool × List Bool)) → Option (ByteArray) := fun (out3, k4, b0_0, b0_1, b0_2, b0_3, b0_4, b0_5, b0_6) =>
  (spec_l5Many b0_0 b0_1 b0_2 b0_3 b0_4 b0_5 b0_6).bind fun c3 =>
  bif decide (k4 < c3) then
    (spec_l5Text b0_0 b0_1 b0_2 b0_3 b0_4 b0_5 b0_6 k4).bind fun c4 =>
    grd (decide (0 ≤ k4)) <| grd (decide (k4 < (b0_2.length : Int))) <|
    bif rdOf false b0_2 k4 then
      grd (decide (out3.size + c4.size ≤ 9223372036854775807)) <|
      go0 (out3 ++ c4, w64 (k4 + 1), b0_0, b0_1, b0_2, b0_3, b0_4, b0_5, b0_6)
    else
      grd ((c4.size : Int) == (c4.size : Int)) <| grd (decide (0 ≤ (c4.size : Int))) <| grd (decide (((c4.size : Int)).toNat * 1 ≤ 140737488355328)) <| grd (decide (out3.size + (strOfNums (List.replicate ((c4.size : Int)).toNat 0)).size ≤ 9223372036854775807)) <|
      go0 (out3 ++ (strOfNums (List.replicate ((c4.size : Int)).toNat 0)), w64 (k4 + 1), b0_0, b0_1, b0_2, b0_3, b0_4, b0_5, b0_6)
  else
    some out3
noncomputable def spec_l5Bytes.g (k : Nat) (s0_0 : ByteArray) (s0_1 : List Bool) (s0_2 : List Bool) (s0_3 : ByteArray) (s0_4 : Bool) (s0_5 : List (Int × Int × ByteArray × Bool × List Bool)) (s0_6 : List (Int × Int × ByteArray × Bool × List Bool)) : Option (ByteArray) :=
  iter (spec_l5Bytes.s0 k) k (emp, 0, s0_0, s0_1, s0_2, s0_3, s0_4, s0_5, s0_6)
noncomputable def spec_l5Bytes (s0_0 : ByteArray) (s0_1 : List Bool) (s0_2 : List Bool) (s0_3 : ByteArray) (s0_4 : Bool) (s0_5 : List (Int × Int × ByteArray × Bool × List Bool)) (s0_6 : List (Int × Int × ByteArray × Bool × List Bool)) : Option (ByteArray) := lim fun k => spec_l5Bytes.g k s0_0 s0_1 s0_2 s0_3 s0_4 s0_5 s0_6
/-- f62 spec.l5AllTrue -/
noncomputable def spec_l5AllTrue.s0 (k : Nat) (go0 : (List Bool × Int × Int) → Option (Bool)) : (List Bool × Int × Int) → Option (Bool) := fun (t5, t6, t7) =>
  bif decide (t7 < t6) then
    grd (decide (0 ≤ t7)) <| grd (decide (t7 < (t5.length : Int))) <|
    bif (!rdOf false t5 t7) then
      some false
    else
      go0 (t5, t6, w64 (t7 + 1))
  else
    some true
noncomputable def spec_l5AllTrue.g (k : Nat) (l0 : List Bool) : Option (Bool) :=
  iter (spec_l5AllTrue.s0 k) k (l0, (l0.length : Int), 0)
noncomputable def spec_l5AllTrue (l0 : List Bool) : Option (Bool) := lim fun k => spec_l5AllTrue.g k l0
/-- f84 spec.l5Come -/
noncomputable def spec_l5Come.s0 (k : Nat) (go0 : (List Bool × Int × Int × List Bool × List Bool × List (Int × Int × ByteArray × Bool × List Bool) × List (Int × Int × ByteArray × Bool × List Bool) × ByteArray × ByteArray × Bool × ByteArray × ByteArray × Bool) → Option (ByteArray × ByteArray × Bool × List Bool × List Bool × List (Int × Int × ByteArray × Bool × List Bool) × List (Int × Int × ByteArray × Bool × List Bool))) : (List Bool × Int × Int × List Bool × List Bool × List (Int × Int × ByteArray × Bool × List Bool) × List (Int × Int × ByteArray × Bool × List Bool) × ByteArray × ByteArray × Bool × ByteArray × ByteArray × Bool) → Option (ByteArray × ByteArray × Bool × List Bool × List Bool × List (Int × Int × ByteArray × Bool × List Bool) × List (Int × Int × ByteArray × Bool × List Bool)) := fun (t11, t12, t13, r0, r1, r2, r3, b4_0, b4_3, b4_4, b5_0, b5_3, b5_4) =>
  bif decide (t13 < t12) then
    grd (decide (0 ≤ t13)) <| grd (decide (t13 < (t11.length : Int))) <| grd (decide (0 ≤ t13)) <| grd (decide (t13 < (r0.length : Int))) <|
    bif rdOf false r0 t13 then
      grd (decide (0 ≤ t13)) <| grd (decide (t13 < (r0.length : Int))) <|
      go0 (t11, t12, w64 (t13 + 1), setI r0 t13 true, r1, r2, r3, b4_0, b4_3, b4_4, b5_0, b5_3, b5_4)
    else
      grd (decide (0 ≤ t13)) <| grd (decide (t13 < (r0.length : Int))) <|
      go0 (t11, t12, w64 (t13 + 1), setI r0 t13 (rdOf false t11 t13), r1, r2, r3, b4_0, b4_3, b4_4, b5_0, b5_3, b5_4)
  else
    (spec_l5AllTrue r0).bind fun c4 =>
    some (b4_0, b4_3, c4, r0, r1, r2, r3)
noncomputable def spec_l5Come.g (k : Nat) (s0_0 : ByteArray) (s0_3 : ByteArray) (s0_4 : Bool) (x1_0 : Int) (x1_1 : Int) (x1_2 : ByteArray) (x1_3 : Bool) (x1_4 : List Bool) (r0 : List Bool) (r1 : List Bool) (r2 : List (Int × Int × ByteArray × Bool × List Bool)) (r3 : List (Int × Int × ByteArray × Bool × List Bool)) : Option (ByteArray × ByteArray × Bool × List Bool × List Bool × List (Int × Int × ByteArray × Bool × List Bool) × List (Int × Int × ByteArray × Bool × List Bool)) :=
  bif (x1_0 == 2) then
    iter (spec_l5Come.s0 k) k (x1_4, (x1_4.length : Int), 0, r0, r1, r2, r3, s0_0, s0_3, s0_4, emp, emp, false)
  else
    grd (decide (0 ≤ x1_1)) <| grd (decide (x1_1 < (r1.length : Int))) <|
    (spec_l5Bytes s0_0 r0 (setI r1 x1_1 true) s0_3 s0_4 r2 r3).bind fun c5 =>
    bif x1_3 then
      bif decide ((r3.length : Int) < 30) then
        grd (decide ((0 + (setI r1 x1_1 true).length) * 1 ≤ 140737488355328)) <| grd (decide ((r3.length + 1) * 64 ≤ 140737488355328)) <|
        some (s0_0, c5, s0_4, r0, setI r1 x1_1 true, r2, r3 ++ [(2, 0, emp, false, [] ++ (setI r1 x1_1 true))])
      else
        some (s0_0, c5, s0_4, r0, setI r1 x1_1 true, r2, r3)
    else
      some (s0_0, c5, s0_4, r0, setI r1 x1_1 true, r2, r3)
noncomputable def spec_l5Come (s0_0 : ByteArray) (s0_3 : ByteArray) (s0_4 : Bool) (x1_0 : Int) (x1_1 : Int) (x1_2 : ByteArray) (x1_3 : Bool) (x1_4 : List Bool) (r0 : List Bool) (r1 : List Bool) (r2 : List (Int × Int × ByteArray × Bool × List Bool)) (r3 : List (Int × Int × ByteArray × Bool × List Bool)) : Option (ByteArray × ByteArray × Bool × List Bool × List Bool × List (Int × Int × ByteArray × Bool × List Bool) × List (Int × Int × ByteArray × Bool × List Bool)) := lim fun k => spec_l5Come.g k s0_0 s0_3 s0_4 x1_0 x1_1 x1_2 x1_3 x1_4 r0 r1 r2 r3
/-- f44 spec.l5Step -/
noncomputable def spec_l5Step.s0 (k : Nat) (go0 : (Int × Int × List Bool × List Bool × List (Int × Int × ByteArray × Bool × List Bool) × List (Int × Int × ByteArray × Bool × List Bool) × ByteArray × ByteArray × Bool × ByteArray × ByteArray × Bool × List Int) → Option (ByteArray × ByteArray × Bool × Bool × List Bool × List Bool × List (Int × Int × ByteArray × Bool × List Bool) × List (Int × Int × ByteArray × Bool × List Bool))) : (Int × Int × List Bool × List Bool × List (Int × Int × ByteArray × Bool × List Bool) × List (Int × Int × ByteArray × Bool × List Bool) × ByteArray × ByteArray × Bool × ByteArray × ByteArray × Bool × List Int) → Option (ByteArray × ByteArray × Bool × Bool × List Bool × List Bool × List (Int × Int × ByteArray × Bool × List Bool) × List (Int × Int × ByteArray × Bool × List Bool)) := fun (t30, t31, r0, r1, r2, r3, b4_0, b4_3, b4_4, b5_0, b5_3, b5_4, r6) =>
  bif decide (t31 < t30) then
    grd (decide (0 ≤ t31)) <| grd (decide (t31 < (r6.length : Int))) <|
    (spec_l5Text b4_0 r0 r1 b4_3 b4_4 r2 r3 (rdOf 0 r6 t31)).bind fun c11 =>
    grd (decide ((r2.length + 1) * 64 ≤ 140737488355328)) <|
    go0 (t30, w64 (t31 + 1), r0, r1, r2 ++ [(1, rdOf 0 r6 t31, c11, (t31 == w64 ((r6.length : Int) - 1)), [])], r3, b4_0, b4_3, b4_4, b5_0, b5_3, b5_4, r6)
  else
    some (b4_0, b4_3, b4_4, true, r0, r1, r2, r3)
noncomputable def spec_l5Step.g (k : Nat) (s0_0 : ByteArray) (s0_3 : ByteArray) (s0_4 : Bool) (x1_0 : Int) (x1_1 : Bool) (x1_2 : Int) (r0 : List Bool) (r1 : List Bool) (r2 : List (Int × Int × ByteArray × Bool × List Bool)) (r3 : List (Int × Int × ByteArray × Bool × List Bool)) : Option (ByteArray × ByteArray × Bool × Bool × List Bool × List Bool × List (Int × Int × ByteArray × Bool × List Bool) × List (Int × Int × ByteArray × Bool × List Bool)) :=
  bif (x1_0 == 1) then
    (spec_l5Left s0_0 r0 r1 s0_3 s0_4 r2 r3).bind fun c10 =>
    bif ((c10.length : Int) == 0) then
      some (s0_0, s0_3, s0_4, false, r0, r1, r2, r3)
    else
      bif decide (w64 ((r2.length : Int) + (c10.length : Int)) > 30) then
        some (s0_0, s0_3, s0_4, false, r0, r1, r2, r3)
      else
        iter (spec_l5Step.s0 k) k ((c10.length : Int), 0, r0, r1, r2, r3, s0_0, s0_3, s0_4, emp, emp, false, c10)
  else
    bif x1_1 then
      bif decide (x1_2 < 0) then
        some (s0_0, s0_3, s0_4, false, r0, r1, r2, r3)
      else
        bif decide (x1_2 ≥ (r3.length : Int)) then
          some (s0_0, s0_3, s0_4, false, r0, r1, r2, r3)
        else
          (spec_l1In x1_0 2 4).bind fun c12 =>
          bif (!c12) then
            some (s0_0, s0_3, s0_4, false, r0, r1, r2, r3)
          else
            grd (decide (0 ≤ x1_2)) <| grd (decide (x1_2 < (r3.length : Int))) <|
            bif (x1_0 == 4) then
              bif ((r3.length : Int) == 30) then
                some (s0_0, s0_3, s0_4, false, r0, r1, r2, r3)
              else
                (spec_l5OwnSegments [((rdOf (0, 0, emp, false, []) r3 x1_2).1, (rdOf (0, 0, emp, false, []) r3 x1_2).2.1, (rdOf (0, 0, emp, false, []) r3 x1_2).2.2.1, (rdOf (0, 0, emp, false, []) r3 x1_2).2.2.2.1, (rdOf (0, 0, emp, false, []) r3 x1_2).2.2.2.2)]).bind fun c13 =>
                grd (decide ((r3.length + c13.length) * 64 ≤ 140737488355328)) <|
                bif x1_1 then
                  bif (x1_0 == 2) then
                    (spec_l5Come s0_0 s0_3 s0_4 (rdOf (0, 0, emp, false, []) r3 x1_2).1 (rdOf (0, 0, emp, false, []) r3 x1_2).2.1 (rdOf (0, 0, emp, false, []) r3 x1_2).2.2.1 (rdOf (0, 0, emp, false, []) r3 x1_2).2.2.2.1 (rdOf (0, 0, emp, false, []) r3 x1_2).2.2.2.2 r0 r1 r2 (r3 ++ c13)).bind fun (c14_0, c14_1, c14_2, c14_3, c14_4, c14_5, c14_6) =>
                    some (c14_0, c14_1, c14_2, true, c14_3, c14_4, c14_5, c14_6)
                  else
                    some (s0_0, s0_3, s0_4, true, r0, r1, r2, r3 ++ c13)
                else
                  bif (x1_0 == 2) then
                    none
                  else
                    none
            else
              (outF r3 x1_2).bind fun c15 =>
              bif x1_1 then
                bif (x1_0 == 2) then
                  (spec_l5Come s0_0 s0_3 s0_4 (rdOf (0, 0, emp, false, []) r3 x1_2).1 (rdOf (0, 0, emp, false, []) r3 x1_2).2.1 (rdOf (0, 0, emp, false, []) r3 x1_2).2.2.1 (rdOf (0, 0, emp, false, []) r3 x1_2).2.2.2.1 (rdOf (0, 0, emp, false, []) r3 x1_2).2.2.2.2 r0 r1 r2 c15).bind fun (c16_0, c16_1, c16_2, c16_3, c16_4, c16_5, c16_6) =>
                  some (c16_0, c16_1, c16_2, true, c16_3, c16_4, c16_5, c16_6)
                else
                  some (s0_0, s0_3, s0_4, true, r0, r1, r2, c15)
              else
                bif (x1_0 == 2) then
                  none
                else
                  none
    else
      bif decide (x1_2 < 0) then
        some (s0_0, s0_3, s0_4, false, r0, r1, r2, r3)
      else
        bif decide (x1_2 ≥ (r2.length : Int)) then
          some (s0_0, s0_3, s0_4, false, r0, r1, r2, r3)
        else
          (spec_l1In x1_0 2 4).bind fun c17 =>
          bif (!c17) then
            some (s0_0, s0_3, s0_4, false, r0, r1, r2, r3)
          else
            grd (decide (0 ≤ x1_2)) <| grd (decide (x1_2 < (r2.length : Int))) <|
            bif (x1_0 == 4) then
              bif ((r2.length : Int) == 30) then
                some (s0_0, s0_3, s0_4, false, r0, r1, r2, r3)
              else
                (spec_l5OwnSegments [((rdOf (0, 0, emp, false, []) r2 x1_2).1, (rdOf (0, 0, emp, false, []) r2 x1_2).2.1, (rdOf (0, 0, emp, false, []) r2 x1_2).2.2.1, (rdOf (0, 0, emp, false, []) r2 x1_2).2.2.2.1, (rdOf (0, 0, emp, false, []) r2 x1_2).2.2.2.2)]).bind fun c18 =>
                grd (decide ((r2.length + c18.length) * 64 ≤ 140737488355328)) <|
                bif x1_1 then
                  bif (x1_0 == 2) then
                    none
                  else
                    none
                else
                  bif (x1_0 == 2) then
                    (spec_l5Come s0_0 s0_3 s0_4 (rdOf (0, 0, emp, false, []) r2 x1_2).1 (rdOf (0, 0, emp, false, []) r2 x1_2).2.1 (rdOf (0, 0, emp, false, []) r2 x1_2).2.2.1 (rdOf (0, 0, emp, false, []) r2 x1_2).2.2.2.1 (rdOf (0, 0, emp, false, []) r2 x1_2).2.2.2.2 r0 r1 (r2 ++ c18) r3).bind fun (c19_0, c19_1, c19_2, c19_3, c19_4, c19_5, c19_6) =>
                    some (c19_0, c19_1, c19_2, true, c19_3, c19_4, c19_5, c19_6)
                  else
                    some (s0_0, s0_3, s0_4, true, r0, r1, r2 ++ c18, r3)
            else
              (outF r2 x1_2).bind fun c20 =>
              bif x1_1 then
                bif (x1_0 == 2) then
                  none
                else
                  none
              else
                bif (x1_0 == 2) then
                  (spec_l5Come s0_0 s0_3 s0_4 (rdOf (0, 0, emp, false, []) r2 x1_2).1 (rdOf (0, 0, emp, false, []) r2 x1_2).2.1 (rdOf (0, 0, emp, false, []) r2 x1_2).2.2.1 (rdOf (0, 0, emp, false, []) r2 x1_2).2.2.2.1 (rdOf (0, 0, emp, false, []) r2 x1_2).2.2.2.2 r0 r1 c20 r3).bind fun (c21_0, c21_1, c21_2, c21_3, c21_4, c21_5, c21_6) =>
                  some (c21_0, c21_1, c21_2, true, c21_3, c21_4, c21_5, c21_6)
                else
                  some (s0_0, s0_3, s0_4, true, r0, r1, c20, r3)
noncomputable def spec_l5Step (s0_0 : ByteArray) (s0_3 : ByteArray) (s0_4 : Bool) (x1_0 : Int) (x1_1 : Bool) (x1_2 : Int) (r0 : List Bool) (r1 : List Bool) (r2 : List (Int × Int × ByteArray × Bool × List Bool)) (r3 : List (Int × Int × ByteArray × Bool × List Bool)) : Option (ByteArray × ByteArray × Bool × Bool × List Bool × List Bool × List (Int × Int × ByteArray × Bool × List Bool) × List (Int × Int × ByteArray × Bool × List Bool)) := lim fun k => spec_l5Step.g k s0_0 s0_3 s0_4 x1_0 x1_1 x1_2 r0 r1 r2 r3
/-- f45 spec.l5Own -/
noncomputable def spec_l5Own (s0_0 : ByteArray) (s0_1 : List Bool) (s0_2 : List Bool) (s0_3 : ByteArray) (s0_4 : Bool) (s0_5 : List (Int × Int × ByteArray × Bool × List Bool)) (s0_6 : List (Int × Int × ByteArray × Bool × List Bool)) : Option (ByteArray × ByteArray × Bool × List Bool × List Bool × List (Int × Int × ByteArray × Bool × List Bool) × List (Int × Int × ByteArray × Bool × List Bool)) :=
  grd (decide ((0 + s0_1.length) * 1 ≤ 140737488355328)) <| grd (decide ((0 + s0_2.length) * 1 ≤ 140737488355328)) <|
  (spec_l5OwnSegments s0_5).bind fun c3 =>
  (spec_l5OwnSegments s0_6).bind fun c4 =>
  some (s0_0, s0_3, s0_4, [] ++ s0_1, [] ++ s0_2, c3, c4)
/-- f10 spec.PlaySession -/
noncomputable def spec_PlaySession.s0 (k : Nat) (go0 : (List (Int × Bool × Int) × Int × Int × ByteArray × ByteArray × Bool × ByteArray × ByteArray × Bool × List Bool × List Bool × List Bool × List (Int × Int × ByteArray × Bool × List Bool) × List (Int × Int × ByteArray × Bool × List Bool)) → Option (ByteArray × ByteArray × Bool × Bool × List Bool × List Bool × List (Int × Int × ByteArray × Bool × List Bool) × List (Int × Int × ByteArray × Bool × List Bool) × List Bool)) : (List (Int × Bool × Int) × Int × Int × ByteArray × ByteArray × Bool × ByteArray × ByteArray × Bool × List Bool × List Bool × List Bool × List (Int × Int × ByteArray × Bool × List Bool) × List (Int × Int × ByteArray × Bool × List Bool)) → Option (ByteArray × ByteArray × Bool × Bool × List Bool × List Bool × List (Int × Int × ByteArray × Bool × List Bool) × List (Int × Int × ByteArray × Bool × List Bool) × List Bool) := fun (t27, t28, t29, b0_0, b0_3, b0_4, b1_0, b1_3, b1_4, r2, r3, r4, r5, r6) =>
  bif decide (t29 < t28) then
    grd (decide (0 ≤ t29)) <| grd (decide (t29 < (t27.length : Int))) <|
    (spec_l5Own b1_0 r3 r4 b1_3 b1_4 r5 r6).bind fun (c11_0, c11_1, c11_2, c11_3, c11_4, c11_5, c11_6) =>
    (spec_l5Step c11_0 c11_1 c11_2 (rdOf (0, false, 0) t27 t29).1 (rdOf (0, false, 0) t27 t29).2.1 (rdOf (0, false, 0) t27 t29).2.2 c11_3 c11_4 c11_5 c11_6).bind fun (c12_0, c12_1, c12_2, c12_3, c12_4, c12_5, c12_6, c12_7) =>
    bif c12_3 then
      grd (decide ((r2.length + 1) * 1 ≤ 140737488355328)) <|
      go0 (t27, t28, w64 (t29 + 1), b0_0, b0_3, b0_4, c12_0, c12_1, c12_2, r2 ++ [c12_3], c12_4, c12_5, c12_6, c12_7)
    else
      grd (decide ((r2.length + 1) * 1 ≤ 140737488355328)) <|
      go0 (t27, t28, w64 (t29 + 1), b0_0, b0_3, b0_4, b1_0, b1_3, b1_4, r2 ++ [c12_3], r3, r4, r5, r6)
  else
    (spec_l5Own b1_0 r3 r4 b1_3 b1_4 r5 r6).bind fun (c13_0, c13_1, c13_2, c13_3, c13_4, c13_5, c13_6) =>
    some (c13_0, c13_1, c13_2, true, c13_3, c13_4, c13_5, c13_6, r2)
noncomputable def spec_PlaySession.g (k : Nat) (block0 : ByteArray) (l1 : List (Int × Bool × Int)) : Option (ByteArray × ByteArray × Bool × Bool × List Bool × List Bool × List (Int × Int × ByteArray × Bool × List Bool) × List (Int × Int × ByteArray × Bool × List Bool) × List Bool) :=
  (spec_NewSession block0).bind fun (c10_0, c10_1, c10_2, c10_3, c10_4, c10_5) =>
  bif (!c10_3) then
    some (emp, emp, false, false, [], [], [], [], [])
  else
    bif decide ((l1.length : Int) > 160) then
      some (emp, emp, false, false, [], [], [], [], [])
    else
      iter (spec_PlaySession.s0 k) k (l1, (l1.length : Int), 0, emp, emp, false, c10_0, c10_1, c10_2, [], c10_4, c10_5, [], [])
noncomputable def spec_PlaySession (block0 : ByteArray) (l1 : List (Int × Bool × Int)) : Option (ByteArray × ByteArray × Bool × Bool × List Bool × List Bool × List (Int × Int × ByteArray × Bool × List Bool) × List (Int × Int × ByteArray × Bool × List Bool) × List Bool) := lim fun k => spec_PlaySession.g k block0 l1
/-- f27 laws.szSesStepS -/
noncomputable def laws_szSesStepS (a0 : List (Int × Bool × Int)) (left1 : Int) : Option (Int) :=
  bif decide (w64 (left1 - (a0.length : Int)) < 0) then
    some (-1)
  else
    some (w64 (left1 - (a0.length : Int)))
/-- f39 laws.toSesStep -/
noncomputable def laws_toSesStep (a0_0 : Int) (a0_1 : Bool) (a0_2 : Int) : Option (Int × Bool × Int) :=
  some (a0_0, a0_1, a0_2)
/-- f28 laws.toSesStepS -/
noncomputable def laws_toSesStepS.s0 (k : Nat) (go0 : (List (Int × Bool × Int) × Int × List (Int × Bool × Int)) → Option (List (Int × Bool × Int))) : (List (Int × Bool × Int) × Int × List (Int × Bool × Int)) → Option (List (Int × Bool × Int)) := fun (a0, i4, r0) =>
  bif decide (i4 < (a0.length : Int)) then
    grd (decide (0 ≤ i4)) <| grd (decide (i4 < (a0.length : Int))) <|
    (laws_toSesStep (rdOf (0, false, 0) a0 i4).1 (rdOf (0, false, 0) a0 i4).2.1 (rdOf (0, false, 0) a0 i4).2.2).bind fun (c2_0, c2_1, c2_2) =>
    grd (decide (0 ≤ i4)) <| grd (decide (i4 < (r0.length : Int))) <|
    go0 (a0, w64 (i4 + 1), setI r0 i4 (c2_0, c2_1, c2_2))
  else
    some r0
noncomputable def laws_toSesStepS.g (k : Nat) (a0 : List (Int × Bool × Int)) : Option (List (Int × Bool × Int)) :=
  grd ((a0.length : Int) == (a0.length : Int)) <| grd (decide (0 ≤ (a0.length : Int))) <| grd (decide (((a0.length : Int)).toNat * 24 ≤ 140737488355328)) <|
  iter (laws_toSesStepS.s0 k) k (a0, 0, List.replicate ((a0.length : Int)).toNat (0, false, 0))
noncomputable def laws_toSesStepS (a0 : List (Int × Bool × Int)) : Option (List (Int × Bool × Int)) := lim fun k => laws_toSesStepS.g k a0
/-- f30 laws.eqBoolS -/
noncomputable def laws_eqBoolS.s0 (k : Nat) (go0 : (List Bool × List Bool × Int) → Option (Bool)) : (List Bool × List Bool × Int) → Option (Bool) := fun (a0, b1, i5) =>
  bif decide (i5 < (a0.length : Int)) then
    grd (decide (0 ≤ i5)) <| grd (decide (i5 < (a0.length : Int))) <| grd (decide (0 ≤ i5)) <| grd (decide (i5 < (b1.length : Int))) <|
    bif (!(rdOf false a0 i5 == rdOf false b1 i5)) then
      some false
    else
      go0 (a0, b1, w64 (i5 + 1))
  else
    some true
noncomputable def laws_eqBoolS.g (k : Nat) (a0 : List Bool) (b1 : List Bool) : Option (Bool) :=
  bif ((a0.length : Int) != (b1.length : Int)) then
    some false
  else
    iter (laws_eqBoolS.s0 k) k (a0, b1, 0)
noncomputable def laws_eqBoolS (a0 : List Bool) (b1 : List Bool) : Option (Bool) := lim fun k => laws_eqBoolS.g k a0 b1
/-- f88 laws.eqSegment -/
noncomputable def laws_eqSegment (a0_0 : Int) (a0_1 : Int) (a0_2 : ByteArray) (a0_3 : Bool) (a0_4 : List Bool) (b1_0 : Int) (b1_1 : Int) (b1_2 : ByteArray) (b1_3 : Bool) (b1_4 : List Bool) : Option (Bool) :=
  bif (a0_0 != b1_0) then
    some false
  else
    bif (a0_1 != b1_1) then
      some false
    else
      bif (!(a0_2.toList == b1_2.toList)) then
        some false
      else
        bif (!(a0_3 == b1_3)) then
          some false
        else
          (laws_eqBoolS a0_4 b1_4).bind fun c1 =>
          bif (!c1) then
            some false
          else
            some true
/-- f67 laws.eqSegmentS -/
noncomputable def laws_eqSegmentS.s0 (k : Nat) (go0 : (List (Int × Int × ByteArray × Bool × List Bool) × List (Int × Int × ByteArray × Bool × List Bool) × Int) → Option (Bool)) : (List (Int × Int × ByteArray × Bool × List Bool) × List (Int × Int × ByteArray × Bool × List Bool) × Int) → Option (Bool) := fun (a0, b1, i5) =>
  bif decide (i5 < (a0.length : Int)) then
    grd (decide (0 ≤ i5)) <| grd (decide (i5 < (a0.length : Int))) <| grd (decide (0 ≤ i5)) <| grd (decide (i5 < (b1.length : Int))) <|
    (laws_eqSegment (rdOf (0, 0, emp, false, []) a0 i5).1 (rdOf (0, 0, emp, false, []) a0 i5).2.1 (rdOf (0, 0, emp, false, []) a0 i5).2.2.1 (rdOf (0, 0, emp, false, []) a0 i5).2.2.2.1 (rdOf (0, 0, emp, false, []) a0 i5).2.2.2.2 (rdOf (0, 0, emp, false, []) b1 i5).1 (rdOf (0, 0, emp, false, []) b1 i5).2.1 (rdOf (0, 0, emp, false, []) b1 i5).2.2.1 (rdOf (0, 0, emp, false, []) b1 i5).2.2.2.1 (rdOf (0, 0, emp, false, []) b1 i5).2.2.2.2).bind fun c1 =>
    bif (!c1) then
      some false
    else
      go0 (a0, b1, w64 (i5 + 1))
  else
    some true
noncomputable def laws_eqSegmentS.g (k : Nat) (a0 : List (Int × Int × ByteArray × Bool × List Bool)) (b1 : List (Int × Int × ByteArray × Bool × List Bool)) : Option (Bool) :=
  bif ((a0.length : Int) != (b1.length : Int)) then
    some false
  else
    iter (laws_eqSegmentS.s0 k) k (a0, b1, 0)
noncomputable def laws_eqSegmentS (a0 : List (Int × Int × ByteArray × Bool × List Bool)) (b1 : List (Int × Int × ByteArray × Bool × List Bool)) : Option (Bool) := lim fun k => laws_eqSegmentS.g k a0 b1
/-- f29 laws.eqSession -/
noncomputable def laws_eqSession (a0_0 : ByteArray) (a0_1 : List Bool) (a0_2 : List Bool) (a0_3 : ByteArray) (a0_4 : Bool) (a0_5 : List (Int × Int × ByteArray × Bool × List Bool)) (a0_6 : List (Int × Int × ByteArray × Bool × List Bool)) (b1_0 : ByteArray) (b1_1 : List Bool) (b1_2 : List Bool) (b1_3 : ByteArray) (b1_4 : Bool) (b1_5 : List (Int × Int × ByteArray × Bool × List Bool)) (b1_6 : List (Int × Int × ByteArray × Bool × List Bool)) : Option (Bool) :=
  bif (!(a0_0.toList == b1_0.toList)) then
    some false
  else
    (laws_eqBoolS a0_1 b1_1).bind fun c1 =>
    bif (!c1) then
      some false
    else
      (laws_eqBoolS a0_2 b1_2).bind fun c2 =>
      bif (!c2) then
        some false
      else
        bif (!(a0_3.toList == b1_3.toList)) then
          some false
        else
          bif (!(a0_4 == b1_4)) then
            some false
          else
            (laws_eqSegmentS a0_5 b1_5).bind fun c3 =>
            bif (!c3) then
              some false
            else
              (laws_eqSegmentS a0_6 b1_6).bind fun c4 =>
              bif (!c4) then
                some false
              else
                some true
/-- f68 laws.eqSesStep -/
noncomputable def laws_eqSesStep (a0_0 : Int) (a0_1 : Bool) (a0_2 : Int) (b1_0 : Int) (b1_1 : Bool) (b1_2 : Int) : Option (Bool) :=
  bif (a0_0 != b1_0) then
    some false
  else
    bif (!(a0_1 == b1_1)) then
      some false
    else
      bif (a0_2 != b1_2) then
        some false
      else
        some true
/-- f31 laws.eqSesStepS -/
noncomputable def laws_eqSesStepS.s0 (k : Nat) (go0 : (List (Int × Bool × Int) × List (Int × Bool × Int) × Int) → Option (Bool)) : (List (Int × Bool × Int) × List (Int × Bool × Int) × Int) → Option (Bool) := fun (a0, b1, i5) =>
  bif decide (i5 < (a0.length : Int)) then
    grd (decide (0 ≤ i5)) <| grd (decide (i5 < (a0.length : Int))) <| grd (decide (0 ≤ i5)) <| grd (decide (i5 < (b1.length : Int))) <|
    (laws_eqSesStep (rdOf (0, false, 0) a0 i5).1 (rdOf (0, false, 0) a0 i5).2.1 (rdOf (0, false, 0) a0 i5).2.2 (rdOf (0, false, 0) b1 i5).1 (rdOf (0, false, 0) b1 i5).2.1 (rdOf (0, false, 0) b1 i5).2.2).bind fun c1 =>
    bif (!c1) then
      some false
    else
      go0 (a0, b1, w64 (i5 + 1))
  else
    some true
noncomputable def laws_eqSesStepS.g (k : Nat) (a0 : List (Int × Bool × Int)) (b1 : List (Int × Bool × Int)) : Option (Bool) :=
  bif ((a0.length : Int) != (b1.length : Int)) then
    some false
  else
    iter (laws_eqSesStepS.s0 k) k (a0, b1, 0)
noncomputable def laws_eqSesStepS (a0 : List (Int × Bool × Int)) (b1 : List (Int × Bool × Int)) : Option (Bool) := lim fun k => laws_eqSesStepS.g k a0 b1
/-- f32 laws.markSesStepS -/
noncomputable def laws_markSesStepS.s0 (k : Nat) (go0 : (Int × Int × List (Int × Bool × Int)) → Option (Int × List (Int × Bool × Int))) : (Int × Int × List (Int × Bool × Int)) → Option (Int × List (Int × Bool × Int)) := fun (k1, i5, r0) =>
  bif decide (i5 < (r0.length : Int)) then
    grd (decide (0 ≤ i5)) <| grd (decide (i5 < (r0.length : Int))) <| grd (decide (0 ≤ i5)) <| grd (decide (i5 < ((setI r0 i5 (k1, (rdOf (0, false, 0) r0 i5).2)).length : Int))) <| grd (decide (0 ≤ i5)) <| grd (decide (i5 < ((setI (setI r0 i5 (k1, (rdOf (0, false, 0) r0 i5).2)) i5 ((rdOf (0, false, 0) (setI r0 i5 (k1, (rdOf (0, false, 0) r0 i5).2)) i5).1, (Int.tmod (w64 (k1 + 1)) 3 == 0), (rdOf (0, false, 0) (setI r0 i5 (k1, (rdOf (0, false, 0) r0 i5).2)) i5).2.2)).length : Int))) <|
    go0 (w64 ((w64 ((w64 (k1 + 1)) + 1)) + 1), w64 (i5 + 1), setI (setI (setI r0 i5 (k1, (rdOf (0, false, 0) r0 i5).2)) i5 ((rdOf (0, false, 0) (setI r0 i5 (k1, (rdOf (0, false, 0) r0 i5).2)) i5).1, (Int.tmod (w64 (k1 + 1)) 3 == 0), (rdOf (0, false, 0) (setI r0 i5 (k1, (rdOf (0, false, 0) r0 i5).2)) i5).2.2)) i5 ((rdOf (0, false, 0) (setI (setI r0 i5 (k1, (rdOf (0, false, 0) r0 i5).2)) i5 ((rdOf (0, false, 0) (setI r0 i5 (k1, (rdOf (0, false, 0) r0 i5).2)) i5).1, (Int.tmod (w64 (k1 + 1)) 3 == 0), (rdOf (0, false, 0) (setI r0 i5 (k1, (rdOf (0, false, 0) r0 i5).2)) i5).2.2)) i5).1, (rdOf (0, false, 0) (setI (setI r0 i5 (k1, (rdOf (0, false, 0) r0 i5).2)) i5 ((rdOf (0, false, 0) (setI r0 i5 (k1, (rdOf (0, false, 0) r0 i5).2)) i5).1, (Int.tmod (w64 (k1 + 1)) 3 == 0), (rdOf (0, false, 0) (setI r0 i5 (k1, (rdOf (0, false, 0) r0 i5).2)) i5).2.2)) i5).2.1, w64 ((w64 (k1 + 1)) + 1)))
  else
    some (k1, r0)
noncomputable def laws_markSesStepS.g (k : Nat) (k1 : Int) (r0 : List (Int × Bool × Int)) : Option (Int × List (Int × Bool × Int)) :=
  iter (laws_markSesStepS.s0 k) k (k1, 0, r0)
noncomputable def laws_markSesStepS (k1 : Int) (r0 : List (Int × Bool × Int)) : Option (Int × List (Int × Bool × Int)) := lim fun k => laws_markSesStepS.g k k1 r0
/-- f34 laws.markBoolS -/
noncomputable def laws_markBoolS.s0 (k : Nat) (go0 : (Int × Int × List Bool) → Option (Int × List Bool)) : (Int × Int × List Bool) → Option (Int × List Bool) := fun (k1, i5, r0) =>
  bif decide (i5 < (r0.length : Int)) then
    grd (decide (0 ≤ i5)) <| grd (decide (i5 < (r0.length : Int))) <|
    go0 (w64 (k1 + 1), w64 (i5 + 1), setI r0 i5 (Int.tmod k1 3 == 0))
  else
    some (k1, r0)
noncomputable def laws_markBoolS.g (k : Nat) (k1 : Int) (r0 : List Bool) : Option (Int × List Bool) :=
  iter (laws_markBoolS.s0 k) k (k1, 0, r0)
noncomputable def laws_markBoolS (k1 : Int) (r0 : List Bool) : Option (Int × List Bool) := lim fun k => laws_markBoolS.g k k1 r0
/-- f89 laws.markText -/
noncomputable def laws_markText.s0 (k : Nat) (go0 : (Int × ByteArray) → Option (ByteArray)) : (Int × ByteArray) → Option (ByteArray) := fun (k0, out3) =>
  bif decide (k0 > 0) then
    grd (decide ((strOfNums [IntKind.u8.wrap (w64 (48 + (Int.tmod k0 10)))]).size + out3.size ≤ 9223372036854775807)) <|
    go0 (w64 (Int.tdiv k0 10), (strOfNums [IntKind.u8.wrap (w64 (48 + (Int.tmod k0 10)))]) ++ out3)
  else
    grd (decide ((bs [109]).size + out3.size ≤ 9223372036854775807)) <|
    some ((bs [109]) ++ out3)
noncomputable def laws_markText.g (k : Nat) (k0 : Int) : Option (ByteArray) :=
  bif decide (k0 ≤ 0) then
    some (bs [109, 48])
  else
    iter (laws_markText.s0 k) k (k0, emp)
noncomputable def laws_markText (k0 : Int) : Option (ByteArray) := lim fun k => laws_markText.g k k0
/-- f69 laws.markSegmentS -/
noncomputable def laws_markSegmentS.s0 (k : Nat) (go0 : (Int × Int × List (Int × Int × ByteArray × Bool × List Bool)) → Option (Int × List (Int × Int × ByteArray × Bool × List Bool))) : (Int × Int × List (Int × Int × ByteArray × Bool × List Bool)) → Option (Int × List (Int × Int × ByteArray × Bool × List Bool)) := fun (k1, i5, r0) =>
  bif decide (i5 < (r0.length : Int)) then
    grd (decide (0 ≤ i5)) <| grd (decide (i5 < (r0.length : Int))) <| grd (decide (0 ≤ i5)) <| grd (decide (i5 < ((setI r0 i5 (k1, (rdOf (0, 0, emp, false, []) r0 i5).2)).length : Int))) <|
    (laws_markText (w64 ((w64 (k1 + 1)) + 1))).bind fun c3 =>
    grd (decide (0 ≤ i5)) <| grd (decide (i5 < ((setI (setI r0 i5 (k1, (rdOf (0, 0, emp, false, []) r0 i5).2)) i5 ((rdOf (0, 0, emp, false, []) (setI r0 i5 (k1, (rdOf (0, 0, emp, false, []) r0 i5).2)) i5).1, w64 (k1 + 1), (rdOf (0, 0, emp, false, []) (setI r0 i5 (k1, (rdOf (0, 0, emp, false, []) r0 i5).2)) i5).2.2)).length : Int))) <| grd (decide (0 ≤ i5)) <| grd (decide (i5 < ((setI (setI (setI r0 i5 (k1, (rdOf (0, 0, emp, false, []) r0 i5).2)) i5 ((rdOf (0, 0, emp, false, []) (setI r0 i5 (k1, (rdOf (0, 0, emp, false, []) r0 i5).2)) i5).1, w64 (k1 + 1), (rdOf (0, 0, emp, false, []) (setI r0 i5 (k1, (rdOf (0, 0, emp, false, []) r0 i5).2)) i5).2.2)) i5 ((rdOf (0, 0, emp, false, []) (setI (setI r0 i5 (k1, (rdOf (0, 0, emp, false, []) r0 i5).2)) i5 ((rdOf (0, 0, emp, false, []) (setI r0 i5 (k1, (rdOf (0, 0, emp, false, []) r0 i5).2)) i5).1, w64 (k1 + 1), (rdOf (0, 0, emp, false, []) (setI r0 i5 (k1, (rdOf (0, 0, emp, false, []) r0 i5).2)) i5).2.2)) i5).1, (rdOf (0, 0, emp, false, []) (setI (setI r0 i5 (k1, (rdOf (0, 0, emp, false, []) r0 i5).2)) i5 ((rdOf (0, 0, emp, false, []) (setI r0 i5 (k1, (rdOf (0, 0, emp, false, []) r0 i5).2)) i5).1, w64 (k1 + 1), (rdOf (0, 0, emp, false, []) (setI r0 i5 (k1, (rdOf (0, 0, emp, false, []) r0 i5).2)) i5).2.2)) i5).2.1, c3, (rdOf (0, 0, emp, false, []) (setI (setI r0 i5 (k1, (rdOf (0, 0, emp, false, []) r0 i5).2)) i5 ((rdOf (0, 0, emp, false, []) (setI r0 i5 (k1, (rdOf (0, 0, emp, false, []) r0 i5).2)) i5).1, w64 (k1 + 1), (rdOf (0, 0, emp, false, []) (setI r0 i5 (k1, (rdOf (0, 0, emp, false, []) r0 i5).2)) i5).2.2)) i5).2.2.2)).length : Int))) <| grd (decide (0 ≤ i5)) <| grd (decide (i5 < ((setI (setI (setI (setI r0 i5 (k1, (rdOf (0, 0, emp, false, []) r0 i5).2)) i5 ((rdOf (0, 0, emp, false, []) (setI r0 i5 (k1, (rdOf (0, 0, emp, false, []) r0 i5).2)) i5).1, w64 (k1 + 1), (rdOf (0, 0, emp, false, []) (setI r0 i5 (k1, (rdOf (0, 0, emp, false, []) r0 i5).2)) i5).2.2)) i5 ((rdOf (0, 0, emp, false, []) (setI (setI r0 i5 (k1, (rdOf (0, 0, emp, false, []) r0 i5).2)) i5 ((rdOf (0, 0, emp, false, []) (setI r0 i5 (k1, (rdOf (0, 0, emp, false, []) r0 i5).2)) i5).1, w64 (k1 + 1), (rdOf (0, 0, emp, false, []) (setI r0 i5 (k1, (rdOf (0, 0, emp, false, []) r0 i5).2)) i5).2.2)) i5).1, (rdOf (0, 0, emp, false, []) (setI (setI r0 i5 (k1, (rdOf (0, 0, emp, false, []) r0 i5).2)) i5 ((rdOf (0, 0, emp, false, []) (setI r0 i5 (k1, (rdOf (0, 0, emp, false, []) r0 i5).2)) i5).1, w64 (k1 + 1), (rdOf (0, 0, emp, false, []) (setI r0 i5 (k1, (rdOf (0, 0, emp, false, []) r0 i5).2)) i5).2.2)) i5).2.1, c3, (rdOf (0, 0, emp, false, []) (setI (setI r0 i5 (k1, (rdOf (0, 0, emp, false, []) r0 i5).2)) i5 ((rdOf (0, 0, emp, false, []) (setI r0 i5 (k1, (rdOf (0, 0, emp, false, []) r0 i5).2)) i5).1, w64 (k1 + 1), (rdOf (0, 0, emp, false, []) (setI r0 i5 (k1, (rdOf (0, 0, emp, false, []) r0 i5).2)) i5).2.2)) i5).2.2.2)) i5 ((rdOf (0, 0, emp, false, []) (setI (setI (setI r0 i5 (k1, (rdOf (0, 0, emp, false, []) r0 i5).2)) i5 ((rdOf (0, 0, emp, false, []) (setI r0 i5 (k1, (rdOf (0, 0, emp, false, []) r0 i5).2)) i5).1, w64 (k1 + 1), (rdOf (0, 0, emp, false, []) (setI r0 i5 (k1, (rdOf (0, 0, emp, false, []) r0 i5).2)) i5).2.2)) i5 ((rdOf (0, 0, emp, false, []) (setI (setI r0 i5 (k1, (rdOf (0, 0, emp, false, []) r0 i5).2)) i5 ((rdOf (0, 0, emp, false, []) (setI r0 i5 (k1, (rdOf (0, 0, emp, false, []) r0 i5).2)) i5).1, w64 (k1 + 1), (rdOf (0, 0, emp, false, []) (setI r0 i5 (k1, (rdOf (0, 0, emp, false, []) r0 i5).2)) i5).2.2)) i5).1, (rdOf (0, 0, emp, false, []) (setI (setI r0 i5 (k1, (rdOf (0, 0, emp, false, []) r0 i5).2)) i5 ((rdOf (0, 0, emp, false, []) (setI r0 i5 (k1, (rdOf (0, 0, emp, false, []) r0 i5).2)) i5).1, w64 (k1 + 1), (rdOf (0, 0, emp, false, []) (setI r0 i5 (k1, (rdOf (0, 0, emp, false, []) r0 i5).2)) i5).2.2)) i5).2.1, c3, (rdOf (0, 0, emp, false, []) (setI (setI r0 i5 (k1, (rdOf (0, 0, emp, false, []) r0 i5).2)) i5 ((rdOf (0, 0, emp, false, []) (setI r0 i5 (k1, (rdOf (0, 0, emp, false, []) r0 i5).2)) i5).1, w64 (k1 + 1), (rdOf (0, 0, emp, false, []) (setI r0 i5 (k1, (rdOf (0, 0, emp, false, []) r0 i5).2)) i5).2.2)) i5).2.2.2)) i5).1, (rdOf (0, 0, emp, false, []) (setI (setI (setI r0 i5 (k1, (rdOf (0, 0, emp, false, []) r0 i5).2)) i5 ((rdOf (0, 0, emp, false, []) (setI r0 i5 (k1, (rdOf (0, 0, emp, false, []) r0 i5).2)) i5).1, w64 (k1 + 1), (rdOf (0, 0, emp, false, []) (setI r0 i5 (k1, (rdOf (0, 0, emp, false, []) r0 i5).2)) i5).2.2)) i5 ((rdOf (0, 0, emp, false, []) (setI (setI r0 i5 (k1, (rdOf (0, 0, emp, false, []) r0 i5).2)) i5 ((rdOf (0, 0, emp, false, []) (setI r0 i5 (k1, (rdOf (0, 0, emp, false, []) r0 i5).2)) i5).1, w64 (k1 + 1), (rdOf (0, 0, emp, false, []) (setI r0 i5 (k1, (rdOf (0, 0, emp, false, []) r0 i5).2)) i5).2.2)) i5).1, (rdOf (0, 0, emp, false, []) (setI (setI r0 i5 (k1, (rdOf (0, 0, emp, false, []) r0 i5).2)) i5 ((rdOf (0, 0, emp, false, []) (setI r0 i5 (k1, (rdOf (0, 0, emp, false, []) r0 i5).2)) i5).1, w64 (k1 + 1), (rdOf (0, 0, emp, false, []) (setI r0 i5 (k1, (rdOf (0, 0, emp, false, []) r0 i5).2)) i5).2.2)) i5).2.1, c3, (rdOf (0, 0, emp, false, []) (setI (setI r0 i5 (k1, (rdOf (0, 0, emp, false, []) r0 i5).2)) i5 ((rdOf (0, 0, emp, false, []) (setI r0 i5 (k1, (rdOf (0, 0, emp, false, []) r0 i5).2)) i5).1, w64 (k1 + 1), (rdOf (0, 0, emp, false, []) (setI r0 i5 (k1, (rdOf (0, 0, emp, false, []) r0 i5).2)) i5).2.2)) i5).2.2.2)) i5).2.1, (rdOf (0, 0, emp, false, []) (setI (setI (setI r0 i5 (k1, (rdOf (0, 0, emp, false, []) r0 i5).2)) i5 ((rdOf (0, 0, emp, false, []) (setI r0 i5 (k1, (rdOf (0, 0, emp, false, []) r0 i5).2)) i5).1, w64 (k1 + 1), (rdOf (0, 0, emp, false, []) (setI r0 i5 (k1, (rdOf (0, 0, emp, false, []) r0 i5).2)) i5).2.2)) i5 ((rdOf (0, 0, emp, false, []) (setI (setI r0 i5 (k1, (rdOf (0, 0, emp, false, []) r0 i5).2)) i5 ((rdOf (0, 0, emp, false, []) (setI r0 i5 (k1, (rdOf (0, 0, emp, false, []) r0 i5).2)) i5).1, w64 (k1 + 1), (rdOf (0, 0, emp, false, []) (setI r0 i5 (k1, (rdOf (0, 0, emp, false, []) r0 i5).2)) i5).2.2)) i5).1, (rdOf (0, 0, emp, false, []) (setI (setI r0 i5 (k1, (rdOf (0, 0, emp, false, []) r0 i5).2)) i5 ((rdOf (0, 0, emp, false, []) (setI r0 i5 (k1, (rdOf (0, 0, emp, false, []) r0 i5).2)) i5).1, w64 (k1 + 1), (rdOf (0, 0, emp, false, []) (setI r0 i5 (k1, (rdOf (0, 0, emp, false, []) r0 i5).2)) i5).2.2)) i5).2.1, c3, (rdOf (0, 0, emp, false, []) (setI (setI r0 i5 (k1, (rdOf (0, 0, emp, false, []) r0 i5).2)) i5 ((rdOf (0, 0, emp, false, []) (setI r0 i5 (k1, (rdOf (0, 0, emp, false, []) r0 i5).2)) i5).1, w64 (k1 + 1), (rdOf (0, 0, emp, false, []) (setI r0 i5 (k1, (rdOf (0, 0, emp, false, []) r0 i5).2)) i5).2.2)) i5).2.2.2)) i5).2.2.1, (Int.tmod (w64 ((w64 ((w64 (k1 + 1)) + 1)) + 1)) 3 == 0), (rdOf (0, 0, emp, false, []) (setI (setI (setI r0 i5 (k1, (rdOf (0, 0, emp, false, []) r0 i5).2)) i5 ((rdOf (0, 0, emp, false, []) (setI r0 i5 (k1, (rdOf (0, 0, emp, false, []) r0 i5).2)) i5).1, w64 (k1 + 1), (rdOf (0, 0, emp, false, []) (setI r0 i5 (k1, (rdOf (0, 0, emp, false, []) r0 i5).2)) i5).2.2)) i5 ((rdOf (0, 0, emp, false, []) (setI (setI r0 i5 (k1, (rdOf (0, 0, emp, false, []) r0 i5).2)) i5 ((rdOf (0, 0, emp, false, []) (setI r0 i5 (k1, (rdOf (0, 0, emp, false, []) r0 i5).2)) i5).1, w64 (k1 + 1), (rdOf (0, 0, emp, false, []) (setI r0 i5 (k1, (rdOf (0, 0, emp, false, []) r0 i5).2)) i5).2.2)) i5).1, (rdOf (0, 0, emp, false, []) (setI (setI r0 i5 (k1, (rdOf (0, 0, emp, false, []) r0 i5).2)) i5 ((rdOf (0, 0, emp, false, []) (setI r0 i5 (k1, (rdOf (0, 0, emp, false, []) r0 i5).2)) i5).1, w64 (k1 + 1), (rdOf (0, 0, emp, false, []) (setI r0 i5 (k1, (rdOf (0, 0, emp, false, []) r0 i5).2)) i5).2.2)) i5).2.1, c3, (rdOf (0, 0, emp, false, []) (setI (setI r0 i5 (k1, (rdOf (0, 0, emp, false, []) r0 i5).2)) i5 ((rdOf (0, 0, emp, false, []) (setI r0 i5 (k1, (rdOf (0, 0, emp, false, []) r0 i5).2)) i5).1, w64 (k1 + 1), (rdOf (0, 0, emp, false, []) (setI r0 i5 (k1, (rdOf (0, 0, emp, false, []) r0 i5).2)) i5).2.2)) i5).2.2.2)) i5).2.2.2.2)).length : Int))) <|
    (laws_markBoolS (w64 ((w64 ((w64 ((w64 (k1 + 1)) + 1)) + 1)) + 1)) (rdOf (0, 0, emp, false, []) (setI (setI (setI (setI r0 i5 (k1, (rdOf (0, 0, emp, false, []) r0 i5).2)) i5 ((rdOf (0, 0, emp, false, []) (setI r0 i5 (k1, (rdOf (0, 0, emp, false, []) r0 i5).2)) i5).1, w64 (k1 + 1), (rdOf (0, 0, emp, false, []) (setI r0 i5 (k1, (rdOf (0, 0, emp, false, []) r0 i5).2)) i5).2.2)) i5 ((rdOf (0, 0, emp, false, []) (setI (setI r0 i5 (k1, (rdOf (0, 0, emp, false, []) r0 i5).2)) i5 ((rdOf (0, 0, emp, false, []) (setI r0 i5 (k1, (rdOf (0, 0, emp, false, []) r0 i5).2)) i5).1, w64 (k1 + 1), (rdOf (0, 0, emp, false, []) (setI r0 i5 (k1, (rdOf (0, 0, emp, false, []) r0 i5).2)) i5).2.2)) i5).1, (rdOf (0, 0, emp, false, []) (setI (setI r0 i5 (k1, (rdOf (0, 0, emp, false, []) r0 i5).2)) i5 ((rdOf (0, 0, emp, false, []) (setI r0 i5 (k1, (rdOf (0, 0, emp, false, []) r0 i5).2)) i5).1, w64 (k1 + 1), (rdOf (0, 0, emp, false, []) (setI r0 i5 (k1, (rdOf (0, 0, emp, false, []) r0 i5).2)) i5).2.2)) i5).2.1, c3, (rdOf (0, 0, emp, false, []) (setI (setI r0 i5 (k1, (rdOf (0, 0, emp, false, []) r0 i5).2)) i5 ((rdOf (0, 0, emp, false, []) (setI r0 i5 (k1, (rdOf (0, 0, emp, false, []) r0 i5).2)) i5).1, w64 (k1 + 1), (rdOf (0, 0, emp, false, []) (setI r0 i5 (k1, (rdOf (0, 0, emp, false, []) r0 i5).2)) i5).2.2)) i5).2.2.2)) i5 ((rdOf (0, 0, emp, false, []) (setI (setI (setI r0 i5 (k1, (rdOf (0, 0, emp, false, []) r0 i5).2)) i5 ((rdOf (0, 0, emp, false, []) (setI r0 i5 (k1, (rdOf (0, 0, emp, false, []) r0 i5).2)) i5).1, w64 (k1 + 1), (rdOf (0, 0, emp, false, []) (setI r0 i5 (k1, (rdOf (0, 0, emp, false, []) r0 i5).2)) i5).2.2)) i5 ((rdOf (0, 0, emp, false, []) (setI (setI r0 i5 (k1, (rdOf (0, 0, emp, false, []) r0 i5).2)) i5 ((rdOf (0, 0, emp, false, []) (setI r0 i5 (k1, (rdOf (0, 0, emp, false, []) r0 i5).2)) i5).1, w64 (k1 + 1), (rdOf (0, 0, emp, false, []) (setI r0 i5 (k1, (rdOf (0, 0, emp, false, []) r0 i5).2)) i5).2.2)) i5).1, (rdOf (0, 0, emp, false, []) (setI (setI r0 i5 (k1, (rdOf (0, 0, emp, false, []) r0 i5).2)) i5 ((rdOf (0, 0, emp, false, []) (setI r0 i5 (k1, (rdOf (0, 0, emp, false, []) r0 i5).2)) i5).1, w64 (k1 + 1), (rdOf (0, 0, emp, false, []) (setI r0 i5 (k1, (rdOf (0, 0, emp, false, []) r0 i5).2)) i5).2.2)) i5).2.1, c3, (rdOf (0, 0, emp, false, []) (setI (setI r0 i5 (k1, (rdOf (0, 0, emp, false, []) r0 i5).2)) i5 ((rdOf (0, 0, emp, false, []) (setI r0 i5 (k1, (rdOf (0, 0, emp, false, []) r0 i5).2)) i5).1, w64 (k1 + 1), (rdOf (0, 0, emp, false, []) (setI r0 i5 (k1, (rdOf (0, 0, emp, false, []) r0 i5).2)) i5).2.2)) i5).2.2.2)) i5).1, (rdOf (0, 0, emp, false, []) (setI (setI (setI r0 i5 (k1, (rdOf (0, 0, emp, false, []) r0 i5).2)) i5 ((rdOf (0, 0, emp, false, []) (setI r0 i5 (k1, (rdOf (0, 0, emp, false, []) r0 i5).2)) i5).1, w64 (k1 + 1), (rdOf (0, 0, emp, false, []) (setI r0 i5 (k1, (rdOf (0, 0, emp, false, []) r0 i5).2)) i5).2.2)) i5 ((rdOf (0, 0, emp, false, []) (setI (setI r0 i5 (k1, (rdOf (0, 0, emp, false, []) r0 i5).2)) i5 ((rdOf (0, 0, emp, false, []) (setI r0 i5 (k1, (rdOf (0, 0, emp, false, []) r0 i5).2)) i5).1, w64 (k1 + 1), (rdOf (0, 0, emp, false, []) (setI r0 i5 (k1, (rdOf (0, 0, emp, false, []) r0 i5).2)) i5).2.2)) i5).1, (rdOf (0, 0, emp, false, []) (setI (setI r0 i5 (k1, (rdOf (0, 0, emp, false, []) r0 i5).2)) i5 ((rdOf (0, 0, emp, false, []) (setI r0 i5 (k1, (rdOf (0, 0, emp, false, []) r0 i5).2)) i5).1, w64 (k1 + 1), (rdOf (0, 0, emp, false, []) (setI r0 i5 (k1, (rdOf (0, 0, emp, false, []) r0 i5).2)) i5).2.2)) i5).2.1, c3, (rdOf (0, 0, emp, false, []) (setI (setI r0 i5 (k1, (rdOf (0, 0, emp, false, []) r0 i5).2)) i5 ((rdOf (0, 0, emp, false, []) (setI r0 i5 (k1, (rdOf (0, 0, emp, false, []) r0 i5).2)) i5).1, w64 (k1 + 1), (rdOf (0, 0, emp, false, []) (setI r0 i5 (k1, (rdOf (0, 0, emp, false, []) r0 i5).2)) i5).2.2)) i5).2.2.2)) i5).2.1, (rdOf (0, 0, emp, false, []) (setI (setI (setI r0 i5 (k1, (rdOf (0, 0, emp, false, []) r0 i5).2)) i5 ((rdOf (0, 0, emp, false, []) (setI r0 i5 (k1, (rdOf (0, 0, emp, false, []) r0 i5).2)) i5).1, w64 (k1 + 1), (rdOf (0, 0, emp, false, []) (setI r0 i5 (k1, (rdOf (0, 0, emp, false, []) r0 i5).2)) i5).2.2)) i5 ((rdOf (0, 0, emp, false, []) (setI (setI r0 i5 (k1, (rdOf (0, 0, emp, false, []) r0 i5).2)) i5 ((rdOf (0, 0, emp, false, []) (setI r0 i5 (k1, (rdOf (0, 0, emp, false, []) r0 i5).2)) i5).1, w64 (k1 + 1), (rdOf (0, 0, emp, false, []) (setI r0 i5 (k1, (rdOf (0, 0, emp, false, []) r0 i5).2)) i5).2.2)) i5).1, (rdOf (0, 0, emp, false, []) (setI (setI r0 i5 (k1, (rdOf (0, 0, emp, false, []) r0 i5).2)) i5 ((rdOf (0, 0, emp, false, []) (setI r0 i5 (k1, (rdOf (0, 0, emp, false, []) r0 i5).2)) i5).1, w64 (k1 + 1), (rdOf (0, 0, emp, false, []) (setI r0 i5 (k1, (rdOf (0, 0, emp, false, []) r0 i5).2)) i5).2.2)) i5).2.1, c3, (rdOf (0, 0, emp, false, []) (setI (setI r0 i5 (k1, (rdOf (0, 0, emp, false, []) r0 i5).2)) i5 ((rdOf (0, 0, emp, false, []) (setI r0 i5 (k1, (rdOf (0, 0, emp, false, []) r0 i5).2)) i5).1, w64 (k1 + 1), (rdOf (0, 0, emp, false, []) (setI r0 i5 (k1, (rdOf (0, 0, emp, false, []) r0 i5).2)) i5).2.2)) i5).2.2.2)) i5).2.2.1, (Int.tmod (w64 ((w64 ((w64 (k1 + 1)) + 1)) + 1)) 3 == 0), (rdOf (0, 0, emp, false, []) (setI (setI (setI r0 i5 (k1, (rdOf (0, 0, emp, false, []) r0 i5).2)) i5 ((rdOf (0, 0, emp, false, []) (setI r0 i5 (k1, (rdOf (0, 0, emp, false, []) r0 i5).2)) i5).1, w64 (k1 + 1), (rdOf (0, 0, emp, false, []) (setI r0 i5 (k1, (rdOf (0, 0, emp, false, []) r0 i5).2)) i5).2.2)) i5 ((rdOf (0, 0, emp, false, []) (setI (setI r0 i5 (k1, (rdOf (0, 0, emp, false, []) r0 i5).2)) i5 ((rdOf (0, 0, emp, false, []) (setI r0 i5 (k1, (rdOf (0, 0, emp, false, []) r0 i5).2)) i5).1, w64 (k1 + 1), (rdOf (0, 0, emp, false, []) (setI r0 i5 (k1, (rdOf (0, 0, emp, false, []) r0 i5).2)) i5).2.2)) i5).1, (rdOf (0, 0, emp, false, []) (setI (setI r0 i5 (k1, (rdOf (0, 0, emp, false, []) r0 i5).2)) i5 ((rdOf (0, 0, emp, false, []) (setI r0 i5 (k1, (rdOf (0, 0, emp, false, []) r0 i5).2)) i5).1, w64 (k1 + 1), (rdOf (0, 0, emp, false, []) (setI r0 i5 (k1, (rdOf (0, 0, emp, false, []) r0 i5).2)) i5).2.2)) i5).2.1, c3, (rdOf (0, 0, emp, false, []) (setI (setI r0 i5 (k1, (rdOf (0, 0, emp, false, []) r0 i5).2)) i5 ((rdOf (0, 0, emp, false, []) (setI r0 i5 (k1, (rdOf (0, 0, emp, false, []) r0 i5).2)) i5).1, w64 (k1 + 1), (rdOf (0, 0, emp, false, []) (setI r0 i5 (k1, (rdOf (0, 0, emp, false, []) r0 i5).2)) i5).2.2)) i5).2.2.2)) i5).2.2.2.2)) i5).2.2.2.2).bind fun (c4_0, c4_1) =>
    go0 (c4_0, w64 (i5 + 1), setI (setI (setI (setI (setI r0 i5 (k1, (rdOf (0, 0, emp, false, []) r0 i5).2)) i5 ((rdOf (0, 0, emp, false, []) (setI r0 i5 (k1, (rdOf (0, 0, emp, false, []) r0 i5).2)) i5).1, w64 (k1 + 1), (rdOf (0, 0, emp, false, []) (setI r0 i5 (k1, (rdOf (0, 0, emp, false, []) r0 i5).2)) i5).2.2)) i5 ((rdOf (0, 0, emp, false, []) (setI (setI r0 i5 (k1, (rdOf (0, 0, emp, false, []) r0 i5).2)) i5 ((rdOf (0, 0, emp, false, []) (setI r0 i5 (k1, (rdOf (0, 0, emp, false, []) r0 i5).2)) i5).1, w64 (k1 + 1), (rdOf (0, 0, emp, false, []) (setI r0 i5 (k1, (rdOf (0, 0, emp, false, []) r0 i5).2)) i5).2.2)) i5).1, (rdOf (0, 0, emp, false, []) (setI (setI r0 i5 (k1, (rdOf (0, 0, emp, false, []) r0 i5).2)) i5 ((rdOf (0, 0, emp, false, []) (setI r0 i5 (k1, (rdOf (0, 0, emp, false, []) r0 i5).2)) i5).1, w64 (k1 + 1), (rdOf (0, 0, emp, false, []) (setI r0 i5 (k1, (rdOf (0, 0, emp, false, []) r0 i5).2)) i5).2.2)) i5).2.1, c3, (rdOf (0, 0, emp, false, []) (setI (setI r0 i5 (k1, (rdOf (0, 0, emp, false, []) r0 i5).2)) i5 ((rdOf (0, 0, emp, false, []) (setI r0 i5 (k1, (rdOf (0, 0, emp, false, []) r0 i5).2)) i5).1, w64 (k1 + 1), (rdOf (0, 0, emp, false, []) (setI r0 i5 (k1, (rdOf (0, 0, emp, false, []) r0 i5).2)) i5).2.2)) i5).2.2.2)) i5 ((rdOf (0, 0, emp, false, []) (setI (setI (setI r0 i5 (k1, (rdOf (0, 0, emp, false, []) r0 i5).2)) i5 ((rdOf (0, 0, emp, false, []) (setI r0 i5 (k1, (rdOf (0, 0, emp, false, []) r0 i5).2)) i5).1, w64 (k1 + 1), (rdOf (0, 0, emp, false, []) (setI r0 i5 (k1, (rdOf (0, 0, emp, false, []) r0 i5).2)) i5).2.2)) i5 ((rdOf (0, 0, emp, false, []) (setI (setI r0 i5 (k1, (rdOf (0, 0, emp, false, []) r0 i5).2)) i5 ((rdOf (0, 0, emp, false, []) (setI r0 i5 (k1, (rdOf (0, 0, emp, false, []) r0 i5).2)) i5).1, w64 (k1 + 1), (rdOf (0, 0, emp, false, []) (setI r0 i5 (k1, (rdOf (0, 0, emp, false, []) r0 i5).2)) i5).2.2)) i5).1, (rdOf (0, 0, emp, false, []) (setI (setI r0 i5 (k1, (rdOf (0, 0, emp, false, []) r0 i5).2)) i5 ((rdOf (0, 0, emp, false, []) (setI r0 i5 (k1, (rdOf (0, 0, emp, false, []) r0 i5).2)) i5).1, w64 (k1 + 1), (rdOf (0, 0, emp, false, []) (setI r0 i5 (k1, (rdOf (0, 0, emp, false, []) r0 i5).2)) i5).2.2)) i5).2.1, c3, (rdOf (0, 0, emp, false, []) (setI (setI r0 i5 (k1, (rdOf (0, 0, emp, false, []) r0 i5).2)) i5 ((rdOf (0, 0, emp, false, []) (setI r0 i5 (k1, (rdOf (0, 0, emp, false, []) r0 i5).2)) i5).1, w64 (k1 + 1), (rdOf (0, 0, emp, false, []) (setI r0 i5 (k1, (rdOf (0, 0, emp, false, []) r0 i5).2)) i5).2.2)) i5).2.2.2)) i5).1, (rdOf (0, 0, emp, false, []) (setI (setI (setI r0 i5 (k1, (rdOf (0, 0, emp, false, []) r0 i5).2)) i5 ((rdOf (0, 0, emp, false, []) (setI r0 i5 (k1, (rdOf (0, 0, emp, false, []) r0 i5).2)) i5).1, w64 (k1 + 1), (rdOf (0, 0, emp, false, []) (setI r0 i5 (k1, (rdOf (0, 0, emp, false, []) r0 i5).2)) i5).2.2)) i5 ((rdOf (0, 0, emp, false, []) (setI (setI r0 i5 (k1, (rdOf (0, 0, emp, false, []) r0 i5).2)) i5 ((rdOf (0, 0, emp, false, []) (setI r0 i5 (k1, (rdOf (0, 0, emp, false, []) r0 i5).2)) i5).1, w64 (k1 + 1), (rdOf (0, 0, emp, false, []) (setI r0 i5 (k1, (rdOf (0, 0, emp, false, []) r0 i5).2)) i5).2.2)) i5).1, (rdOf (0, 0, emp, false, []) (setI (setI r0 i5 (k1, (rdOf (0, 0, emp, false, []) r0 i5).2)) i5 ((rdOf (0, 0, emp, false, []) (setI r0 i5 (k1, (rdOf (0, 0, emp, false, []) r0 i5).2)) i5).1, w64 (k1 + 1), (rdOf (0, 0, emp, false, []) (setI r0 i5 (k1, (rdOf (0, 0, emp, false, []) r0 i5).2)) i5).2.2)) i5).2.1, c3, (rdOf (0, 0, emp, false, []) (setI (setI r0 i5 (k1, (rdOf (0, 0, emp, false, []) r0 i5).2)) i5 ((rdOf (0, 0, emp, false, []) (setI r0 i5 (k1, (rdOf (0, 0, emp, false, []) r0 i5).2)) i5).1, w64 (k1 + 1), (rdOf (0, 0, emp, false, []) (setI r0 i5 (k1, (rdOf (0, 0, emp, false, []) r0 i5).2)) i5).2.2)) i5).2.2.2)) i5).2.1, (rdOf (0, 0, emp, false, []) (setI (setI (setI r0 i5 (k1, (rdOf (0, 0, emp, false, []) r0 i5).2)) i5 ((rdOf (0, 0, emp, false, []) (setI r0 i5 (k1, (rdOf (0, 0, emp, false, []) r0 i5).2)) i5).1, w64 (k1 + 1), (rdOf (0, 0, emp, false, []) (setI r0 i5 (k1, (rdOf (0, 0, emp, false, []) r0 i5).2)) i5).2.2)) i5 ((rdOf (0, 0, emp, false, []) (setI (setI r0 i5 (k1, (rdOf (0, 0, emp, false, []) r0 i5).2)) i5 ((rdOf (0, 0, emp, false, []) (setI r0 i5 (k1, (rdOf (0, 0, emp, false, []) r0 i5).2)) i5).1, w64 (k1 + 1), (rdOf (0, 0, emp, false, []) (setI r0 i5 (k1, (rdOf (0, 0, emp, false, []) r0 i5).2)) i5).2.2)) i5).1, (rdOf (0, 0, emp, false, []) (setI (setI r0 i5 (k1, (rdOf (0, 0, emp, false, []) r0 i5).2)) i5 ((rdOf (0, 0, emp, false, []) (setI r0 i5 (k1, (rdOf (0, 0, emp, false, []) r0 i5).2)) i5).1, w64 (k1 + 1), (rdOf (0, 0, emp, false, []) (setI r0 i5 (k1, (rdOf (0, 0, emp, false, []) r0 i5).2)) i5).2.2)) i5).2.1, c3, (rdOf (0, 0, emp, false, []) (setI (setI r0 i5 (k1, (rdOf (0, 0, emp, false, []) r0 i5).2)) i5 ((rdOf (0, 0, emp, false, []) (setI r0 i5 (k1, (rdOf (0, 0, emp, false, []) r0 i5).2)) i5).1, w64 (k1 + 1), (rdOf (0, 0, emp, false, []) (setI r0 i5 (k1, (rdOf (0, 0, emp, false, []) r0 i5).2)) i5).2.2)) i5).2.2.2)) i5).2.2.1, (Int.tmod (w64 ((w64 ((w64 (k1 + 1)) + 1)) + 1)) 3 == 0), (rdOf (0, 0, emp, false, []) (setI (setI (setI r0 i5 (k1, (rdOf (0, 0, emp, false, []) r0 i5).2)) i5 ((rdOf (0, 0, emp, false, []) (setI r0 i5 (k1, (rdOf (0, 0, emp, false, []) r0 i5).2)) i5).1, w64 (k1 + 1), (rdOf (0, 0, emp, false, []) (setI r0 i5 (k1, (rdOf (0, 0, emp, false, []) r0 i5).2)) i5).2.2)) i5 ((rdOf (0, 0, emp, false, []) (setI (setI r0 i5 (k1, (rdOf (0, 0, emp, false, []) r0 i5).2)) i5 ((rdOf (0, 0, emp, false, []) (setI r0 i5 (k1, (rdOf (0, 0, emp, false, []) r0 i5).2)) i5).1, w64 (k1 + 1), (rdOf (0, 0, emp, false, []) (setI r0 i5 (k1, (rdOf (0, 0, emp, false, []) r0 i5).2)) i5).2.2)) i5).1, (rdOf (0, 0, emp, false, []) (setI (setI r0 i5 (k1, (rdOf (0, 0, emp, false, []) r0 i5).2)) i5 ((rdOf (0, 0, emp, false, []) (setI r0 i5 (k1, (rdOf (0, 0, emp, false, []) r0 i5).2)) i5).1, w64 (k1 + 1), (rdOf (0, 0, emp, false, []) (setI r0 i5 (k1, (rdOf (0, 0, emp, false, []) r0 i5).2)) i5).2.2)) i5).2.1, c3, (rdOf (0, 0, emp, false, []) (setI (setI r0 i5 (k1, (rdOf (0, 0, emp, false, []) r0 i5).2)) i5 ((rdOf (0, 0, emp, false, []) (setI r0 i5 (k1, (rdOf (0, 0, emp, false, []) r0 i5).2)) i5).1, w64 (k1 + 1), (rdOf (0, 0, emp, false, []) (setI r0 i5 (k1, (rdOf (0, 0, emp, false, []) r0 i5).2)) i5).2.2)) i5).2.2.2)) i5).2.2.2.2)) i5 ((rdOf (0, 0, emp, false, []) (setI (setI (setI (setI r0 i5 (k1, (rdOf (0, 0, emp, false, []) r0 i5).2)) i5 ((rdOf (0, 0, emp, false, []) (setI r0 i5 (k1, (rdOf (0, 0, emp, false, []) r0 i5).2)) i5).1, w64 (k1 + 1), (rdOf (0, 0, emp, false, []) (setI r0 i5 (k1, (rdOf (0, 0, emp, false, []) r0 i5).2)) i5).2.2)) i5 ((rdOf (0, 0, emp, false, []) (setI (setI r0 i5 (k1, (rdOf (0, 0, emp, false, []) r0 i5).2)) i5 ((rdOf (0, 0, emp, false, []) (setI r0 i5 (k1, (rdOf (0, 0, emp, false, []) r0 i5).2)) i5).1, w64 (k1 + 1), (rdOf (0, 0, emp, false, []) (setI r0 i5 (k1, (rdOf (0, 0, emp, false, []) r0 i5).2)) i5).2.2)) i5).1, (rdOf (0, 0, emp, false, []) (setI (setI r0 i5 (k1, (rdOf (0, 0, emp, false, []) r0 i5).2)) i5 ((rdOf (0, 0, emp, false, []) (setI r0 i5 (k1, (rdOf (0, 0, emp, false, []) r0 i5).2)) i5).1, w64 (k1 + 1), (rdOf (0, 0, emp, false, []) (setI r0 i5 (k1, (rdOf (0, 0, emp, false, []) r0 i5).2)) i5).2.2)) i5).2.1, c3, (rdOf (0, 0, emp, false, []) (setI (setI r0 i5 (k1, (rdOf (0, 0, emp, false, []) r0 i5).2)) i5 ((rdOf (0, 0, emp, false, []) (setI r0 i5 (k1, (rdOf (0, 0, emp, false, []) r0 i5).2)) i5).1, w64 (k1 + 1), (rdOf (0, 0, emp, false, []) (setI r0 i5 (k1, (rdOf (0, 0, emp, false, []) r0 i5).2)) i5).2.2)) i5).2.2.2)) i5 ((rdOf (0, 0, emp, false, []) (setI (setI (setI r0 i5 (k1, (rdOf (0, 0, emp, false, []) r0 i5).2)) i5 ((rdOf (0, 0, emp, false, []) (setI r0 i5 (k1, (rdOf (0, 0, emp, false, []) r0 i5).2)) i5).1, w64 (k1 + 1), (rdOf (0, 0, emp, false, []) (setI r0 i5 (k1, (rdOf (0, 0, emp, false, []) r0 i5).2)) i5).2.2)) i5 ((rdOf (0, 0, emp, false, []) (setI (setI r0 i5 (k1, (rdOf (0, 0, emp, false, []) r0 i5).2)) i5 ((rdOf (0, 0, emp, false, []) (setI r0 i5 (k1, (rdOf (0, 0, emp, false, []) r0 i5).2)) i5).1, w64 (k1 + 1), (rdOf (0, 0, emp, false, []) (setI r0 i5 (k1, (rdOf (0, 0, emp, false, []) r0 i5).2)) i5).2.2)) i5).1, (rdOf (0, 0, emp, false, []) (setI (setI r0 i5 (k1, (rdOf (0, 0, emp, false, []) r0 i5).2)) i5 ((rdOf (0, 0, emp, false, []) (setI r0 i5 (k1, (rdOf (0, 0, emp, false, []) r0 i5).2)) i5).1, w64 (k1 + 1), (rdOf (0, 0, emp, false, []) (setI r0 i5 (k1, (rdOf (0, 0, emp, false, []) r0 i5).2)) i5).2.2)) i5).2.1, c3, (rdOf (0, 0, emp, false, []) (setI (setI r0 i5 (k1, (rdOf (0, 0, emp, false, []) r0 i5).2)) i5 ((rdOf (0, 0, emp, false, []) (setI r0 i5 (k1, (rdOf (0, 0, emp, false, []) r0 i5).2)) i5).1, w64 (k1 + 1), (rdOf (0, 0, emp, false, []) (setI r0 i5 (k1, (rdOf (0, 0, emp, false, []) r0 i5).2)) i5).2.2)) i5).2.2.2)) i5).1, (rdOf (0, 0, emp, false, []) (setI (setI (setI r0 i5 (k1, (rdOf (0, 0, emp, false, []) r0 i5).2)) i5 ((rdOf (0, 0, emp, false, []) (setI r0 i5 (k1, (rdOf (0, 0, emp, false, []) r0 i5).2)) i5).1, w64 (k1 + 1), (rdOf (0, 0, emp, false, []) (setI r0 i5 (k1, (rdOf (0, 0, emp, false, []) r0 i5).2)) i5).2.2)) i5 ((rdOf (0, 0, emp, false, []) (setI (setI r0 i5 (k1, (rdOf (0, 0, emp, false, []) r0 i5).2)) i5 ((rdOf (0, 0, emp, false, []) (setI r0 i5 (k1, (rdOf (0, 0, emp, false, []) r0 i5).2)) i5).1, w64 (k1 + 1), (rdOf (0, 0, emp, false, []) (setI r0 i5 (k1, (rdOf (0, 0, emp, false, []) r0 i5).2)) i5).2.2)) i5).1, (rdOf (0, 0, emp, false, []) (setI (setI r0 i5 (k1, (rdOf (0, 0, emp, false, []) r0 i5).2)) i5 ((rdOf (0, 0, emp, false, []) (setI r0 i5 (k1, (rdOf (0, 0, emp, false, []) r0 i5).2)) i5).1, w64 (k1 + 1), (rdOf (0, 0, emp, false, []) (setI r0 i5 (k1, (rdOf (0, 0, emp, false, []) r0 i5).2)) i5).2.2)) i5).2.1, c3, (rdOf (0, 0, emp, false, []) (setI (setI r0 i5 (k1, (rdOf (0, 0, emp, false, []) r0 i5).2)) i5 ((rdOf (0, 0, emp, false, []) (setI r0 i5 (k1, (rdOf (0, 0, emp, false, []) r0 i5).2)) i5).1, w64 (k1 + 1), (rdOf (0, 0, emp, false, []) (setI r0 i5 (k1, (rdOf (0, 0, emp, false, []) r0 i5).2)) i5).2.2)) i5).2.2.2)) i5).2.1, (rdOf (0, 0, emp, false, []) (setI (setI (setI r0 i5 (k1, (rdOf (0, 0, emp, false, []) r0 i5).2)) i5 ((rdOf (0, 0, emp, false, []) (setI r0 i5 (k1, (rdOf (0, 0, emp, false, []) r0 i5).2)) i5).1, w64 (k1 + 1), (rdOf (0, 0, emp, false, []) (setI r0 i5 (k1, (rdOf (0, 0, emp, false, []) r0 i5).2)) i5).2.2)) i5 ((rdOf (0, 0, emp, false, []) (setI (setI r0 i5 (k1, (rdOf (0, 0, emp, false, []) r0 i5).2)) i5 ((rdOf (0, 0, emp, false, []) (setI r0 i5 (k1, (rdOf (0, 0, emp, false, []) r0 i5).2)) i5).1, w64 (k1 + 1), (rdOf (0, 0, emp, false, []) (setI r0 i5 (k1, (rdOf (0, 0, emp, false, []) r0 i5).2)) i5).2.2)) i5).1, (rdOf (0, 0, emp, false, []) (setI (setI r0 i5 (k1, (rdOf (0, 0, emp, false, []) r0 i5).2)) i5 ((rdOf (0, 0, emp, false, []) (setI r0 i5 (k1, (rdOf (0, 0, emp, false, []) r0 i5).2)) i5).1, w64 (k1 + 1), (rdOf (0, 0, emp, false, []) (setI r0 i5 (k1, (rdOf (0, 0, emp, false, []) r0 i5).2)) i5).2.2)) i5).2.1, c3, (rdOf (0, 0, emp, false, []) (setI (setI r0 i5 (k1, (rdOf (0, 0, emp, false, []) r0 i5).2)) i5 ((rdOf (0, 0, emp, false, []) (setI r0 i5 (k1, (rdOf (0, 0, emp, false, []) r0 i5).2)) i5).1, w64 (k1 + 1), (rdOf (0, 0, emp, false, []) (setI r0 i5 (k1, (rdOf (0, 0, emp, false, []) r0 i5).2)) i5).2.2)) i5).2.2.2)) i5).2.2.1, (Int.tmod (w64 ((w64 ((w64 (k1 + 1)) + 1)) + 1)) 3 == 0), (rdOf (0, 0, emp, false, []) (setI (setI (setI r0 i5 (k1, (rdOf (0, 0, emp, false, []) r0 i5).2)) i5 ((rdOf (0, 0, emp, false, []) (setI r0 i5 (k1, (rdOf (0, 0, emp, false, []) r0 i5).2)) i5).1, w64 (k1 + 1), (rdOf (0, 0, emp, false, []) (setI r0 i5 (k1, (rdOf (0, 0, emp, false, []) r0 i5).2)) i5).2.2)) i5 ((rdOf (0, 0, emp, false, []) (setI (setI r0 i5 (k1, (rdOf (0, 0, emp, false, []) r0 i5).2)) i5 ((rdOf (0, 0, emp, false, []) (setI r0 i5 (k1, (rdOf (0, 0, emp, false, []) r0 i5).2)) i5).1, w64 (k1 + 1), (rdOf (0, 0, emp, false, []) (setI r0 i5 (k1, (rdOf (0, 0, emp, false, []) r0 i5).2)) i5).2.2)) i5).1, (rdOf (0, 0, emp, false, []) (setI (setI r0 i5 (k1, (rdOf (0, 0, emp, false, []) r0 i5).2)) i5 ((rdOf (0, 0, emp, false, []) (setI r0 i5 (k1, (rdOf (0, 0, emp, false, []) r0 i5).2)) i5).1, w64 (k1 + 1), (rdOf (0, 0, emp, false, []) (setI r0 i5 (k1, (rdOf (0, 0, emp, false, []) r0 i5).2)) i5).2.2)) i5).2.1, c3, (rdOf (0, 0, emp, false, []) (setI (setI r0 i5 (k1, (rdOf (0, 0, emp, false, []) r0 i5).2)) i5 ((rdOf (0, 0, emp, false, []) (setI r0 i5 (k1, (rdOf (0, 0, emp, false, []) r0 i5).2)) i5).1, w64 (k1 + 1), (rdOf (0, 0, emp, false, []) (setI r0 i5 (k1, (rdOf (0, 0, emp, false, []) r0 i5).2)) i5).2.2)) i5).2.2.2)) i5).2.2.2.2)) i5).1, (rdOf (0, 0, emp, false, []) (setI (setI (setI (setI r0 i5 (k1, (rdOf (0, 0, emp, false, []) r0 i5).2)) i5 ((rdOf (0, 0, emp, false, []) (setI r0 i5 (k1, (rdOf (0, 0, emp, false, []) r0 i5).2)) i5).1, w64 (k1 + 1), (rdOf (0, 0, emp, false, []) (setI r0 i5 (k1, (rdOf (0, 0, emp, false, []) r0 i5).2)) i5).2.2)) i5 ((rdOf (0, 0, emp, false, []) (setI (setI r0 i5 (k1, (rdOf (0, 0, emp, false, []) r0 i5).2)) i5 ((rdOf (0, 0, emp, false, []) (setI r0 i5 (k1, (rdOf (0, 0, emp, false, []) r0 i5).2)) i5).1, w64 (k1 + 1), (rdOf (0, 0, emp, false, []) (setI r0 i5 (k1, (rdOf (0, 0, emp, false, []) r0 i5).2)) i5).2.2)) i5).1, (rdOf (0, 0, emp, false, []) (setI (setI r0 i5 (k1, (rdOf (0, 0, emp, false, []) r0 i5).2)) i5 ((rdOf (0, 0, emp, false, []) (setI r0 i5 (k1, (rdOf (0, 0, emp, false, []) r0 i5).2)) i5).1, w64 (k1 + 1), (rdOf (0, 0, emp, false, []) (setI r0 i5 (k1, (rdOf (0, 0, emp, false, []) r0 i5).2)) i5).2.2)) i5).2.1, c3, (rdOf (0, 0, emp, false, []) (setI (setI r0 i5 (k1, (rdOf (0, 0, emp, false, []) r0 i5).2)) i5 ((rdOf (0, 0, emp, false, []) (setI r0 i5 (k1, (rdOf (0, 0, emp, false, []) r0 i5).2)) i5).1, w64 (k1 + 1), (rdOf (0, 0, emp, false, []) (setI r0 i5 (k1, (rdOf (0, 0, emp, false, []) r0 i5).2)) i5).2.2)) i5).2.2.2)) i5 ((rdOf (0, 0, emp, false, []) (setI (setI (setI r0 i5 (k1, (rdOf (0, 0, emp, false, []) r0 i5).2)) i5 ((rdOf (0, 0, emp, false, []) (setI r0 i5 (k1, (rdOf (0, 0, emp, false, []) r0 i5).2)) i5).1, w64 (k1 + 1), (rdOf (0, 0, emp, false, []) (setI r0 i5 (k1, (rdOf (0, 0, emp, false, []) r0 i5).2)) i5).2.2)) i5 ((rdOf (0, 0, emp, false, []) (setI (setI r0 i5 (k1, (rdOf (0, 0, emp, false, []) r0 i5).2)) i5 ((rdOf (0, 0, emp, false, []) (setI r0 i5 (k1, (rdOf (0, 0, emp, false, []) r0 i5).2)) i5).1, w64 (k1 + 1), (rdOf (0, 0, emp, false, []) (setI r0 i5 (k1, (rdOf (0, 0, emp, false, []) r0 i5).2)) i5).2.2)) i5).1, (rdOf (0, 0, emp, false, []) (setI (setI r0 i5 (k1, (rdOf (0, 0, emp, false, []) r0 i5).2)) i5 ((rdOf (0, 0, emp, false, []) (setI r0 i5 (k1, (rdOf (0, 0, emp, false, []) r0 i5).2)) i5).1, w64 (k1 + 1), (rdOf (0, 0, emp, false, []) (setI r0 i5 (k1, (rdOf (0, 0, emp, false, []) r0 i5).2)) i5).2.2)) i5).2.1, c3, (rdOf (0, 0, emp, false, []) (setI (setI r0 i5 (k1, (rdOf (0, 0, emp, false, []) r0 i5).2)) i5 ((rdOf (0, 0, emp, false, []) (setI r0 i5 (k1, (rdOf (0, 0, emp, false, []) r0 i5).2)) i5).1, w64 (k1 + 1), (rdOf (0, 0, emp, false, []) (setI r0 i5 (k1, (rdOf (0, 0, emp, false, []) r0 i5).2)) i5).2.2)) i5).2.2.2)) i5).1, (rdOf (0, 0, emp, false, []) (setI (setI (setI r0 i5 (k1, (rdOf (0, 0, emp, false, []) r0 i5).2)) i5 ((rdOf (0, 0, emp, false, []) (setI r0 i5 (k1, (rdOf (0, 0, emp, false, []) r0 i5).2)) i5).1, w64 (k1 + 1), (rdOf (0, 0, emp, false, []) (setI r0 i5 (k1, (rdOf (0, 0, emp, false, []) r0 i5).2)) i5).2.2)) i5 ((rdOf (0, 0, emp, false, []) (setI (setI r0 i5 (k1, (rdOf (0, 0, emp, false, []) r0 i5).2)) i5 ((rdOf (0, 0, emp, false, []) (setI r0 i5 (k1, (rdOf (0, 0, emp, false, []) r0 i5).2)) i5).1, w64 (k1 + 1), (rdOf (0, 0, emp, false, []) (setI r0 i5 (k1, (rdOf (0, 0, emp, false, []) r0 i5).2)) i5).2.2)) i5).1, (rdOf (0, 0, emp, false, []) (setI (setI r0 i5 (k1, (rdOf (0, 0, emp, false, []) r0 i5).2)) i5 ((rdOf (0, 0, emp, false, []) (setI r0 i5 (k1, (rdOf (0, 0, emp, false, []) r0 i5).2)) i5).1, w64 (k1 + 1), (rdOf (0, 0, emp, false, []) (setI r0 i5 (k1, (rdOf (0, 0, emp, false, []) r0 i5).2)) i5).2.2)) i5).2.1, c3, (rdOf (0, 0, emp, false, []) (setI (setI r0 i5 (k1, (rdOf (0, 0, emp, false, []) r0 i5).2)) i5 ((rdOf (0, 0, emp, false, []) (setI r0 i5 (k1, (rdOf (0, 0, emp, false, []) r0 i5).2)) i5).1, w64 (k1 + 1), (rdOf (0, 0, emp, false, []) (setI r0 i5 (k1, (rdOf (0, 0, emp, false, []) r0 i5).2)) i5).2.2)) i5).2.2.2)) i5).2.1, (rdOf (0, 0, emp, false, []) (setI (setI (setI r0 i5 (k1, (rdOf (0, 0, emp, false, []) r0 i5).2)) i5 ((rdOf (0, 0, emp, false, []) (setI r0 i5 (k1, (rdOf (0, 0, emp, false, []) r0 i5).2)) i5).1, w64 (k1 + 1), (rdOf (0, 0, emp, false, []) (setI r0 i5 (k1, (rdOf (0, 0, emp, false, []) r0 i5).2)) i5).2.2)) i5 ((rdOf (0, 0, emp, false, []) (setI (setI r0 i5 (k1, (rdOf (0, 0, emp, false, []) r0 i5).2)) i5 ((rdOf (0, 0, emp, false, []) (setI r0 i5 (k1, (rdOf (0, 0, emp, false, []) r0 i5).2)) i5).1, w64 (k1 + 1), (rdOf (0, 0, emp, false, []) (setI r0 i5 (k1, (rdOf (0, 0, emp, false, []) r0 i5).2)) i5).2.2)) i5).1, (rdOf (0, 0, emp, false, []) (setI (setI r0 i5 (k1, (rdOf (0, 0, emp, false, []) r0 i5).2)) i5 ((rdOf (0, 0, emp, false, []) (setI r0 i5 (k1, (rdOf (0, 0, emp, false, []) r0 i5).2)) i5).1, w64 (k1 + 1), (rdOf (0, 0, emp, false, []) (setI r0 i5 (k1, (rdOf (0, 0, emp, false, []) r0 i5).2)) i5).2.2)) i5).2.1, c3, (rdOf (0, 0, emp, false, []) (setI (setI r0 i5 (k1, (rdOf (0, 0, emp, false, []) r0 i5).2)) i5 ((rdOf (0, 0, emp, false, []) (setI r0 i5 (k1, (rdOf (0, 0, emp, false, []) r0 i5).2)) i5).1, w64 (k1 + 1), (rdOf (0, 0, emp, false, []) (setI r0 i5 (k1, (rdOf (0, 0, emp, false, []) r0 i5).2)) i5).2.2)) i5).2.2.2)) i5).2.2.1, (Int.tmod (w64 ((w64 ((w64 (k1 + 1)) + 1)) + 1)) 3 == 0), (rdOf (0, 0, emp, false, []) (setI (setI (setI r0 i5 (k1, (rdOf (0, 0, emp, false, []) r0 i5).2)) i5 ((rdOf (0, 0, emp, false, []) (setI r0 i5 (k1, (rdOf (0, 0, emp, false, []) r0 i5).2)) i5).1, w64 (k1 + 1), (rdOf (0, 0, emp, false, []) (setI r0 i5 (k1, (rdOf (0, 0, emp, false, []) r0 i5).2)) i5).2.2)) i5 ((rdOf (0, 0, emp, false, []) (setI (setI r0 i5 (k1, (rdOf (0, 0, emp, false, []) r0 i5).2)) i5 ((rdOf (0, 0, emp, false, []) (setI r0 i5 (k1, (rdOf (0, 0, emp, false, []) r0 i5).2)) i5).1, w64 (k1 + 1), (rdOf (0, 0, emp, false, []) (setI r0 i5 (k1, (rdOf (0, 0, emp, false, []) r0 i5).2)) i5).2.2)) i5).1, (rdOf (0, 0, emp, false, []) (setI (setI r0 i5 (k1, (rdOf (0, 0, emp, false, []) r0 i5).2)) i5 ((rdOf (0, 0, emp, false, []) (setI r0 i5 (k1, (rdOf (0, 0, emp, false, []) r0 i5).2)) i5).1, w64 (k1 + 1), (rdOf (0, 0, emp, false, []) (setI r0 i5 (k1, (rdOf (0, 0, emp, false, []) r0 i5).2)) i5).2.2)) i5).2.1, c3, (rdOf (0, 0, emp, false, []) (setI (setI r0 i5 (k1, (rdOf (0, 0, emp, false, []) r0 i5).2)) i5 ((rdOf (0, 0, emp, false, []) (setI r0 i5 (k1, (rdOf (0, 0, emp, false, []) r0 i5).2)) i5).1, w64 (k1 + 1), (rdOf (0, 0, emp, false, []) (setI r0 i5 (k1, (rdOf (0, 0, emp, false, []) r0 i5).2)) i5).2.2)) i5).2.2.2)) i5).2.2.2.2)) i5).2.1, (rdOf (0, 0, emp, false, []) (setI (setI (setI (setI r0 i5 (k1, (rdOf (0, 0, emp, false, []) r0 i5).2)) i5 ((rdOf (0, 0, emp, false, []) (setI r0 i5 (k1, (rdOf (0, 0, emp, false, []) r0 i5).2)) i5).1, w64 (k1 + 1), (rdOf (0, 0, emp, false, []) (setI r0 i5 (k1, (rdOf (0, 0, emp, false, []) r0 i5).2)) i5).2.2)) i5 ((rdOf (0, 0, emp, false, []) (setI (setI r0 i5 (k1, (rdOf (0, 0, emp, false, []) r0 i5).2)) i5 ((rdOf (0, 0, emp, false, []) (setI r0 i5 (k1, (rdOf (0, 0, emp, false, []) r0 i5).2)) i5).1, w64 (k1 + 1), (rdOf (0, 0, emp, false, []) (setI r0 i5 (k1, (rdOf (0, 0, emp, false, []) r0 i5).2)) i5).2.2)) i5).1, (rdOf (0, 0, emp, false, []) (setI (setI r0 i5 (k1, (rdOf (0, 0, emp, false, []) r0 i5).2)) i5 ((rdOf (0, 0, emp, false, []) (setI r0 i5 (k1, (rdOf (0, 0, emp, false, []) r0 i5).2)) i5).1, w64 (k1 + 1), (rdOf (0, 0, emp, false, []) (setI r0 i5 (k1, (rdOf (0, 0, emp, false, []) r0 i5).2)) i5).2.2)) i5).2.1, c3, (rdOf (0, 0, emp, false, []) (setI (setI r0 i5 (k1, (rdOf (0, 0, emp, false, []) r0 i5).2)) i5 ((rdOf (0, 0, emp, false, []) (setI r0 i5 (k1, (rdOf (0, 0, emp, false, []) r0 i5).2)) i5).1, w64 (k1 + 1), (rdOf (0, 0, emp, false, []) (setI r0 i5 (k1, (rdOf (0, 0, emp, false, []) r0 i5).2)) i5).2.2)) i5).2.2.2)) i5 ((rdOf (0, 0, emp, false, []) (setI (setI (setI r0 i5 (k1, (rdOf (0, 0, emp, false, []) r0 i5).2)) i5 ((rdOf (0, 0, emp, false, []) (setI r0 i5 (k1, (rdOf (0, 0, emp, false, []) r0 i5).2)) i5).1, w64 (k1 + 1), (rdOf (0, 0, emp, false, []) (setI r0 i5 (k1, (rdOf (0, 0, emp, false, []) r0 i5).2)) i5).2.2)) i5 ((rdOf (0, 0, emp, false, []) (setI (setI r0 i5 (k1, (rdOf (0, 0, emp, false, []) r0 i5).2)) i5 ((rdOf (0, 0, emp, false, []) (setI r0 i5 (k1, (rdOf (0, 0, emp, false, []) r0 i5).2)) i5).1, w64 (k1 + 1), (rdOf (0, 0, emp, false, []) (setI r0 i5 (k1, (rdOf (0, 0, emp, false, []) r0 i5).2)) i5).2.2)) i5).1, (rdOf (0, 0, emp, false, []) (setI (setI r0 i5 (k1, (rdOf (0, 0, emp, false, []) r0 i5).2)) i5 ((rdOf (0, 0, emp, false, []) (setI r0 i5 (k1, (rdOf (0, 0, emp, false, []) r0 i5).2)) i5).1, w64 (k1 + 1), (rdOf (0, 0, emp, false, []) (setI r0 i5 (k1, (rdOf (0, 0, emp, false, []) r0 i5).2)) i5).2.2)) i5).2.1, c3, (rdOf (0, 0, emp, false, []) (setI (setI r0 i5 (k1, (rdOf (0, 0, emp, false, []) r0 i5).2)) i5 ((rdOf (0, 0, emp, false, []) (setI r0 i5 (k1, (rdOf (0, 0, emp, false, []) r0 i5).2)) i5).1, w64 (k1 + 1), (rdOf (0, 0, emp, false, []) (setI r0 i5 (k1, (rdOf (0, 0, emp, false, []) r0 i5).2)) i5).2.2)) i5).2.2.2)) i5).1, (rdOf (0, 0, emp, false, []) (setI (setI (setI r0 i5 (k1, (rdOf (0, 0, emp, false, []) r0 i5).2)) i5 ((rdOf (0, 0, emp, false, []) (setI r0 i5 (k1, (rdOf (0, 0, emp, false, []) r0 i5).2)) i5).1, w64 (k1 + 1), (rdOf (0, 0, emp, false, []) (setI r0 i5 (k1, (rdOf (0, 0, emp, false, []) r0 i5).2)) i5).2.2)) i5 ((rdOf (0, 0, emp, false, []) (setI (setI r0 i5 (k1, (rdOf (0, 0, emp, false, []) r0 i5).2)) i5 ((rdOf (0, 0, emp, false, []) (setI r0 i5 (k1, (rdOf (0, 0, emp, false, []) r0 i5).2)) i5).1, w64 (k1 + 1), (rdOf (0, 0, emp, false, []) (setI r0 i5 (k1, (rdOf (0, 0, emp, false, []) r0 i5).2)) i5).2.2)) i5).1, (rdOf (0, 0, emp, false, []) (setI (setI r0 i5 (k1, (rdOf (0, 0, emp, false, []) r0 i5).2)) i5 ((rdOf (0, 0, emp, false, []) (setI r0 i5 (k1, (rdOf (0, 0, emp, false, []) r0 i5).2)) i5).1, w64 (k1 + 1), (rdOf (0, 0, emp, false, []) (setI r0 i5 (k1, (rdOf (0, 0, emp, false, []) r0 i5).2)) i5).2.2)) i5).2.1, c3, (rdOf (0, 0, emp, false, []) (setI (setI r0 i5 (k1, (rdOf (0, 0, emp, false, []) r0 i5).2)) i5 ((rdOf (0, 0, emp, false, []) (setI r0 i5 (k1, (rdOf (0, 0, emp, false, []) r0 i5).2)) i5).1, w64 (k1 + 1), (rdOf (0, 0, emp, false, []) (setI r0 i5 (k1, (rdOf (0, 0, emp, false, []) r0 i5).2)) i5).2.2)) i5).2.2.2)) i5).2.1, (rdOf (0, 0, emp, false, []) (setI (setI (setI r0 i5 (k1, (rdOf (0, 0, emp, false, []) r0 i5).2)) i5 ((rdOf (0, 0, emp, false, []) (setI r0 i5 (k1, (rdOf (0, 0, emp, false, []) r0 i5).2)) i5).1, w64 (k1 + 1), (rdOf (0, 0, emp, false, []) (setI r0 i5 (k1, (rdOf (0, 0, emp, false, []) r0 i5).2)) i5).2.2)) i5 ((rdOf (0, 0, emp, false, []) (setI (setI r0 i5 (k1, (rdOf (0, 0, emp, false, []) r0 i5).2)) i5 ((rdOf (0, 0, emp, false, []) (setI r0 i5 (k1, (rdOf (0, 0, emp, false, []) r0 i5).2)) i5).1, w64 (k1 + 1), (rdOf (0, 0, emp, false, []) (setI r0 i5 (k1, (rdOf (0, 0, emp, false, []) r0 i5).2)) i5).2.2)) i5).1, (rdOf (0, 0, emp, false, []) (setI (setI r0 i5 (k1, (rdOf (0, 0, emp, false, []) r0 i5).2)) i5 ((rdOf (0, 0, emp, false, []) (setI r0 i5 (k1, (rdOf (0, 0, emp, false, []) r0 i5).2)) i5).1, w64 (k1 + 1), (rdOf (0, 0, emp, false, []) (setI r0 i5 (k1, (rdOf (0, 0, emp, false, []) r0 i5).2)) i5).2.2)) i5).2.1, c3, (rdOf (0, 0, emp, false, []) (setI (setI r0 i5 (k1, (rdOf (0, 0, emp, false, []) r0 i5).2)) i5 ((rdOf (0, 0, emp, false, []) (setI r0 i5 (k1, (rdOf (0, 0, emp, false, []) r0 i5).2)) i5).1, w64 (k1 + 1), (rdOf (0, 0, emp, false, []) (setI r0 i5 (k1, (rdOf (0, 0, emp, false, []) r0 i5).2)) i5).2.2)) i5).2.2.2)) i5).2.2.1, (Int.tmod (w64 ((w64 ((w64 (k1 + 1)) + 1)) + 1)) 3 == 0), (rdOf (0, 0, emp, false, []) (setI (setI (setI r0 i5 (k1, (rdOf (0, 0, emp, false, []) r0 i5).2)) i5 ((rdOf (0, 0, emp, false, []) (setI r0 i5 (k1, (rdOf (0, 0, emp, false, []) r0 i5).2)) i5).1, w64 (k1 + 1), (rdOf (0, 0, emp, false, []) (setI r0 i5 (k1, (rdOf (0, 0, emp, false, []) r0 i5).2)) i5).2.2)) i5 ((rdOf (0, 0, emp, false, []) (setI (setI r0 i5 (k1, (rdOf (0, 0, emp, false, []) r0 i5).2)) i5 ((rdOf (0, 0, emp, false, []) (setI r0 i5 (k1, (rdOf (0, 0, emp, false, []) r0 i5).2)) i5).1, w64 (k1 + 1), (rdOf (0, 0, emp, false, []) (setI r0 i5 (k1, (rdOf (0, 0, emp, false, []) r0 i5).2)) i5).2.2)) i5).1, (rdOf (0, 0, emp, false, []) (setI (setI r0 i5 (k1, (rdOf (0, 0, emp, false, []) r0 i5).2)) i5 ((rdOf (0, 0, emp, false, []) (setI r0 i5 (k1, (rdOf (0, 0, emp, false, []) r0 i5).2)) i5).1, w64 (k1 + 1), (rdOf (0, 0, emp, false, []) (setI r0 i5 (k1, (rdOf (0, 0, emp, false, []) r0 i5).2)) i5).2.2)) i5).2.1, c3, (rdOf (0, 0, emp, false, []) (setI (setI r0 i5 (k1, (rdOf (0, 0, emp, false, []) r0 i5).2)) i5 ((rdOf (0, 0, emp, false, []) (setI r0 i5 (k1, (rdOf (0, 0, emp, false, []) r0 i5).2)) i5).1, w64 (k1 + 1), (rdOf (0, 0, emp, false, []) (setI r0 i5 (k1, (rdOf (0, 0, emp, false, []) r0 i5).2)) i5).2.2)) i5).2.2.2)) i5).2.2.2.2)) i5).2.2.1, (rdOf (0, 0, emp, false, []) (setI (setI (setI (setI r0 i5 (k1, (rdOf (0, 0, emp, false, []) r0 i5).2)) i5 ((rdOf (0, 0, emp, false, []) (setI r0 i5 (k1, (rdOf (0, 0, emp, false, []) r0 i5).2)) i5).1, w64 (k1 + 1), (rdOf (0, 0, emp, false, []) (setI r0 i5 (k1, (rdOf (0, 0, emp, false, []) r0 i5).2)) i5).2.2)) i5 ((rdOf (0, 0, emp, false, []) (setI (setI r0 i5 (k1, (rdOf (0, 0, emp, false, []) r0 i5).2)) i5 ((rdOf (0, 0, emp, false, []) (setI r0 i5 (k1, (rdOf (0, 0, emp, false, []) r0 i5).2)) i5).1, w64 (k1 + 1), (rdOf (0, 0, emp, false, []) (setI r0 i5 (k1, (rdOf (0, 0, emp, false, []) r0 i5).2)) i5).2.2)) i5).1, (rdOf (0, 0, emp, false, []) (setI (setI r0 i5 (k1, (rdOf (0, 0, emp, false, []) r0 i5).2)) i5 ((rdOf (0, 0, emp, false, []) (setI r0 i5 (k1, (rdOf (0, 0, emp, false, []) r0 i5).2)) i5).1, w64 (k1 + 1), (rdOf (0, 0, emp, false, []) (setI r0 i5 (k1, (rdOf (0, 0, emp, false, []) r0 i5).2)) i5).2.2)) i5).2.1, c3, (rdOf (0, 0, emp, false, []) (setI (setI r0 i5 (k1, (rdOf (0, 0, emp, false, []) r0 i5).2)) i5 ((rdOf (0, 0, emp, false, []) (setI r0 i5 (k1, (rdOf (0, 0, emp, false, []) r0 i5).2)) i5).1, w64 (k1 + 1), (rdOf (0, 0, emp, false, []) (setI r0 i5 (k1, (rdOf (0, 0, emp, false, []) r0 i5).2)) i5).2.2)) i5).2.2.2)) i5 ((rdOf (0, 0, emp, false, []) (setI (setI (setI r0 i5 (k1, (rdOf (0, 0, emp, false, []) r0 i5).2)) i5 ((rdOf (0, 0, emp, false, []) (setI r0 i5 (k1, (rdOf (0, 0, emp, false, []) r0 i5).2)) i5).1, w64 (k1 + 1), (rdOf (0, 0, emp, false, []) (setI r0 i5 (k1, (rdOf (0, 0, emp, false, []) r0 i5).2)) i5).2.2)) i5 ((rdOf (0, 0, emp, false, []) (setI (setI r0 i5 (k1, (rdOf (0, 0, emp, false, []) r0 i5).2)) i5 ((rdOf (0, 0, emp, false, []) (setI r0 i5 (k1, (rdOf (0, 0, emp, false, []) r0 i5).2)) i5).1, w64 (k1 + 1), (rdOf (0, 0, emp, false, []) (setI r0 i5 (k1, (rdOf (0, 0, emp, false, []) r0 i5).2)) i5).2.2)) i5).1, (rdOf (0, 0, emp, false, []) (setI (setI r0 i5 (k1, (rdOf (0, 0, emp, false, []) r0 i5).2)) i5 ((rdOf (0, 0, emp, false, []) (setI r0 i5 (k1, (rdOf (0, 0, emp, false, []) r0 i5).2)) i5).1, w64 (k1 + 1), (rdOf (0, 0, emp, false, []) (setI r0 i5 (k1, (rdOf (0, 0, emp, false, []) r0 i5).2)) i5).2.2)) i5).2.1, c3, (rdOf (0, 0, emp, false, []) (setI (setI r0 i5 (k1, (rdOf (0, 0, emp, false, []) r0 i5).2)) i5 ((rdOf (0, 0, emp, false, []) (setI r0 i5 (k1, (rdOf (0, 0, emp, false, []) r0 i5).2)) i5).1, w64 (k1 + 1), (rdOf (0, 0, emp, false, []) (setI r0 i5 (k1, (rdOf (0, 0, emp, false, []) r0 i5).2)) i5).2.2)) i5).2.2.2)) i5).1, (rdOf (0, 0, emp, false, []) (setI (setI (setI r0 i5 (k1, (rdOf (0, 0, emp, false, []) r0 i5).2)) i5 ((rdOf (0, 0, emp, false, []) (setI r0 i5 (k1, (rdOf (0, 0, emp, false, []) r0 i5).2)) i5).1, w64 (k1 + 1), (rdOf (0, 0, emp, false, []) (setI r0 i5 (k1, (rdOf (0, 0, emp, false, []) r0 i5).2)) i5).2.2)) i5 ((rdOf (0, 0, emp, false, []) (setI (setI r0 i5 (k1, (rdOf (0, 0, emp, false, []) r0 i5).2)) i5 ((rdOf (0, 0, emp, false, []) (setI r0 i5 (k1, (rdOf (0, 0, emp, false, []) r0 i5).2)) i5).1, w64 (k1 + 1), (rdOf (0, 0, emp, false, []) (setI r0 i5 (k1, (rdOf (0, 0, emp, false, []) r0 i5).2)) i5).2.2)) i5).1, (rdOf (0, 0, emp, false, []) (setI (setI r0 i5 (k1, (rdOf (0, 0, emp, false, []) r0 i5).2)) i5 ((rdOf (0, 0, emp, false, []) (setI r0 i5 (k1, (rdOf (0, 0, emp, false, []) r0 i5).2)) i5).1, w64 (k1 + 1), (rdOf (0, 0, emp, false, []) (setI r0 i5 (k1, (rdOf (0, 0, emp, false, []) r0 i5).2)) i5).2.2)) i5).2.1, c3, (rdOf (0, 0, emp, false, []) (setI (setI r0 i5 (k1, (rdOf (0, 0, emp, false, []) r0 i5).2)) i5 ((rdOf (0, 0, emp, false, []) (setI r0 i5 (k1, (rdOf (0, 0, emp, false, []) r0 i5).2)) i5).1, w64 (k1 + 1), (rdOf (0, 0, emp, false, []) (setI r0 i5 (k1, (rdOf (0, 0, emp, false, []) r0 i5).2)) i5).2.2)) i5).2.2.2)) i5).2.1, (rdOf (0, 0, emp, false, []) (setI (setI (setI r0 i5 (k1, (rdOf (0, 0, emp, false, []) r0 i5).2)) i5 ((rdOf (0, 0, emp, false, []) (setI r0 i5 (k1, (rdOf (0, 0, emp, false, []) r0 i5).2)) i5).1, w64 (k1 + 1), (rdOf (0, 0, emp, false, []) (setI r0 i5 (k1, (rdOf (0, 0, emp, false, []) r0 i5).2)) i5).2.2)) i5 ((rdOf (0, 0, emp, false, []) (setI (setI r0 i5 (k1, (rdOf (0, 0, emp, false, []) r0 i5).2)) i5 ((rdOf (0, 0, emp, false, []) (setI r0 i5 (k1, (rdOf (0, 0, emp, false, []) r0 i5).2)) i5).1, w64 (k1 + 1), (rdOf (0, 0, emp, false, []) (setI r0 i5 (k1, (rdOf (0, 0, emp, false, []) r0 i5).2)) i5).2.2)) i5).1, (rdOf (0, 0, emp, false, []) (setI (setI r0 i5 (k1, (rdOf (0, 0, emp, false, []) r0 i5).2)) i5 ((rdOf (0, 0, emp, false, []) (setI r0 i5 (k1, (rdOf (0, 0, emp, false, []) r0 i5).2)) i5).1, w64 (k1 + 1), (rdOf (0, 0, emp, false, []) (setI r0 i5 (k1, (rdOf (0, 0, emp, false, []) r0 i5).2)) i5).2.2)) i5).2.1, c3, (rdOf (0, 0, emp, false, []) (setI (setI r0 i5 (k1, (rdOf (0, 0, emp, false, []) r0 i5).2)) i5 ((rdOf (0, 0, emp, false, []) (setI r0 i5 (k1, (rdOf (0, 0, emp, false, []) r0 i5).2)) i5).1, w64 (k1 + 1), (rdOf (0, 0, emp, false, []) (setI r0 i5 (k1, (rdOf (0, 0, emp, false, []) r0 i5).2)) i5).2.2)) i5).2.2.2)) i5).2.2.1, (Int.tmod (w64 ((w64 ((w64 (k1 + 1)) + 1)) + 1)) 3 == 0), (rdOf (0, 0, emp, false, []) (setI (setI (setI r0 i5 (k1, (rdOf (0, 0, emp, false, []) r0 i5).2)) i5 ((rdOf (0, 0, emp, false, []) (setI r0 i5 (k1, (rdOf (0, 0, emp, false, []) r0 i5).2)) i5).1, w64 (k1 + 1), (rdOf (0, 0, emp, false, []) (setI r0 i5 (k1, (rdOf (0, 0, emp, false, []) r0 i5).2)) i5).2.2)) i5 ((rdOf (0, 0, emp, false, []) (setI (setI r0 i5 (k1, (rdOf (0, 0, emp, false, []) r0 i5).2)) i5 ((rdOf (0, 0, emp, false, []) (setI r0 i5 (k1, (rdOf (0, 0, emp, false, []) r0 i5).2)) i5).1, w64 (k1 + 1), (rdOf (0, 0, emp, false, []) (setI r0 i5 (k1, (rdOf (0, 0, emp, false, []) r0 i5).2)) i5).2.2)) i5).1, (rdOf (0, 0, emp, false, []) (setI (setI r0 i5 (k1, (rdOf (0, 0, emp, false, []) r0 i5).2)) i5 ((rdOf (0, 0, emp, false, []) (setI r0 i5 (k1, (rdOf (0, 0, emp, false, []) r0 i5).2)) i5).1, w64 (k1 + 1), (rdOf (0, 0, emp, false, []) (setI r0 i5 (k1, (rdOf (0, 0, emp, false, []) r0 i5).2)) i5).2.2)) i5).2.1, c3, (rdOf (0, 0, emp, false, []) (setI (setI r0 i5 (k1, (rdOf (0, 0, emp, false, []) r0 i5).2)) i5 ((rdOf (0, 0, emp, false, []) (setI r0 i5 (k1, (rdOf (0, 0, emp, false, []) r0 i5).2)) i5).1, w64 (k1 + 1), (rdOf (0, 0, emp, false, []) (setI r0 i5 (k1, (rdOf (0, 0, emp, false, []) r0 i5).2)) i5).2.2)) i5).2.2.2)) i5).2.2.2.2)) i5).2.2.2.1, c4_1))
  else
    some (k1, r0)
noncomputable def laws_markSegmentS.g (k : Nat) (k1 : Int) (r0 : List (Int × Int × ByteArray × Bool × List Bool)) : Option (Int × List (Int × Int × ByteArray × Bool × List Bool)) :=
  iter (laws_markSegmentS.s0 k) k (k1, 0, r0)
noncomputable def laws_markSegmentS (k1 : Int) (r0 : List (Int × Int × ByteArray × Bool × List Bool)) : Option (Int × List (Int × Int × ByteArray × Bool × List Bool)) := lim fun k => laws_markSegmentS.g k k1 r0
/-- f33 laws.markSession -/
noncomputable def laws_markSession (a0_0 : ByteArray) (a0_3 : ByteArray) (a0_4 : Bool) (k1 : Int) (r0 : List Bool) (r1 : List Bool) (r2 : List (Int × Int × ByteArray × Bool × List Bool)) (r3 : List (Int × Int × ByteArray × Bool × List Bool)) : Option (Int × List Bool × List Bool × List (Int × Int × ByteArray × Bool × List Bool) × List (Int × Int × ByteArray × Bool × List Bool)) :=
  (laws_markBoolS k1 r0).bind fun (c5_0, c5_1) =>
  (laws_markBoolS c5_0 r1).bind fun (c6_0, c6_1) =>
  (laws_markSegmentS c6_0 r2).bind fun (c7_0, c7_1) =>
  (laws_markSegmentS c7_0 r3).bind fun (c8_0, c8_1) =>
  some (c8_0, c5_1, c6_1, c7_1, c8_1)
/-- f36 laws.heldBoolS -/
noncomputable def laws_heldBoolS.s0 (k : Nat) (go0 : (List Bool × Int × Int) → Option (Int)) : (List Bool × Int × Int) → Option (Int) := fun (a0, k1, i5) =>
  bif decide (i5 < (a0.length : Int)) then
    grd (decide (0 ≤ i5)) <| grd (decide (i5 < (a0.length : Int))) <|
    bif (!(rdOf false a0 i5 == (Int.tmod k1 3 == 0))) then
      some (-1)
    else
      go0 (a0, w64 (k1 + 1), w64 (i5 + 1))
  else
    some k1
noncomputable def laws_heldBoolS.g (k : Nat) (a0 : List Bool) (k1 : Int) : Option (Int) :=
  iter (laws_heldBoolS.s0 k) k (a0, k1, 0)
noncomputable def laws_heldBoolS (a0 : List Bool) (k1 : Int) : Option (Int) := lim fun k => laws_heldBoolS.g k a0 k1
/-- f70 laws.heldSegmentS -/
noncomputable def laws_heldSegmentS.s0 (k : Nat) (go0 : (List (Int × Int × ByteArray × Bool × List Bool) × Int × Int) → Option (Int)) : (List (Int × Int × ByteArray × Bool × List Bool) × Int × Int) → Option (Int) := fun (a0, k1, i5) =>
  bif decide (i5 < (a0.length : Int)) then
    grd (decide (0 ≤ i5)) <| grd (decide (i5 < (a0.length : Int))) <|
    bif ((rdOf (0, 0, emp, false, []) a0 i5).1 != k1) then
      some (-1)
    else
      grd (decide (0 ≤ i5)) <| grd (decide (i5 < (a0.length : Int))) <|
      bif ((rdOf (0, 0, emp, false, []) a0 i5).2.1 != w64 (k1 + 1)) then
        some (-1)
      else
        grd (decide (0 ≤ i5)) <| grd (decide (i5 < (a0.length : Int))) <|
        (laws_markText (w64 ((w64 (k1 + 1)) + 1))).bind fun c1 =>
        bif (!((rdOf (0, 0, emp, false, []) a0 i5).2.2.1.toList == c1.toList)) then
          some (-1)
        else
          grd (decide (0 ≤ i5)) <| grd (decide (i5 < (a0.length : Int))) <|
          bif (!((rdOf (0, 0, emp, false, []) a0 i5).2.2.2.1 == (Int.tmod (w64 ((w64 ((w64 (k1 + 1)) + 1)) + 1)) 3 == 0))) then
            some (-1)
          else
            grd (decide (0 ≤ i5)) <| grd (decide (i5 < (a0.length : Int))) <|
            (laws_heldBoolS (rdOf (0, 0, emp, false, []) a0 i5).2.2.2.2 (w64 ((w64 ((w64 ((w64 (k1 + 1)) + 1)) + 1)) + 1))).bind fun c2 =>
            bif decide (c2 < 0) then
              some (-1)
            else
              go0 (a0, c2, w64 (i5 + 1))
  else
    some k1
noncomputable def laws_heldSegmentS.g (k : Nat) (a0 : List (Int × Int × ByteArray × Bool × List Bool)) (k1 : Int) : Option (Int) :=
  iter (laws_heldSegmentS.s0 k) k (a0, k1, 0)
noncomputable def laws_heldSegmentS (a0 : List (Int × Int × ByteArray × Bool × List Bool)) (k1 : Int) : Option (Int) := lim fun k => laws_heldSegmentS.g k a0 k1
/-- f35 laws.heldSession -/
noncomputable def laws_heldSession (a0_0 : ByteArray) (a0_1 : List Bool) (a0_2 : List Bool) (a0_3 : ByteArray) (a0_4 : Bool) (a0_5 : List (Int × Int × ByteArray × Bool × List Bool)) (a0_6 : List (Int × Int × ByteArray × Bool × List Bool)) (k1 : Int) : Option (Int) :=
  (laws_heldBoolS a0_1 k1).bind fun c2 =>
  bif decide (c2 < 0) then
    some (-1)
  else
    (laws_heldBoolS a0_2 c2).bind fun c3 =>
    bif decide (c3 < 0) then
      some (-1)
    else
      (laws_heldSegmentS a0_5 c3).bind fun c4 =>
      bif decide (c4 < 0) then
        some (-1)
      else
        (laws_heldSegmentS a0_6 c4).bind fun c5 =>
        bif decide (c5 < 0) then
          some (-1)
        else
          some c5
/-- f5 laws.FnExactPlaySession -/
noncomputable def laws_FnExactPlaySession (aBlock0 : ByteArray) (aL1 : List (Int × Bool × Int)) : Option (Bool) :=
  bif decide ((aBlock0.size : Int) > 1048576) then
    some true
  else
    (laws_szSesStepS aL1 1048576).bind fun c1 =>
    bif decide (c1 < 0) then
      some true
    else
      (laws_toSesStepS aL1).bind fun c2 =>
      (spec_PlaySession aBlock0 c2).bind fun (c3_0, c3_1, c3_2, c3_3, c3_4, c3_5, c3_6, c3_7, c3_8) =>
      (laws_toSesStepS aL1).bind fun c4 =>
      (impl_PlaySession aBlock0 c4).bind fun (c5_0, c5_1, c5_2, c5_3, c5_4, c5_5, c5_6, c5_7, c5_8) =>
      (laws_eqSession c5_0 c5_4 c5_5 c5_1 c5_2 c5_6 c5_7 c3_0 c3_4 c3_5 c3_1 c3_2 c3_6 c3_7).bind fun c6 =>
      bif (!c6) then
        some false
      else
        (laws_eqBoolS c5_8 c3_8).bind fun c7 =>
        bif (!c7) then
          some false
        else
          bif (!(c5_3 == c3_3)) then
            some false
          else
            (laws_toSesStepS aL1).bind fun c8 =>
            (laws_eqSesStepS c4 c8).bind fun c9 =>
            bif (!c9) then
              some false
            else
              (laws_markSesStepS 1 c4).bind fun (c10_0, c10_1) =>
              bif decide (c10_0 < 0) then
                some false
              else
                (laws_eqSession c5_0 c5_4 c5_5 c5_1 c5_2 c5_6 c5_7 c3_0 c3_4 c3_5 c3_1 c3_2 c3_6 c3_7).bind fun c11 =>
                bif (!c11) then
                  some false
                else
                  (laws_eqBoolS c5_8 c3_8).bind fun c12 =>
                  bif (!c12) then
                    some false
                  else
                    bif (!(c5_3 == c3_3)) then
                      some false
                    else
                      (laws_markSession c5_0 c5_1 c5_2 1 c5_4 c5_5 c5_6 c5_7).bind fun (c13_0, c13_1, c13_2, c13_3, c13_4) =>
                      (laws_markBoolS c13_0 c5_8).bind fun (c14_0, c14_1) =>
                      (laws_heldSession c5_0 c13_1 c13_2 c5_1 c5_2 c13_3 c13_4 1).bind fun c15 =>
                      bif decide (c15 < 0) then
                        some false
                      else
                        (laws_heldBoolS c14_1 c15).bind fun c16 =>
                        bif decide (c16 < 0) then
                          some false
                        else
                          bif (c16 != c14_0) then
                            some false
                          else
                            (laws_toSesStepS aL1).bind fun c17 =>
                            (impl_PlaySession aBlock0 c17).bind fun (c18_0, c18_1, c18_2, c18_3, c18_4, c18_5, c18_6, c18_7, c18_8) =>
                            (laws_eqSession c18_0 c18_4 c18_5 c18_1 c18_2 c18_6 c18_7 c3_0 c3_4 c3_5 c3_1 c3_2 c3_6 c3_7).bind fun c19 =>
                            bif (!c19) then
                              some false
                            else
                              (laws_eqBoolS c18_8 c3_8).bind fun c20 =>
                              bif (!c20) then
                                some false
                              else
                                bif (!(c18_3 == c3_3)) then
                                  some false
                                else
                                  (laws_heldSession c5_0 c13_1 c13_2 c5_1 c5_2 c13_3 c13_4 1).bind fun c21 =>
                                  bif decide (c21 < 0) then
                                    some false
                                  else
                                    (laws_heldBoolS c14_1 c21).bind fun c22 =>
                                    bif decide (c22 < 0) then
                                      some false
                                    else
                                      bif (c22 != c14_0) then
                                        some false
                                      else
                                        some true
/-- f50 impl.below -/
noncomputable def impl_below.s0 (k : Nat) (go0 : (List Bool × List Bool × Int × Int) → Option (Bool)) : (List Bool × List Bool × Int × Int) → Option (Bool) := fun (b1, t12, t13, t14) =>
  bif decide (t14 < t13) then
    grd (decide (0 ≤ t14)) <| grd (decide (t14 < (t12.length : Int))) <|
    bif rdOf false t12 t14 then
      grd (decide (0 ≤ t14)) <| grd (decide (t14 < (b1.length : Int))) <|
      bif (!rdOf false b1 t14) then
        some false
      else
        go0 (b1, t12, t13, w64 (t14 + 1))
    else
      go0 (b1, t12, t13, w64 (t14 + 1))
  else
    some true
noncomputable def impl_below.g (k : Nat) (a0 : List Bool) (b1 : List Bool) : Option (Bool) :=
  bif ((a0.length : Int) != (b1.length : Int)) then
    some false
  else
    iter (impl_below.s0 k) k (b1, a0, (a0.length : Int), 0)
noncomputable def impl_below (a0 : List Bool) (b1 : List Bool) : Option (Bool) := lim fun k => impl_below.g k a0 b1
/-- f14 impl.GoodSession -/
noncomputable def impl_GoodSession.s2 (k : Nat) (go2 : (List (Int × Int × ByteArray × Bool × List Bool) × Int × Int × ByteArray × List Bool × List Bool × ByteArray × Bool × List (Int × Int × ByteArray × Bool × List Bool) × List (Int × Int × ByteArray × Bool × List Bool)) → Option (Bool)) : (List (Int × Int × ByteArray × Bool × List Bool) × Int × Int × ByteArray × List Bool × List Bool × ByteArray × Bool × List (Int × Int × ByteArray × Bool × List Bool) × List (Int × Int × ByteArray × Bool × List Bool)) → Option (Bool) := fun (t93, t94, t95, b0_0, b0_1, b0_2, b0_3, b0_4, b0_5, b0_6) =>
  bif decide (t95 < t94) then
    grd (decide (0 ≤ t95)) <| grd (decide (t95 < (t93.length : Int))) <|
    bif ((rdOf (0, 0, emp, false, []) t93 t95).1 != 2) then
      some false
    else
      bif ((rdOf (0, 0, emp, false, []) t93 t95).2.1 != 0) then
        some false
      else
        bif (!((rdOf (0, 0, emp, false, []) t93 t95).2.2.1.toList == emp.toList)) then
          some false
        else
          bif (rdOf (0, 0, emp, false, []) t93 t95).2.2.2.1 then
            some false
          else
            (impl_below (rdOf (0, 0, emp, false, []) t93 t95).2.2.2.2 b0_2).bind fun c21 =>
            bif (!c21) then
              some false
            else
              go2 (t93, t94, w64 (t95 + 1), b0_0, b0_1, b0_2, b0_3, b0_4, b0_5, b0_6)
  else
    some true
noncomputable def impl_GoodSession.s0 (k : Nat) (go0 : (List (Int × Int × ByteArray × Bool × List Bool) × Int × Int × ByteArray × List Bool × List Bool × ByteArray × Bool × List (Int × Int × ByteArray × Bool × List Bool) × List (Int × Int × ByteArray × Bool × List Bool)) → Option (Bool)) : (List (Int × Int × ByteArray × Bool × List Bool) × Int × Int × ByteArray × List Bool × List Bool × ByteArray × Bool × List (Int × Int × ByteArray × Bool × List Bool) × List (Int × Int × ByteArray × Bool × List Bool)) → Option (Bool) := fun (t56, t57, t58, b0_0, b0_1, b0_2, b0_3, b0_4, b0_5, b0_6) =>
  bif decide (t58 < t57) then
    grd (decide (0 ≤ t58)) <| grd (decide (t58 < (t56.length : Int))) <|
    bif ((rdOf (0, 0, emp, false, []) t56 t58).1 != 1) then
      some false
    else
      (impl_within (rdOf (0, 0, emp, false, []) t56 t58).2.1 0 (w64 ((b0_2.length : Int) - 1))).bind fun c19 =>
      bif (!c19) then
        some false
      else
        (impl_segment b0_0 (rdOf (0, 0, emp, false, []) t56 t58).2.1).bind fun c20 =>
        bif (!((rdOf (0, 0, emp, false, []) t56 t58).2.2.1.toList == c20.toList)) then
          some false
        else
          bif (((rdOf (0, 0, emp, false, []) t56 t58).2.2.2.2.length : Int) != 0) then
            some false
          else
            go0 (t56, t57, w64 (t58 + 1), b0_0, b0_1, b0_2, b0_3, b0_4, b0_5, b0_6)
  else
    iter (impl_GoodSession.s2 k) k (b0_6, (b0_6.length : Int), 0, b0_0, b0_1, b0_2, b0_3, b0_4, b0_5, b0_6)
noncomputable def impl_GoodSession.g (k : Nat) (s0_0 : ByteArray) (s0_1 : List Bool) (s0_2 : List Bool) (s0_3 : ByteArray) (s0_4 : Bool) (s0_5 : List (Int × Int × ByteArray × Bool × List Bool)) (s0_6 : List (Int × Int × ByteArray × Bool × List Bool)) : Option (Bool) :=
  (impl_isBlock s0_0).bind fun c14 =>
  bif (!c14) then
    some false
  else
    (impl_many s0_0).bind fun c15 =>
    bif ((s0_2.length : Int) != c15) then
      some false
    else
      (impl_below s0_1 s0_2).bind fun c16 =>
      bif (!c16) then
        some false
      else
        (impl_Session_bytes s0_0 s0_1 s0_2 s0_3 s0_4 s0_5 s0_6).bind fun c17 =>
        bif (!(s0_3.toList == c17.toList)) then
          some false
        else
          (impl_isAll s0_1).bind fun c18 =>
          bif (!(s0_4 == c18)) then
            some false
          else
            bif decide ((s0_5.length : Int) > 30) then
              some false
            else
              bif decide ((s0_6.length : Int) > 30) then
                some false
              else
                iter (impl_GoodSession.s0 k) k (s0_5, (s0_5.length : Int), 0, s0_0, s0_1, s0_2, s0_3, s0_4, s0_5, s0_6)
noncomputable def impl_GoodSession (s0_0 : ByteArray) (s0_1 : List Bool) (s0_2 : List Bool) (s0_3 : ByteArray) (s0_4 : Bool) (s0_5 : List (Int × Int × ByteArray × Bool × List Bool)) (s0_6 : List (Int × Int × ByteArray × Bool × List Bool)) : Option (Bool) := lim fun k => impl_GoodSession.g k s0_0 s0_1 s0_2 s0_3 s0_4 s0_5 s0_6
/-- f54 (impl.Session).copied -/
noncomputable def impl_Session_copied.s2 (k : Nat) (go2 : (List (Int × Int × ByteArray × Bool × List Bool) × Int × Int × ByteArray × ByteArray × Bool × List (Int × Int × ByteArray × Bool × List Bool) × List (Int × Int × ByteArray × Bool × List Bool) × ByteArray × ByteArray × Bool × List (Int × Int × ByteArray × Bool × List Bool) × List (Int × Int × ByteArray × Bool × List Bool) × List Bool × List Bool) → Option (ByteArray × ByteArray × Bool × List Bool × List Bool × List (Int × Int × ByteArray × Bool × List Bool) × List (Int × Int × ByteArray × Bool × List Bool))) : (List (Int × Int × ByteArray × Bool × List Bool) × Int × Int × ByteArray × ByteArray × Bool × List (Int × Int × ByteArray × Bool × List Bool) × List (Int × Int × ByteArray × Bool × List Bool) × ByteArray × ByteArray × Bool × List (Int × Int × ByteArray × Bool × List Bool) × List (Int × Int × ByteArray × Bool × List Bool) × List Bool × List Bool) → Option (ByteArray × ByteArray × Bool × List Bool × List Bool × List (Int × Int × ByteArray × Bool × List Bool) × List (Int × Int × ByteArray × Bool × List Bool)) := fun (t33, t34, t35, b0_0, b0_3, b0_4, b0_5, b0_6, b1_0, b1_3, b1_4, r2, r3, r4, r5) =>
  bif decide (t35 < t34) then
    grd (decide (0 ≤ t35)) <| grd (decide (t35 < (t33.length : Int))) <|
    (impl_Segment_copied (rdOf (0, 0, emp, false, []) t33 t35).1 (rdOf (0, 0, emp, false, []) t33 t35).2.1 (rdOf (0, 0, emp, false, []) t33 t35).2.2.1 (rdOf (0, 0, emp, false, []) t33 t35).2.2.2.1 (rdOf (0, 0, emp, false, []) t33 t35).2.2.2.2).bind fun (c13_0, c13_1, c13_2, c13_3, c13_4) =>
    grd (decide ((r3.length + 1) * 64 ≤ 140737488355328)) <|
    go2 (t33, t34, w64 (t35 + 1), b0_0, b0_3, b0_4, b0_5, b0_6, b1_0, b1_3, b1_4, r2, r3 ++ [(c13_0, c13_1, c13_2, c13_3, c13_4)], r4, r5)
  else
    some (b0_0, b0_3, b0_4, r4, r5, r2, r3)
noncomputable def impl_Session_copied.s0 (k : Nat) (go0 : (List (Int × Int × ByteArray × Bool × List Bool) × Int × Int × ByteArray × ByteArray × Bool × List (Int × Int × ByteArray × Bool × List Bool) × List (Int × Int × ByteArray × Bool × List Bool) × ByteArray × ByteArray × Bool × List (Int × Int × ByteArray × Bool × List Bool) × List (Int × Int × ByteArray × Bool × List Bool) × List Bool × List Bool) → Option (ByteArray × ByteArray × Bool × List Bool × List Bool × List (Int × Int × ByteArray × Bool × List Bool) × List (Int × Int × ByteArray × Bool × List Bool))) : (List (Int × Int × ByteArray × Bool × List Bool) × Int × Int × ByteArray × ByteArray × Bool × List (Int × Int × ByteArray × Bool × List Bool) × List (Int × Int × ByteArray × Bool × List Bool) × ByteArray × ByteArray × Bool × List (Int × Int × ByteArray × Bool × List Bool) × List (Int × Int × ByteArray × Bool × List Bool) × List Bool × List Bool) → Option (ByteArray × ByteArray × Bool × List Bool × List Bool × List (Int × Int × ByteArray × Bool × List Bool) × List (Int × Int × ByteArray × Bool × List Bool)) := fun (t20, t21, t22, b0_0, b0_3, b0_4, b0_5, b0_6, b1_0, b1_3, b1_4, r2, r3, r4, r5) =>
  bif decide (t22 < t21) then
    grd (decide (0 ≤ t22)) <| grd (decide (t22 < (t20.length : Int))) <|
    (impl_Segment_copied (rdOf (0, 0, emp, false, []) t20 t22).1 (rdOf (0, 0, emp, false, []) t20 t22).2.1 (rdOf (0, 0, emp, false, []) t20 t22).2.2.1 (rdOf (0, 0, emp, false, []) t20 t22).2.2.2.1 (rdOf (0, 0, emp, false, []) t20 t22).2.2.2.2).bind fun (c12_0, c12_1, c12_2, c12_3, c12_4) =>
    grd (decide ((r2.length + 1) * 64 ≤ 140737488355328)) <|
    go0 (t20, t21, w64 (t22 + 1), b0_0, b0_3, b0_4, b0_5, b0_6, b1_0, b1_3, b1_4, r2 ++ [(c12_0, c12_1, c12_2, c12_3, c12_4)], r3, r4, r5)
  else
    iter (impl_Session_copied.s2 k) k (b0_6, (b0_6.length : Int), 0, b0_0, b0_3, b0_4, b0_5, b0_6, b1_0, b1_3, b1_4, r2, r3, r4, r5)
noncomputable def impl_Session_copied.g (k : Nat) (s0_0 : ByteArray) (s0_1 : List Bool) (s0_2 : List Bool) (s0_3 : ByteArray) (s0_4 : Bool) (s0_5 : List (Int × Int × ByteArray × Bool × List Bool)) (s0_6 : List (Int × Int × ByteArray × Bool × List Bool)) : Option (ByteArray × ByteArray × Bool × List Bool × List Bool × List (Int × Int × ByteArray × Bool × List Bool) × List (Int × Int × ByteArray × Bool × List Bool)) :=
  (cloneF 1 s0_1).bind fun c10 =>
  (cloneF 1 s0_2).bind fun c11 =>
  iter (impl_Session_copied.s0 k) k (s0_5, (s0_5.length : Int), 0, s0_0, s0_3, s0_4, s0_5, s0_6, emp, emp, false, [], [], c10, c11)
noncomputable def impl_Session_copied (s0_0 : ByteArray) (s0_1 : List Bool) (s0_2 : List Bool) (s0_3 : ByteArray) (s0_4 : Bool) (s0_5 : List (Int × Int × ByteArray × Bool × List Bool)) (s0_6 : List (Int × Int × ByteArray × Bool × List Bool)) : Option (ByteArray × ByteArray × Bool × List Bool × List Bool × List (Int × Int × ByteArray × Bool × List Bool) × List (Int × Int × ByteArray × Bool × List Bool)) := lim fun k => impl_Session_copied.g k s0_0 s0_1 s0_2 s0_3 s0_4 s0_5 s0_6
/-- f17 impl.StepSession -/
noncomputable def impl_StepSession (s0_0 : ByteArray) (s0_1 : List Bool) (s0_2 : List Bool) (s0_3 : ByteArray) (s0_4 : Bool) (s0_5 : List (Int × Int × ByteArray × Bool × List Bool)) (s0_6 : List (Int × Int × ByteArray × Bool × List Bool)) (x1_0 : Int) (x1_1 : Bool) (x1_2 : Int) : Option (ByteArray × ByteArray × Bool × Bool × List Bool × List Bool × List (Int × Int × ByteArray × Bool × List Bool) × List (Int × Int × ByteArray × Bool × List Bool)) :=
  (impl_GoodSession s0_0 s0_1 s0_2 s0_3 s0_4 s0_5 s0_6).bind fun c5 =>
  bif (!c5) then
    some (emp, emp, false, false, [], [], [], [])
  else
    (impl_Session_copied s0_0 s0_1 s0_2 s0_3 s0_4 s0_5 s0_6).bind fun (c6_0, c6_1, c6_2, c6_3, c6_4, c6_5, c6_6) =>
    (impl_Session_step x1_0 x1_1 x1_2 c6_0 c6_1 c6_2 c6_3 c6_4 c6_5 c6_6).bind fun (c7_0, c7_1, c7_2, c7_3, c7_4, c7_5, c7_6, c7_7) =>
    bif (!c7_0) then
      some (emp, emp, false, false, [], [], [], [])
    else
      some (c7_1, c7_2, c7_3, true, c7_4, c7_5, c7_6, c7_7)
/-- f60 spec.l5Within -/
noncomputable def spec_l5Within.s0 (k : Nat) (go0 : (List Bool × List Bool × Int × Int) → Option (Bool)) : (List Bool × List Bool × Int × Int) → Option (Bool) := fun (a0, b1, t12, t13) =>
  bif decide (t13 < t12) then
    grd (decide (0 ≤ t13)) <| grd (decide (t13 < (a0.length : Int))) <|
    bif rdOf false a0 t13 then
      grd (decide (0 ≤ t13)) <| grd (decide (t13 < (b1.length : Int))) <|
      bif (!rdOf false b1 t13) then
        some false
      else
        go0 (a0, b1, t12, w64 (t13 + 1))
    else
      go0 (a0, b1, t12, w64 (t13 + 1))
  else
    some true
noncomputable def spec_l5Within.g (k : Nat) (a0 : List Bool) (b1 : List Bool) : Option (Bool) :=
  bif ((a0.length : Int) != (b1.length : Int)) then
    some false
  else
    iter (spec_l5Within.s0 k) k (a0, b1, (a0.length : Int), 0)
noncomputable def spec_l5Within (a0 : List Bool) (b1 : List Bool) : Option (Bool) := lim fun k => spec_l5Within.g k a0 b1
/-- f63 spec.l5Segment -/
noncomputable def spec_l5Segment (s0_0 : ByteArray) (s0_1 : List Bool) (s0_2 : List Bool) (s0_3 : ByteArray) (s0_4 : Bool) (s0_5 : List (Int × Int × ByteArray × Bool × List Bool)) (s0_6 : List (Int × Int × ByteArray × Bool × List Bool)) (x1_0 : Int) (x1_1 : Int) (x1_2 : ByteArray) (x1_3 : Bool) (x1_4 : List Bool) (back2 : Bool) : Option (Bool) :=
  bif back2 then
    bif (x1_0 == 2) then
      bif (x1_1 == 0) then
        bif (x1_2.toList == emp.toList) then
          bif (!x1_3) then
            (spec_l5Within x1_4 s0_2).bind fun c2 =>
            some c2
          else
            some false
        else
          some false
      else
        some false
    else
      some false
  else
    bif (x1_0 == 1) then
      bif decide (x1_1 ≥ 0) then
        (spec_l5Many s0_0 s0_1 s0_2 s0_3 s0_4 s0_5 s0_6).bind fun c3 =>
        bif decide (x1_1 < c3) then
          (spec_l5Text s0_0 s0_1 s0_2 s0_3 s0_4 s0_5 s0_6 x1_1).bind fun c4 =>
          bif (x1_2.toList == c4.toList) then
            some ((x1_4.length : Int) == 0)
          else
            some false
        else
          some false
      else
        some false
    else
      some false
/-- f19 spec.GoodSession -/
noncomputable def spec_GoodSession.s2 (k : Nat) (go2 : (List (Int × Int × ByteArray × Bool × List Bool) × Int × Int × ByteArray × List Bool × List Bool × ByteArray × Bool × List (Int × Int × ByteArray × Bool × List Bool) × List (Int × Int × ByteArray × Bool × List Bool)) → Option (Bool)) : (List (Int × Int × ByteArray × Bool × List Bool) × Int × Int × ByteArray × List Bool × List Bool × ByteArray × Bool × List (Int × Int × ByteArray × Bool × List Bool) × List (Int × Int × ByteArray × Bool × List Bool)) → Option (Bool) := fun (t68, t69, t70, b0_0, b0_1, b0_2, b0_3, b0_4, b0_5, b0_6) =>
  bif decide (t70 < t69) then
    grd (decide (0 ≤ t70)) <| grd (decide (t70 < (t68.length : Int))) <|
    (spec_l5Segment b0_0 b0_1 b0_2 b0_3 b0_4 b0_5 b0_6 (rdOf (0, 0, emp, false, []) t68 t70).1 (rdOf (0, 0, emp, false, []) t68 t70).2.1 (rdOf (0, 0, emp, false, []) t68 t70).2.2.1 (rdOf (0, 0, emp, false, []) t68 t70).2.2.2.1 (rdOf (0, 0, emp, false, []) t68 t70).2.2.2.2 true).bind fun c19 =>
    bif (!c19) then
      some false
    else
      go2 (t68, t69, w64 (t70 + 1), b0_0, b0_1, b0_2, b0_3, b0_4, b0_5, b0_6)
  else
    some true
noncomputable def spec_GoodSession.s0 (k : Nat) (go0 : (List (Int × Int × ByteArray × Bool × List Bool) × Int × Int × ByteArray × List Bool × List Bool × ByteArray × Bool × List (Int × Int × ByteArray × Bool × List Bool) × List (Int × Int × ByteArray × Bool × List Bool)) → Option (Bool)) : (List (Int × Int × ByteArray × Bool × List Bool) × Int × Int × ByteArray × List Bool × List Bool × ByteArray × Bool × List (Int × Int × ByteArray × Bool × List Bool) × List (Int × Int × ByteArray × Bool × List Bool)) → Option (Bool) := fun (t56, t57, t58, b0_0, b0_1, b0_2, b0_3, b0_4, b0_5, b0_6) =>
  bif decide (t58 < t57) then
    grd (decide (0 ≤ t58)) <| grd (decide (t58 < (t56.length : Int))) <|
    (spec_l5Segment b0_0 b0_1 b0_2 b0_3 b0_4 b0_5 b0_6 (rdOf (0, 0, emp, false, []) t56 t58).1 (rdOf (0, 0, emp, false, []) t56 t58).2.1 (rdOf (0, 0, emp, false, []) t56 t58).2.2.1 (rdOf (0, 0, emp, false, []) t56 t58).2.2.2.1 (rdOf (0, 0, emp, false, []) t56 t58).2.2.2.2 false).bind fun c18 =>
    bif (!c18) then
      some false
    else
      go0 (t56, t57, w64 (t58 + 1), b0_0, b0_1, b0_2, b0_3, b0_4, b0_5, b0_6)
  else
    iter (spec_GoodSession.s2 k) k (b0_6, (b0_6.length : Int), 0, b0_0, b0_1, b0_2, b0_3, b0_4, b0_5, b0_6)
noncomputable def spec_GoodSession.g (k : Nat) (s0_0 : ByteArray) (s0_1 : List Bool) (s0_2 : List Bool) (s0_3 : ByteArray) (s0_4 : Bool) (s0_5 : List (Int × Int × ByteArray × Bool × List Bool)) (s0_6 : List (Int × Int × ByteArray × Bool × List Bool)) : Option (Bool) :=
  (spec_l1In (s0_0.size : Int) 1 40).bind fun c13 =>
  bif (!c13) then
    some false
  else
    (spec_l5Many s0_0 s0_1 s0_2 s0_3 s0_4 s0_5 s0_6).bind fun c14 =>
    bif ((s0_2.length : Int) != c14) then
      some false
    else
      (spec_l5Within s0_1 s0_2).bind fun c15 =>
      bif (!c15) then
        some false
      else
        (spec_l5Bytes s0_0 s0_1 s0_2 s0_3 s0_4 s0_5 s0_6).bind fun c16 =>
        bif (!(s0_3.toList == c16.toList)) then
          some false
        else
          (spec_l5AllTrue s0_1).bind fun c17 =>
          bif (!(s0_4 == c17)) then
            some false
          else
            bif decide ((s0_5.length : Int) > 30) then
              some false
            else
              bif decide ((s0_6.length : Int) > 30) then
                some false
              else
                iter (spec_GoodSession.s0 k) k (s0_5, (s0_5.length : Int), 0, s0_0, s0_1, s0_2, s0_3, s0_4, s0_5, s0_6)
noncomputable def spec_GoodSession (s0_0 : ByteArray) (s0_1 : List Bool) (s0_2 : List Bool) (s0_3 : ByteArray) (s0_4 : Bool) (s0_5 : List (Int × Int × ByteArray × Bool × List Bool)) (s0_6 : List (Int × Int × ByteArray × Bool × List Bool)) : Option (Bool) := lim fun k => spec_GoodSession.g k s0_0 s0_1 s0_2 s0_3 s0_4 s0_5 s0_6
/-- f18 spec.StepSession -/
noncomputable def spec_StepSession (s0_0 : ByteArray) (s0_1 : List Bool) (s0_2 : List Bool) (s0_3 : ByteArray) (s0_4 : Bool) (s0_5 : List (Int × Int × ByteArray × Bool × List Bool)) (s0_6 : List (Int × Int × ByteArray × Bool × List Bool)) (x1_0 : Int) (x1_1 : Bool) (x1_2 : Int) : Option (ByteArray × ByteArray × Bool × Bool × List Bool × List Bool × List (Int × Int × ByteArray × Bool × List Bool) × List (Int × Int × ByteArray × Bool × List Bool)) :=
  (spec_GoodSession s0_0 s0_1 s0_2 s0_3 s0_4 s0_5 s0_6).bind fun c5 =>
  bif (!c5) then
    some (emp, emp, false, false, [], [], [], [])
  else
    (spec_l5Own s0_0 s0_1 s0_2 s0_3 s0_4 s0_5 s0_6).bind fun (c6_0, c6_1, c6_2, c6_3, c6_4, c6_5, c6_6) =>
    (spec_l5Step c6_0 c6_1 c6_2 x1_0 x1_1 x1_2 c6_3 c6_4 c6_5 c6_6).bind fun (c7_0, c7_1, c7_2, c7_3, c7_4, c7_5, c7_6, c7_7) =>
    bif (!c7_3) then
      some (emp, emp, false, false, [], [], [], [])
    else
      some (c7_0, c7_1, c7_2, true, c7_4, c7_5, c7_6, c7_7)
/-- f71 laws.szBoolS -/
noncomputable def laws_szBoolS (a0 : List Bool) (left1 : Int) : Option (Int) :=
  bif decide (w64 (left1 - (a0.length : Int)) < 0) then
    some (-1)
  else
    some (w64 (left1 - (a0.length : Int)))
/-- f90 laws.szSegment -/
noncomputable def laws_szSegment (a0_0 : Int) (a0_1 : Int) (a0_2 : ByteArray) (a0_3 : Bool) (a0_4 : List Bool) (left1 : Int) : Option (Int) :=
  bif decide (w64 (left1 - (a0_2.size : Int)) < 0) then
    some (-1)
  else
    (laws_szBoolS a0_4 (w64 (left1 - (a0_2.size : Int)))).bind fun c1 =>
    bif decide (c1 < 0) then
      some (-1)
    else
      some c1
/-- f72 laws.szSegmentS -/
noncomputable def laws_szSegmentS.s0 (k : Nat) (go0 : (List (Int × Int × ByteArray × Bool × List Bool) × Int × Int) → Option (Int)) : (List (Int × Int × ByteArray × Bool × List Bool) × Int × Int) → Option (Int) := fun (a0, left1, i5) =>
  bif decide (i5 < (a0.length : Int)) then
    grd (decide (0 ≤ i5)) <| grd (decide (i5 < (a0.length : Int))) <|
    (laws_szSegment (rdOf (0, 0, emp, false, []) a0 i5).1 (rdOf (0, 0, emp, false, []) a0 i5).2.1 (rdOf (0, 0, emp, false, []) a0 i5).2.2.1 (rdOf (0, 0, emp, false, []) a0 i5).2.2.2.1 (rdOf (0, 0, emp, false, []) a0 i5).2.2.2.2 left1).bind fun c1 =>
    bif decide (c1 < 0) then
      some (-1)
    else
      go0 (a0, c1, w64 (i5 + 1))
  else
    some left1
noncomputable def laws_szSegmentS.g (k : Nat) (a0 : List (Int × Int × ByteArray × Bool × List Bool)) (left1 : Int) : Option (Int) :=
  bif decide (w64 (left1 - (a0.length : Int)) < 0) then
    some (-1)
  else
    iter (laws_szSegmentS.s0 k) k (a0, w64 (left1 - (a0.length : Int)), 0)
noncomputable def laws_szSegmentS (a0 : List (Int × Int × ByteArray × Bool × List Bool)) (left1 : Int) : Option (Int) := lim fun k => laws_szSegmentS.g k a0 left1
/-- f37 laws.szSession -/
noncomputable def laws_szSession (a0_0 : ByteArray) (a0_1 : List Bool) (a0_2 : List Bool) (a0_3 : ByteArray) (a0_4 : Bool) (a0_5 : List (Int × Int × ByteArray × Bool × List Bool)) (a0_6 : List (Int × Int × ByteArray × Bool × List Bool)) (left1 : Int) : Option (Int) :=
  bif decide (w64 (left1 - (a0_0.size : Int)) < 0) then
    some (-1)
  else
    (laws_szBoolS a0_1 (w64 (left1 - (a0_0.size : Int)))).bind fun c1 =>
    bif decide (c1 < 0) then
      some (-1)
    else
      (laws_szBoolS a0_2 c1).bind fun c2 =>
      bif decide (c2 < 0) then
        some (-1)
      else
        bif decide (w64 (c2 - (a0_3.size : Int)) < 0) then
          some (-1)
        else
          (laws_szSegmentS a0_5 (w64 (c2 - (a0_3.size : Int)))).bind fun c3 =>
          bif decide (c3 < 0) then
            some (-1)
          else
            (laws_szSegmentS a0_6 c3).bind fun c4 =>
            bif decide (c4 < 0) then
              some (-1)
            else
              some c4
/-- f73 laws.toBoolS -/
noncomputable def laws_toBoolS.s0 (k : Nat) (go0 : (List Bool × Int × List Bool) → Option (List Bool)) : (List Bool × Int × List Bool) → Option (List Bool) := fun (a0, i4, r0) =>
  bif decide (i4 < (a0.length : Int)) then
    grd (decide (0 ≤ i4)) <| grd (decide (i4 < (a0.length : Int))) <| grd (decide (0 ≤ i4)) <| grd (decide (i4 < (r0.length : Int))) <|
    go0 (a0, w64 (i4 + 1), setI r0 i4 (rdOf false a0 i4))
  else
    some r0
noncomputable def laws_toBoolS.g (k : Nat) (a0 : List Bool) : Option (List Bool) :=
  grd ((a0.length : Int) == (a0.length : Int)) <| grd (decide (0 ≤ (a0.length : Int))) <| grd (decide (((a0.length : Int)).toNat * 1 ≤ 140737488355328)) <|
  iter (laws_toBoolS.s0 k) k (a0, 0, List.replicate ((a0.length : Int)).toNat false)
noncomputable def laws_toBoolS (a0 : List Bool) : Option (List Bool) := lim fun k => laws_toBoolS.g k a0
/-- f91 laws.toSegment -/
noncomputable def laws_toSegment (a0_0 : Int) (a0_1 : Int) (a0_2 : ByteArray) (a0_3 : Bool) (a0_4 : List Bool) : Option (Int × Int × ByteArray × Bool × List Bool) :=
  (laws_toBoolS a0_4).bind fun c2 =>
  some (a0_0, a0_1, a0_2, a0_3, c2)
/-- f74 laws.toSegmentS -/
noncomputable def laws_toSegmentS.s0 (k : Nat) (go0 : (List (Int × Int × ByteArray × Bool × List Bool) × Int × List (Int × Int × ByteArray × Bool × List Bool)) → Option (List (Int × Int × ByteArray × Bool × List Bool))) : (List (Int × Int × ByteArray × Bool × List Bool) × Int × List (Int × Int × ByteArray × Bool × List Bool)) → Option (List (Int × Int × ByteArray × Bool × List Bool)) := fun (a0, i4, r0) =>
  bif decide (i4 < (a0.length : Int)) then
    grd (decide (0 ≤ i4)) <| grd (decide (i4 < (a0.length : Int))) <|
    (laws_toSegment (rdOf (0, 0, emp, false, []) a0 i4).1 (rdOf (0, 0, emp, false, []) a0 i4).2.1 (rdOf (0, 0, emp, false, []) a0 i4).2.2.1 (rdOf (0, 0, emp, false, []) a0 i4).2.2.2.1 (rdOf (0, 0, emp, false, []) a0 i4).2.2.2.2).bind fun (c2_0, c2_1, c2_2, c2_3, c2_4) =>
    grd (decide (0 ≤ i4)) <| grd (decide (i4 < (r0.length : Int))) <|
    go0 (a0, w64 (i4 + 1), setI r0 i4 (c2_0, c2_1, c2_2, c2_3, c2_4))
  else
    some r0
noncomputable def laws_toSegmentS.g (k : Nat) (a0 : List (Int × Int × ByteArray × Bool × List Bool)) : Option (List (Int × Int × ByteArray × Bool × List Bool)) :=
  grd ((a0.length : Int) == (a0.length : Int)) <| grd (decide (0 ≤ (a0.length : Int))) <| grd (decide (((a0.length : Int)).toNat * 64 ≤ 140737488355328)) <|
  iter (laws_toSegmentS.s0 k) k (a0, 0, List.replicate ((a0.length : Int)).toNat (0, 0, emp, false, []))
noncomputable def laws_toSegmentS (a0 : List (Int × Int × ByteArray × Bool × List Bool)) : Option (List (Int × Int × ByteArray × Bool × List Bool)) := lim fun k => laws_toSegmentS.g k a0
/-- f38 laws.toSession -/
noncomputable def laws_toSession (a0_0 : ByteArray) (a0_1 : List Bool) (a0_2 : List Bool) (a0_3 : ByteArray) (a0_4 : Bool) (a0_5 : List (Int × Int × ByteArray × Bool × List Bool)) (a0_6 : List (Int × Int × ByteArray × Bool × List Bool)) : Option (ByteArray × ByteArray × Bool × List Bool × List Bool × List (Int × Int × ByteArray × Bool × List Bool) × List (Int × Int × ByteArray × Bool × List Bool)) :=
  (laws_toBoolS a0_1).bind fun c5 =>
  (laws_toBoolS a0_2).bind fun c6 =>
  (laws_toSegmentS a0_5).bind fun c7 =>
  (laws_toSegmentS a0_6).bind fun c8 =>
  some (a0_0, a0_3, a0_4, c5, c6, c7, c8)
/-- f6 laws.FnExactStepSession -/
noncomputable def laws_FnExactStepSession (aS0_0 : ByteArray) (aS0_1 : List Bool) (aS0_2 : List Bool) (aS0_3 : ByteArray) (aS0_4 : Bool) (aS0_5 : List (Int × Int × ByteArray × Bool × List Bool)) (aS0_6 : List (Int × Int × ByteArray × Bool × List Bool)) (aX1_0 : Int) (aX1_1 : Bool) (aX1_2 : Int) : Option (Bool) :=
  (laws_szSession aS0_0 aS0_1 aS0_2 aS0_3 aS0_4 aS0_5 aS0_6 1048576).bind fun c2 =>
  bif decide (c2 < 0) then
    some true
  else
    (laws_toSession aS0_0 aS0_1 aS0_2 aS0_3 aS0_4 aS0_5 aS0_6).bind fun (c3_0, c3_1, c3_2, c3_3, c3_4, c3_5, c3_6) =>
    (laws_toSesStep aX1_0 aX1_1 aX1_2).bind fun (c4_0, c4_1, c4_2) =>
    (spec_StepSession c3_0 c3_3 c3_4 c3_1 c3_2 c3_5 c3_6 c4_0 c4_1 c4_2).bind fun (c5_0, c5_1, c5_2, c5_3, c5_4, c5_5, c5_6, c5_7) =>
    (laws_toSession aS0_0 aS0_1 aS0_2 aS0_3 aS0_4 aS0_5 aS0_6).bind fun (c6_0, c6_1, c6_2, c6_3, c6_4, c6_5, c6_6) =>
    (laws_toSesStep aX1_0 aX1_1 aX1_2).bind fun (c7_0, c7_1, c7_2) =>
    (impl_StepSession c6_0 c6_3 c6_4 c6_1 c6_2 c6_5 c6_6 c7_0 c7_1 c7_2).bind fun (c8_0, c8_1, c8_2, c8_3, c8_4, c8_5, c8_6, c8_7) =>
    (laws_eqSession c8_0 c8_4 c8_5 c8_1 c8_2 c8_6 c8_7 c5_0 c5_4 c5_5 c5_1 c5_2 c5_6 c5_7).bind fun c9 =>
    bif (!c9) then
      some false
    else
      bif (!(c8_3 == c5_3)) then
        some false
      else
        (laws_toSession aS0_0 aS0_1 aS0_2 aS0_3 aS0_4 aS0_5 aS0_6).bind fun (c10_0, c10_1, c10_2, c10_3, c10_4, c10_5, c10_6) =>
        (laws_eqSession c6_0 c6_3 c6_4 c6_1 c6_2 c6_5 c6_6 c10_0 c10_3 c10_4 c10_1 c10_2 c10_5 c10_6).bind fun c11 =>
        bif (!c11) then
          some false
        else
          (laws_markSession c6_0 c6_1 c6_2 1 c6_3 c6_4 c6_5 c6_6).bind fun (c12_0, c12_1, c12_2, c12_3, c12_4) =>
          bif decide (c12_0 < 0) then
            some false
          else
            (laws_eqSession c8_0 c8_4 c8_5 c8_1 c8_2 c8_6 c8_7 c5_0 c5_4 c5_5 c5_1 c5_2 c5_6 c5_7).bind fun c13 =>
            bif (!c13) then
              some false
            else
              bif (!(c8_3 == c5_3)) then
                some false
              else
                (laws_markSession c8_0 c8_1 c8_2 1 c8_4 c8_5 c8_6 c8_7).bind fun (c14_0, c14_1, c14_2, c14_3, c14_4) =>
                (laws_heldSession c8_0 c14_1 c14_2 c8_1 c8_2 c14_3 c14_4 1).bind fun c15 =>
                bif decide (c15 < 0) then
                  some false
                else
                  bif (c15 != c14_0) then
                    some false
                  else
                    (laws_toSession aS0_0 aS0_1 aS0_2 aS0_3 aS0_4 aS0_5 aS0_6).bind fun (c16_0, c16_1, c16_2, c16_3, c16_4, c16_5, c16_6) =>
                    (laws_toSesStep aX1_0 aX1_1 aX1_2).bind fun (c17_0, c17_1, c17_2) =>
                    (impl_StepSession c16_0 c16_3 c16_4 c16_1 c16_2 c16_5 c16_6 c17_0 c17_1 c17_2).bind fun (c18_0, c18_1, c18_2, c18_3, c18_4, c18_5, c18_6, c18_7) =>
                    (laws_eqSession c18_0 c18_4 c18_5 c18_1 c18_2 c18_6 c18_7 c5_0 c5_4 c5_5 c5_1 c5_2 c5_6 c5_7).bind fun c19 =>
                    bif (!c19) then
                      some false
                    else
                      bif (!(c18_3 == c5_3)) then
                        some false
                      else
                        (laws_heldSession c8_0 c14_1 c14_2 c8_1 c8_2 c14_3 c14_4 1).bind fun c20 =>
                        bif decide (c20 < 0) then
                          some false
                        else
                          bif (c20 != c14_0) then
                            some false
                          else
                            some true
end Go.Eng
