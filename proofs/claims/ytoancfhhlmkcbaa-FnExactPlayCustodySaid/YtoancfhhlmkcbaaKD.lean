/-
Printed by engpr.py: pure definitions of the functions.
-/
import Derived.Test.YtoancfhhlmkcbaaKC
import Derived.Test.YtoancfhhlmkcbaaKQ
set_option linter.unusedVariables false
namespace Go.Eng
open Go Go.Proofs Go.Proofs.YtoancfhhlmkcbaaW.PrintWords
/-- f24 laws.eqIntS -/
noncomputable def laws_eqIntS.s0 (k : Nat) (go0 : (List Int × List Int × Int) → Option (Bool)) : (List Int × List Int × Int) → Option (Bool) := fun (a0, b1, i5) =>
  bif decide (i5 < (a0.length : Int)) then
    grd (decide (0 ≤ i5)) <| grd (decide (i5 < (a0.length : Int))) <| grd (decide (0 ≤ i5)) <| grd (decide (i5 < (b1.length : Int))) <|
    bif (rdOf 0 a0 i5 != rdOf 0 b1 i5) then
      some false
    else
      go0 (a0, b1, w64 (i5 + 1))
  else
    some true
noncomputable def laws_eqIntS.g (k : Nat) (a0 : List Int) (b1 : List Int) : Option (Bool) :=
  bif ((a0.length : Int) != (b1.length : Int)) then
    some false
  else
    iter (laws_eqIntS.s0 k) k (a0, b1, 0)
noncomputable def laws_eqIntS (a0 : List Int) (b1 : List Int) : Option (Bool) := lim fun k => laws_eqIntS.g k a0 b1
/-- f111 laws.eqHold -/
noncomputable def laws_eqHold (a0_0 : Int) (a0_1 : Int) (b1_0 : Int) (b1_1 : Int) : Option (Bool) :=
  bif (a0_0 != b1_0) then
    some false
  else
    bif (a0_1 != b1_1) then
      some false
    else
      some true
/-- f100 laws.eqHoldS -/
noncomputable def laws_eqHoldS.s0 (k : Nat) (go0 : (List (Int × Int) × List (Int × Int) × Int) → Option (Bool)) : (List (Int × Int) × List (Int × Int) × Int) → Option (Bool) := fun (a0, b1, i5) =>
  bif decide (i5 < (a0.length : Int)) then
    grd (decide (0 ≤ i5)) <| grd (decide (i5 < (a0.length : Int))) <| grd (decide (0 ≤ i5)) <| grd (decide (i5 < (b1.length : Int))) <|
    (laws_eqHold (rdOf (0, 0) a0 i5).1 (rdOf (0, 0) a0 i5).2 (rdOf (0, 0) b1 i5).1 (rdOf (0, 0) b1 i5).2).bind fun c1 =>
    bif (!c1) then
      some false
    else
      go0 (a0, b1, w64 (i5 + 1))
  else
    some true
noncomputable def laws_eqHoldS.g (k : Nat) (a0 : List (Int × Int)) (b1 : List (Int × Int)) : Option (Bool) :=
  bif ((a0.length : Int) != (b1.length : Int)) then
    some false
  else
    iter (laws_eqHoldS.s0 k) k (a0, b1, 0)
noncomputable def laws_eqHoldS (a0 : List (Int × Int)) (b1 : List (Int × Int)) : Option (Bool) := lim fun k => laws_eqHoldS.g k a0 b1
/-- f81 laws.eqKeeper -/
noncomputable def laws_eqKeeper (a0_0 : List Int) (a0_1 : List (Int × Int)) (a0_2 : List Int) (b1_0 : List Int) (b1_1 : List (Int × Int)) (b1_2 : List Int) : Option (Bool) :=
  (laws_eqIntS a0_0 b1_0).bind fun c2 =>
  bif (!c2) then
    some false
  else
    (laws_eqHoldS a0_1 b1_1).bind fun c3 =>
    bif (!c3) then
      some false
    else
      (laws_eqIntS a0_2 b1_2).bind fun c4 =>
      bif (!c4) then
        some false
      else
        some true
/-- f50 laws.eqKeeperS -/
noncomputable def laws_eqKeeperS.s0 (k : Nat) (go0 : (List (List Int × List (Int × Int) × List Int) × List (List Int × List (Int × Int) × List Int) × Int) → Option (Bool)) : (List (List Int × List (Int × Int) × List Int) × List (List Int × List (Int × Int) × List Int) × Int) → Option (Bool) := fun (a0, b1, i5) =>
  bif decide (i5 < (a0.length : Int)) then
    grd (decide (0 ≤ i5)) <| grd (decide (i5 < (a0.length : Int))) <| grd (decide (0 ≤ i5)) <| grd (decide (i5 < (b1.length : Int))) <|
    (laws_eqKeeper (rdOf ([], [], []) a0 i5).1 (rdOf ([], [], []) a0 i5).2.1 (rdOf ([], [], []) a0 i5).2.2 (rdOf ([], [], []) b1 i5).1 (rdOf ([], [], []) b1 i5).2.1 (rdOf ([], [], []) b1 i5).2.2).bind fun c1 =>
    bif (!c1) then
      some false
    else
      go0 (a0, b1, w64 (i5 + 1))
  else
    some true
noncomputable def laws_eqKeeperS.g (k : Nat) (a0 : List (List Int × List (Int × Int) × List Int)) (b1 : List (List Int × List (Int × Int) × List Int)) : Option (Bool) :=
  bif ((a0.length : Int) != (b1.length : Int)) then
    some false
  else
    iter (laws_eqKeeperS.s0 k) k (a0, b1, 0)
noncomputable def laws_eqKeeperS (a0 : List (List Int × List (Int × Int) × List Int)) (b1 : List (List Int × List (Int × Int) × List Int)) : Option (Bool) := lim fun k => laws_eqKeeperS.g k a0 b1
/-- f82 laws.eqSlip -/
noncomputable def laws_eqSlip (a0_0 : Int) (a0_1 : Int) (a0_2 : Int) (a0_3 : Int) (b1_0 : Int) (b1_1 : Int) (b1_2 : Int) (b1_3 : Int) : Option (Bool) :=
  bif (a0_0 != b1_0) then
    some false
  else
    bif (a0_1 != b1_1) then
      some false
    else
      bif (a0_2 != b1_2) then
        some false
      else
        bif (a0_3 != b1_3) then
          some false
        else
          some true
/-- f51 laws.eqSlipS -/
noncomputable def laws_eqSlipS.s0 (k : Nat) (go0 : (List (Int × Int × Int × Int) × List (Int × Int × Int × Int) × Int) → Option (Bool)) : (List (Int × Int × Int × Int) × List (Int × Int × Int × Int) × Int) → Option (Bool) := fun (a0, b1, i5) =>
  bif decide (i5 < (a0.length : Int)) then
    grd (decide (0 ≤ i5)) <| grd (decide (i5 < (a0.length : Int))) <| grd (decide (0 ≤ i5)) <| grd (decide (i5 < (b1.length : Int))) <|
    (laws_eqSlip (rdOf (0, 0, 0, 0) a0 i5).1 (rdOf (0, 0, 0, 0) a0 i5).2.1 (rdOf (0, 0, 0, 0) a0 i5).2.2.1 (rdOf (0, 0, 0, 0) a0 i5).2.2.2 (rdOf (0, 0, 0, 0) b1 i5).1 (rdOf (0, 0, 0, 0) b1 i5).2.1 (rdOf (0, 0, 0, 0) b1 i5).2.2.1 (rdOf (0, 0, 0, 0) b1 i5).2.2.2).bind fun c1 =>
    bif (!c1) then
      some false
    else
      go0 (a0, b1, w64 (i5 + 1))
  else
    some true
noncomputable def laws_eqSlipS.g (k : Nat) (a0 : List (Int × Int × Int × Int)) (b1 : List (Int × Int × Int × Int)) : Option (Bool) :=
  bif ((a0.length : Int) != (b1.length : Int)) then
    some false
  else
    iter (laws_eqSlipS.s0 k) k (a0, b1, 0)
noncomputable def laws_eqSlipS (a0 : List (Int × Int × Int × Int)) (b1 : List (Int × Int × Int × Int)) : Option (Bool) := lim fun k => laws_eqSlipS.g k a0 b1
/-- f11 laws.eqCustody -/
noncomputable def laws_eqCustody (a0_0 : List Int) (a0_1 : List (List Int × List (Int × Int) × List Int)) (a0_2 : List (Int × Int × Int × Int)) (a0_3 : List Int) (b1_0 : List Int) (b1_1 : List (List Int × List (Int × Int) × List Int)) (b1_2 : List (Int × Int × Int × Int)) (b1_3 : List Int) : Option (Bool) :=
  (laws_eqIntS a0_0 b1_0).bind fun c2 =>
  bif (!c2) then
    some false
  else
    (laws_eqKeeperS a0_1 b1_1).bind fun c3 =>
    bif (!c3) then
      some false
    else
      (laws_eqSlipS a0_2 b1_2).bind fun c4 =>
      bif (!c4) then
        some false
      else
        (laws_eqIntS a0_3 b1_3).bind fun c5 =>
        bif (!c5) then
          some false
        else
          some true
/-- f48 impl.within -/
noncomputable def impl_within (n0 : Int) (low1 : Int) (high2 : Int) : Option (Bool) :=
  bif decide (low1 ≤ n0) then
    some (decide (n0 ≤ high2))
  else
    some false
/-- f43 impl.isTree -/
noncomputable def impl_isTree.s0 (k : Nat) (go0 : (List Int × Int × Int) → Option (Bool)) : (List Int × Int × Int) → Option (Bool) := fun (t15, t16, t17) =>
  bif decide (t17 < t16) then
    grd (decide (0 ≤ t17)) <| grd (decide (t17 < (t15.length : Int))) <|
    bif decide (t17 > 0) then
      (impl_within (rdOf 0 t15 t17) 0 (w64 (t17 - 1))).bind fun c4 =>
      bif (!c4) then
        some false
      else
        go0 (t15, t16, w64 (t17 + 1))
    else
      go0 (t15, t16, w64 (t17 + 1))
  else
    some true
noncomputable def impl_isTree.g (k : Nat) (up0 : List Int) : Option (Bool) :=
  (impl_within (up0.length : Int) 1 8).bind fun c3 =>
  bif (!c3) then
    some false
  else
    grd (decide (0 < (up0.length : Int))) <|
    bif (rdOf 0 up0 0 != (-1)) then
      some false
    else
      iter (impl_isTree.s0 k) k (up0, (up0.length : Int), 0)
noncomputable def impl_isTree (up0 : List Int) : Option (Bool) := lim fun k => impl_isTree.g k up0
/-- f56 impl.NewCustody -/
noncomputable def impl_NewCustody (up0 : List Int) : Option (Bool × List Int × List (List Int × List (Int × Int) × List Int)) :=
  (impl_isTree up0).bind fun c4 =>
  bif (!c4) then
    some (false, [], [])
  else
    (cloneF 8 up0).bind fun c5 =>
    grd ((up0.length : Int) == (up0.length : Int)) <| grd (decide (0 ≤ (up0.length : Int))) <| grd (decide (((up0.length : Int)).toNat * 72 ≤ 140737488355328)) <|
    some (true, c5, List.replicate ((up0.length : Int)).toNat ([], [], []))
/-- f79 slices.Index[[]int,int] -/
noncomputable def slices_Index_int.s0 (k : Nat) (go0 : (List Int × Int × Int × Int) → Option (Int)) : (List Int × Int × Int × Int) → Option (Int) := fun (s0, v1, t7, t8) =>
  bif decide (t8 < t7) then
    grd (decide (0 ≤ t8)) <| grd (decide (t8 < (s0.length : Int))) <|
    bif (v1 == rdOf 0 s0 t8) then
      some t8
    else
      go0 (s0, v1, t7, w64 (t8 + 1))
  else
    some (-1)
noncomputable def slices_Index_int.g (k : Nat) (s0 : List Int) (v1 : Int) : Option (Int) :=
  iter (slices_Index_int.s0 k) k (s0, v1, (s0.length : Int), 0)
noncomputable def slices_Index_int (s0 : List Int) (v1 : Int) : Option (Int) := lim fun k => slices_Index_int.g k s0 v1
/-- f47 slices.Contains[[]int,int] -/
noncomputable def slices_Contains_int (s0 : List Int) (v1 : Int) : Option (Bool) :=
  (slices_Index_int s0 v1).bind fun c2 =>
  some (decide (c2 ≥ 0))
/-- f53 impl.isId -/
noncomputable def impl_isId (n0 : Int) : Option (Bool) :=
  (impl_within n0 0 5).bind fun c2 =>
  some c2
/-- f102 impl.children -/
noncomputable def impl_children.s0 (k : Nat) (go0 : (Int × List Int × Int × Int × List Int) → Option (List Int)) : (Int × List Int × Int × Int × List Int) → Option (List Int) := fun (node1, t9, t10, t11, r0) =>
  bif decide (t11 < t10) then
    grd (decide (0 ≤ t11)) <| grd (decide (t11 < (t9.length : Int))) <|
    bif (rdOf 0 t9 t11 == node1) then
      grd (decide ((r0.length + 1) * 8 ≤ 140737488355328)) <|
      go0 (node1, t9, t10, w64 (t11 + 1), r0 ++ [t11])
    else
      go0 (node1, t9, t10, w64 (t11 + 1), r0)
  else
    some r0
noncomputable def impl_children.g (k : Nat) (up0 : List Int) (node1 : Int) : Option (List Int) :=
  iter (impl_children.s0 k) k (node1, up0, (up0.length : Int), 0, [])
noncomputable def impl_children (up0 : List Int) (node1 : Int) : Option (List Int) := lim fun k => impl_children.g k up0 node1
/-- f87 (*impl.Custody).see -/
noncomputable def impl_Custody_see.s0 (k : Nat) (go0 : (Int × Int × Int × Int × List Int × List (List Int × List (Int × Int) × List Int) × List (Int × Int × Int × Int) × List Int × List Int) → Option (List Int × List (List Int × List (Int × Int) × List Int) × List (Int × Int × Int × Int) × List Int)) : (Int × Int × Int × Int × List Int × List (List Int × List (Int × Int) × List Int) × List (Int × Int × Int × Int) × List Int × List Int) → Option (List Int × List (List Int × List (Int × Int) × List Int) × List (Int × Int × Int × Int) × List Int) := fun (id2, k6, t46, t47, r1, r2, r3, r4, r5) =>
  bif decide (t47 < t46) then
    grd (decide (0 ≤ t47)) <| grd (decide (t47 < (r5.length : Int))) <| grd (decide (((rdOf ([], [], []) r2 k6).2.1.length + 1) * 16 ≤ 140737488355328)) <| grd (decide (k6 = k6)) <|
    go0 (id2, k6, t46, w64 (t47 + 1), r1, setI r2 k6 ((rdOf ([], [], []) r2 k6).1, (rdOf ([], [], []) r2 k6).2.1 ++ [(id2, rdOf 0 r5 t47)], (rdOf ([], [], []) r2 k6).2.2), r3, r4, r5)
  else
    (sortHF (rdOf ([], [], []) r2 k6).2.1).bind fun c8 =>
    some (r1, setI r2 k6 ((rdOf ([], [], []) r2 k6).1, c8, (rdOf ([], [], []) r2 k6).2.2), r3, r4)
noncomputable def impl_Custody_see.g (k : Nat) (node1 : Int) (id2 : Int) (r1 : List Int) (r2 : List (List Int × List (Int × Int) × List Int)) (r3 : List (Int × Int × Int × Int)) (r4 : List Int) : Option (List Int × List (List Int × List (Int × Int) × List Int) × List (Int × Int × Int × Int) × List Int) :=
  grd (decide (0 ≤ node1)) <| grd (decide (node1 < (r2.length : Int))) <| grd (decide (((rdOf ([], [], []) r2 node1).1.length + 1) * 8 ≤ 140737488355328)) <| grd (decide (node1 = node1)) <|
  (sortF (rdOf ([], [], []) (setI r2 node1 ((rdOf ([], [], []) r2 node1).1 ++ [id2], (rdOf ([], [], []) r2 node1).2)) node1).1).bind fun c6 =>
  grd (decide (((rdOf ([], [], []) (setI (setI r2 node1 ((rdOf ([], [], []) r2 node1).1 ++ [id2], (rdOf ([], [], []) r2 node1).2)) node1 (c6, (rdOf ([], [], []) (setI r2 node1 ((rdOf ([], [], []) r2 node1).1 ++ [id2], (rdOf ([], [], []) r2 node1).2)) node1).2)) node1).2.2.length + 1) * 8 ≤ 140737488355328)) <| grd (decide (node1 = node1)) <|
  (impl_children r1 node1).bind fun c7 =>
  iter (impl_Custody_see.s0 k) k (id2, node1, (c7.length : Int), 0, r1, setI (setI (setI r2 node1 ((rdOf ([], [], []) r2 node1).1 ++ [id2], (rdOf ([], [], []) r2 node1).2)) node1 (c6, (rdOf ([], [], []) (setI r2 node1 ((rdOf ([], [], []) r2 node1).1 ++ [id2], (rdOf ([], [], []) r2 node1).2)) node1).2)) node1 ((rdOf ([], [], []) (setI (setI r2 node1 ((rdOf ([], [], []) r2 node1).1 ++ [id2], (rdOf ([], [], []) r2 node1).2)) node1 (c6, (rdOf ([], [], []) (setI r2 node1 ((rdOf ([], [], []) r2 node1).1 ++ [id2], (rdOf ([], [], []) r2 node1).2)) node1).2)) node1).1, (rdOf ([], [], []) (setI (setI r2 node1 ((rdOf ([], [], []) r2 node1).1 ++ [id2], (rdOf ([], [], []) r2 node1).2)) node1 (c6, (rdOf ([], [], []) (setI r2 node1 ((rdOf ([], [], []) r2 node1).1 ++ [id2], (rdOf ([], [], []) r2 node1).2)) node1).2)) node1).2.1, (rdOf ([], [], []) (setI (setI r2 node1 ((rdOf ([], [], []) r2 node1).1 ++ [id2], (rdOf ([], [], []) r2 node1).2)) node1 (c6, (rdOf ([], [], []) (setI r2 node1 ((rdOf ([], [], []) r2 node1).1 ++ [id2], (rdOf ([], [], []) r2 node1).2)) node1).2)) node1).2.2 ++ [id2]), r3, r4, c7)
noncomputable def impl_Custody_see (node1 : Int) (id2 : Int) (r1 : List Int) (r2 : List (List Int × List (Int × Int) × List Int)) (r3 : List (Int × Int × Int × Int)) (r4 : List Int) : Option (List Int × List (List Int × List (Int × Int) × List Int) × List (Int × Int × Int × Int) × List Int) := lim fun k => impl_Custody_see.g k node1 id2 r1 r2 r3 r4
/-- f88 (*impl.Custody).put -/
noncomputable def impl_Custody_put (s1_0 : Int) (s1_1 : Int) (s1_2 : Int) (s1_3 : Int) (r1 : List Int) (r2 : List (List Int × List (Int × Int) × List Int)) (r3 : List (Int × Int × Int × Int)) (r4 : List Int) : Option (Bool × List Int × List (List Int × List (Int × Int) × List Int) × List (Int × Int × Int × Int) × List Int) :=
  bif ((r3.length : Int) == 30) then
    some (false, r1, r2, r3, r4)
  else
    grd (decide ((r3.length + 1) * 32 ≤ 140737488355328)) <|
    some (true, r1, r2, r3 ++ [(s1_0, s1_1, s1_2, s1_3)], r4)
/-- f90 (*impl.Custody).take -/
noncomputable def impl_Custody_take (s1_0 : Int) (s1_1 : Int) (s1_2 : Int) (s1_3 : Int) (r1 : List Int) (r2 : List (List Int × List (Int × Int) × List Int)) (r3 : List (Int × Int × Int × Int)) (r4 : List Int) : Option (List Int × List (List Int × List (Int × Int) × List Int) × List (Int × Int × Int × Int) × List Int) :=
  bif (s1_0 == 2) then
    grd (decide (0 ≤ s1_2)) <| grd (decide (s1_2 < (r2.length : Int))) <|
    (outHF s1_3 s1_1 (rdOf ([], [], []) r2 s1_2).2.1).bind fun c6 =>
    grd (decide (s1_2 = s1_2)) <|
    some (r1, setI r2 s1_2 ((rdOf ([], [], []) r2 s1_2).1, c6, (rdOf ([], [], []) r2 s1_2).2.2), r3, r4)
  else
    grd (decide (0 ≤ s1_2)) <| grd (decide (s1_2 < (r2.length : Int))) <|
    (slices_Contains_int (rdOf ([], [], []) r2 s1_2).1 s1_3).bind fun c7 =>
    bif (!c7) then
      (impl_Custody_see s1_2 s1_3 r1 r2 r3 r4).bind fun (c8_0, c8_1, c8_2, c8_3) =>
      (impl_Custody_put 2 s1_2 s1_1 s1_3 c8_0 c8_1 c8_2 c8_3).bind fun (c9_0, c9_1, c9_2, c9_3, c9_4) =>
      some (c9_1, c9_2, c9_3, c9_4)
    else
      (impl_Custody_put 2 s1_2 s1_1 s1_3 r1 r2 r3 r4).bind fun (c10_0, c10_1, c10_2, c10_3, c10_4) =>
      some (c10_1, c10_2, c10_3, c10_4)
/-- f57 (*impl.Custody).step -/
noncomputable def impl_Custody_step (s1_0 : Int) (s1_1 : Int) (s1_2 : Int) (s1_3 : Int) (r1 : List Int) (r2 : List (List Int × List (Int × Int) × List Int)) (r3 : List (Int × Int × Int × Int)) (r4 : List Int) : Option (Bool × List Int × List (List Int × List (Int × Int) × List Int) × List (Int × Int × Int × Int) × List Int) :=
  bif (s1_0 == 1) then
    (impl_isId s1_2).bind fun c11 =>
    bif (!c11) then
      some (false, r1, r2, r3, r4)
    else
      grd (decide (0 < (r2.length : Int))) <|
      (slices_Contains_int (rdOf ([], [], []) r2 0).1 s1_2).bind fun c12 =>
      bif c12 then
        some (false, r1, r2, r3, r4)
      else
        (impl_Custody_see 0 s1_2 r1 r2 r3 r4).bind fun (c13_0, c13_1, c13_2, c13_3) =>
        grd (decide ((c13_3.length + 1) * 8 ≤ 140737488355328)) <|
        some (true, c13_0, c13_1, c13_2, c13_3 ++ [s1_2])
  else
    bif (s1_0 == 2) then
      (impl_within s1_1 0 (w64 ((r1.length : Int) - 1))).bind fun c14 =>
      bif (!c14) then
        some (false, r1, r2, r3, r4)
      else
        grd (decide (0 ≤ s1_1)) <| grd (decide (s1_1 < (r2.length : Int))) <|
        (impl_within s1_3 0 (w64 (((rdOf ([], [], []) r2 s1_1).2.1.length : Int) - 1))).bind fun c15 =>
        bif (!c15) then
          some (false, r1, r2, r3, r4)
        else
          grd (decide (0 ≤ s1_1)) <| grd (decide (s1_1 < (r2.length : Int))) <| grd (decide (0 ≤ s1_3)) <| grd (decide (s1_3 < ((rdOf ([], [], []) r2 s1_1).2.1.length : Int))) <|
          (impl_Custody_put 1 s1_1 (rdOf (0, 0) (rdOf ([], [], []) r2 s1_1).2.1 s1_3).2 (rdOf (0, 0) (rdOf ([], [], []) r2 s1_1).2.1 s1_3).1 r1 r2 r3 r4).bind fun (c16_0, c16_1, c16_2, c16_3, c16_4) =>
          some (c16_0, c16_1, c16_2, c16_3, c16_4)
    else
      bif (s1_0 == 3) then
        bif (s1_0 == 3) then
          (impl_within s1_3 0 (w64 ((r3.length : Int) - 1))).bind fun c17 =>
          bif (!c17) then
            some (false, r1, r2, r3, r4)
          else
            grd (decide (0 ≤ s1_3)) <| grd (decide (s1_3 < (r3.length : Int))) <|
            bif (s1_0 == 5) then
              (impl_Custody_put (rdOf (0, 0, 0, 0) r3 s1_3).1 (rdOf (0, 0, 0, 0) r3 s1_3).2.1 (rdOf (0, 0, 0, 0) r3 s1_3).2.2.1 (rdOf (0, 0, 0, 0) r3 s1_3).2.2.2 r1 r2 r3 r4).bind fun (c18_0, c18_1, c18_2, c18_3, c18_4) =>
              some (c18_0, c18_1, c18_2, c18_3, c18_4)
            else
              (delF r3 s1_3 (w64 (s1_3 + 1))).bind fun c19 =>
              bif (s1_0 == 3) then
                (impl_Custody_take (rdOf (0, 0, 0, 0) r3 s1_3).1 (rdOf (0, 0, 0, 0) r3 s1_3).2.1 (rdOf (0, 0, 0, 0) r3 s1_3).2.2.1 (rdOf (0, 0, 0, 0) r3 s1_3).2.2.2 r1 r2 c19 r4).bind fun (c20_0, c20_1, c20_2, c20_3) =>
                some (true, c20_0, c20_1, c20_2, c20_3)
              else
                some (true, r1, r2, c19, r4)
        else
          some (false, r1, r2, r3, r4)
      else
        bif (s1_0 == 4) then
          bif (s1_0 == 4) then
            (impl_within s1_3 0 (w64 ((r3.length : Int) - 1))).bind fun c21 =>
            bif (!c21) then
              some (false, r1, r2, r3, r4)
            else
              grd (decide (0 ≤ s1_3)) <| grd (decide (s1_3 < (r3.length : Int))) <|
              bif (s1_0 == 5) then
                (impl_Custody_put (rdOf (0, 0, 0, 0) r3 s1_3).1 (rdOf (0, 0, 0, 0) r3 s1_3).2.1 (rdOf (0, 0, 0, 0) r3 s1_3).2.2.1 (rdOf (0, 0, 0, 0) r3 s1_3).2.2.2 r1 r2 r3 r4).bind fun (c22_0, c22_1, c22_2, c22_3, c22_4) =>
                some (c22_0, c22_1, c22_2, c22_3, c22_4)
              else
                (delF r3 s1_3 (w64 (s1_3 + 1))).bind fun c23 =>
                bif (s1_0 == 3) then
                  (impl_Custody_take (rdOf (0, 0, 0, 0) r3 s1_3).1 (rdOf (0, 0, 0, 0) r3 s1_3).2.1 (rdOf (0, 0, 0, 0) r3 s1_3).2.2.1 (rdOf (0, 0, 0, 0) r3 s1_3).2.2.2 r1 r2 c23 r4).bind fun (c24_0, c24_1, c24_2, c24_3) =>
                  some (true, c24_0, c24_1, c24_2, c24_3)
                else
                  some (true, r1, r2, c23, r4)
          else
            some (false, r1, r2, r3, r4)
        else
          bif (s1_0 == 5) then
            (impl_within s1_3 0 (w64 ((r3.length : Int) - 1))).bind fun c25 =>
            bif (!c25) then
              some (false, r1, r2, r3, r4)
            else
              grd (decide (0 ≤ s1_3)) <| grd (decide (s1_3 < (r3.length : Int))) <|
              bif (s1_0 == 5) then
                (impl_Custody_put (rdOf (0, 0, 0, 0) r3 s1_3).1 (rdOf (0, 0, 0, 0) r3 s1_3).2.1 (rdOf (0, 0, 0, 0) r3 s1_3).2.2.1 (rdOf (0, 0, 0, 0) r3 s1_3).2.2.2 r1 r2 r3 r4).bind fun (c26_0, c26_1, c26_2, c26_3, c26_4) =>
                some (c26_0, c26_1, c26_2, c26_3, c26_4)
              else
                (delF r3 s1_3 (w64 (s1_3 + 1))).bind fun c27 =>
                bif (s1_0 == 3) then
                  (impl_Custody_take (rdOf (0, 0, 0, 0) r3 s1_3).1 (rdOf (0, 0, 0, 0) r3 s1_3).2.1 (rdOf (0, 0, 0, 0) r3 s1_3).2.2.1 (rdOf (0, 0, 0, 0) r3 s1_3).2.2.2 r1 r2 c27 r4).bind fun (c28_0, c28_1, c28_2, c28_3) =>
                  some (true, c28_0, c28_1, c28_2, c28_3)
                else
                  some (true, r1, r2, c27, r4)
          else
            some (false, r1, r2, r3, r4)
/-- f15 impl.PlayCustody -/
noncomputable def impl_PlayCustody.s0 (k : Nat) (go0 : (List (Int × Int × Int × Int) × Int × Int × List Bool × List Int × List (List Int × List (Int × Int) × List Int) × List (Int × Int × Int × Int) × List Int) → Option (Bool × List Int × List (List Int × List (Int × Int) × List Int) × List (Int × Int × Int × Int) × List Int × List Bool)) : (List (Int × Int × Int × Int) × Int × Int × List Bool × List Int × List (List Int × List (Int × Int) × List Int) × List (Int × Int × Int × Int) × List Int) → Option (Bool × List Int × List (List Int × List (Int × Int) × List Int) × List (Int × Int × Int × Int) × List Int × List Bool) := fun (t26, t27, t28, r2, r3, r4, r5, r6) =>
  bif decide (t28 < t27) then
    grd (decide (0 ≤ t28)) <| grd (decide (t28 < (t26.length : Int))) <|
    (impl_Custody_step (rdOf (0, 0, 0, 0) t26 t28).1 (rdOf (0, 0, 0, 0) t26 t28).2.1 (rdOf (0, 0, 0, 0) t26 t28).2.2.1 (rdOf (0, 0, 0, 0) t26 t28).2.2.2 r3 r4 r5 r6).bind fun (c8_0, c8_1, c8_2, c8_3, c8_4) =>
    grd (decide ((r2.length + 1) * 1 ≤ 140737488355328)) <|
    go0 (t26, t27, w64 (t28 + 1), r2 ++ [c8_0], c8_1, c8_2, c8_3, c8_4)
  else
    some (true, r3, r4, r5, r6, r2)
noncomputable def impl_PlayCustody.g (k : Nat) (up0 : List Int) (l1 : List (Int × Int × Int × Int)) : Option (Bool × List Int × List (List Int × List (Int × Int) × List Int) × List (Int × Int × Int × Int) × List Int × List Bool) :=
  (impl_NewCustody up0).bind fun (c7_0, c7_1, c7_2) =>
  bif (!c7_0) then
    some (false, [], [], [], [], [])
  else
    bif decide ((l1.length : Int) > 200) then
      some (false, [], [], [], [], [])
    else
      iter (impl_PlayCustody.s0 k) k (l1, (l1.length : Int), 0, [], c7_1, c7_2, [], [])
noncomputable def impl_PlayCustody (up0 : List Int) (l1 : List (Int × Int × Int × Int)) : Option (Bool × List Int × List (List Int × List (Int × Int) × List Int) × List (Int × Int × Int × Int) × List Int × List Bool) := lim fun k => impl_PlayCustody.g k up0 l1
/-- f39 spec.l1In -/
noncomputable def spec_l1In (n0 : Int) (lo1 : Int) (hi2 : Int) : Option (Bool) :=
  bif decide (n0 ≥ lo1) then
    some (decide (n0 ≤ hi2))
  else
    some false
/-- f35 spec.l16Tree -/
noncomputable def spec_l16Tree.s0 (k : Nat) (go0 : (List Int × List Int × Int × Int) → Option (Bool)) : (List Int × List Int × Int × Int) → Option (Bool) := fun (up0, t5, t6, t7) =>
  bif decide (t7 < t6) then
    grd (decide (0 ≤ t7)) <| grd (decide (t7 < (t5.length : Int))) <|
    bif (!((t7 == 0) == (rdOf 0 t5 t7 == (-1)))) then
      some false
    else
      bif decide (rdOf 0 t5 t7 < (-1)) then
        some false
      else
        bif decide (rdOf 0 t5 t7 ≥ t7) then
          some false
        else
          go0 (up0, t5, t6, w64 (t7 + 1))
  else
    (spec_l1In (up0.length : Int) 1 8).bind fun c1 =>
    some c1
noncomputable def spec_l16Tree.g (k : Nat) (up0 : List Int) : Option (Bool) :=
  iter (spec_l16Tree.s0 k) k (up0, up0, (up0.length : Int), 0)
noncomputable def spec_l16Tree (up0 : List Int) : Option (Bool) := lim fun k => spec_l16Tree.g k up0
/-- f58 spec.NewCustody -/
noncomputable def spec_NewCustody (up0 : List Int) : Option (Bool × List Int × List (List Int × List (Int × Int) × List Int)) :=
  (spec_l16Tree up0).bind fun c3 =>
  bif (!c3) then
    some (false, [], [])
  else
    grd (decide ((0 + up0.length) * 8 ≤ 140737488355328)) <| grd ((up0.length : Int) == (up0.length : Int)) <| grd (decide (0 ≤ (up0.length : Int))) <| grd (decide (((up0.length : Int)).toNat * 72 ≤ 140737488355328)) <|
    some (true, [] ++ up0, List.replicate ((up0.length : Int)).toNat ([], [], []))
/-- f37 spec.l16Id -/
noncomputable def spec_l16Id (n0 : Int) : Option (Bool) :=
  bif decide (n0 ≥ 0) then
    some (decide (n0 < 6))
  else
    some false
/-- f38 spec.l1Has -/
noncomputable def spec_l1Has.s0 (k : Nat) (go0 : (Int × List Int × Int × Int) → Option (Bool)) : (Int × List Int × Int × Int) → Option (Bool) := fun (n1, t7, t8, t9) =>
  bif decide (t9 < t8) then
    grd (decide (0 ≤ t9)) <| grd (decide (t9 < (t7.length : Int))) <|
    bif (rdOf 0 t7 t9 == n1) then
      some true
    else
      go0 (n1, t7, t8, w64 (t9 + 1))
  else
    some false
noncomputable def spec_l1Has.g (k : Nat) (l0 : List Int) (n1 : Int) : Option (Bool) :=
  iter (spec_l1Has.s0 k) k (n1, l0, (l0.length : Int), 0)
noncomputable def spec_l1Has (l0 : List Int) (n1 : Int) : Option (Bool) := lim fun k => spec_l1Has.g k l0 n1
/-- f72 spec.l16Children -/
noncomputable def spec_l16Children.s0 (k : Nat) (go0 : (Int × List Int × Int × Int × List Int) → Option (List Int)) : (Int × List Int × Int × Int × List Int) → Option (List Int) := fun (node1, t8, t9, t10, r0) =>
  bif decide (t10 < t9) then
    grd (decide (0 ≤ t10)) <| grd (decide (t10 < (t8.length : Int))) <|
    bif decide (t10 > 0) then
      bif (rdOf 0 t8 t10 == node1) then
        grd (decide ((r0.length + 1) * 8 ≤ 140737488355328)) <|
        go0 (node1, t8, t9, w64 (t10 + 1), r0 ++ [t10])
      else
        go0 (node1, t8, t9, w64 (t10 + 1), r0)
    else
      go0 (node1, t8, t9, w64 (t10 + 1), r0)
  else
    some r0
noncomputable def spec_l16Children.g (k : Nat) (up0 : List Int) (node1 : Int) : Option (List Int) :=
  iter (spec_l16Children.s0 k) k (node1, up0, (up0.length : Int), 0, [])
noncomputable def spec_l16Children (up0 : List Int) (node1 : Int) : Option (List Int) := lim fun k => spec_l16Children.g k up0 node1
/-- f73 spec.l16Less -/
noncomputable def spec_l16Less (a0_0 : Int) (a0_1 : Int) (b1_0 : Int) (b1_1 : Int) : Option (Bool) :=
  bif decide (a0_0 < b1_0) then
    some true
  else
    bif (a0_0 == b1_0) then
      some (decide (a0_1 < b1_1))
    else
      some false
/-- f106 spec.l7Put -/
noncomputable def spec_l7Put.s0 (k : Nat) (go0 : (Int × Int × List Int) → Option (List Int)) : (Int × Int × List Int) → Option (List Int) := fun (n1, k5, r0) =>
  bif decide (k5 < (r0.length : Int)) then
    grd (decide (0 ≤ k5)) <| grd (decide (k5 < (r0.length : Int))) <|
    bif decide (rdOf 0 r0 k5 < n1) then
      go0 (n1, w64 (k5 + 1), r0)
    else
      bif decide (k5 < (r0.length : Int)) then
        grd (decide (0 ≤ k5)) <| grd (decide (k5 < (r0.length : Int))) <|
        bif (rdOf 0 r0 k5 == n1) then
          some r0
        else
          grd (decide (0 ≤ k5)) <| grd (decide (k5 ≤ (r0.length : Int))) <| grd (decide ((cut r0 0 k5).length * 8 ≤ 140737488355328)) <| grd (decide (((cut r0 0 k5).length + 1) * 8 ≤ 140737488355328)) <| grd (decide (0 ≤ k5)) <| grd (decide (k5 ≤ (r0.length : Int))) <| grd (decide ((((cut r0 0 k5) ++ [n1]).length + (cut r0 k5 (r0.length : Int)).length) * 8 ≤ 140737488355328)) <|
          some (((cut r0 0 k5) ++ [n1]) ++ (cut r0 k5 (r0.length : Int)))
      else
        grd (decide (0 ≤ k5)) <| grd (decide (k5 ≤ (r0.length : Int))) <| grd (decide ((cut r0 0 k5).length * 8 ≤ 140737488355328)) <| grd (decide (((cut r0 0 k5).length + 1) * 8 ≤ 140737488355328)) <| grd (decide (0 ≤ k5)) <| grd (decide (k5 ≤ (r0.length : Int))) <| grd (decide ((((cut r0 0 k5) ++ [n1]).length + (cut r0 k5 (r0.length : Int)).length) * 8 ≤ 140737488355328)) <|
        some (((cut r0 0 k5) ++ [n1]) ++ (cut r0 k5 (r0.length : Int)))
  else
    bif decide (k5 < (r0.length : Int)) then
      grd (decide (0 ≤ k5)) <| grd (decide (k5 < (r0.length : Int))) <|
      bif (rdOf 0 r0 k5 == n1) then
        some r0
      else
        grd (decide (0 ≤ k5)) <| grd (decide (k5 ≤ (r0.length : Int))) <| grd (decide ((cut r0 0 k5).length * 8 ≤ 140737488355328)) <| grd (decide (((cut r0 0 k5).length + 1) * 8 ≤ 140737488355328)) <| grd (decide (0 ≤ k5)) <| grd (decide (k5 ≤ (r0.length : Int))) <| grd (decide ((((cut r0 0 k5) ++ [n1]).length + (cut r0 k5 (r0.length : Int)).length) * 8 ≤ 140737488355328)) <|
        some (((cut r0 0 k5) ++ [n1]) ++ (cut r0 k5 (r0.length : Int)))
    else
      grd (decide (0 ≤ k5)) <| grd (decide (k5 ≤ (r0.length : Int))) <| grd (decide ((cut r0 0 k5).length * 8 ≤ 140737488355328)) <| grd (decide (((cut r0 0 k5).length + 1) * 8 ≤ 140737488355328)) <| grd (decide (0 ≤ k5)) <| grd (decide (k5 ≤ (r0.length : Int))) <| grd (decide ((((cut r0 0 k5) ++ [n1]).length + (cut r0 k5 (r0.length : Int)).length) * 8 ≤ 140737488355328)) <|
      some (((cut r0 0 k5) ++ [n1]) ++ (cut r0 k5 (r0.length : Int)))
noncomputable def spec_l7Put.g (k : Nat) (n1 : Int) (r0 : List Int) : Option (List Int) :=
  iter (spec_l7Put.s0 k) k (n1, 0, r0)
noncomputable def spec_l7Put (n1 : Int) (r0 : List Int) : Option (List Int) := lim fun k => spec_l7Put.g k n1 r0
/-- f91 spec.l16See -/
noncomputable def spec_l16See.s2 (k : Nat) (go0 : (Int × Int × Int × Int × List (List Int × List (Int × Int) × List Int) × Int × List (Int × Int × Int × Int) × List Int × List Int × List Int × List Int × List (Int × Int) × List Int) → Option (List Int × List (List Int × List (Int × Int) × List Int) × List (Int × Int × Int × Int) × List Int)) (go2 : (Int × Int × Int × Int × Int × List (List Int × List (Int × Int) × List Int) × Int × List (Int × Int × Int × Int) × List Int × List Int × Int × Int × List Int × List Int × List (Int × Int) × List Int) → Option (List Int × List (List Int × List (Int × Int) × List Int) × List (Int × Int × Int × Int) × List Int)) : (Int × Int × Int × Int × Int × List (List Int × List (Int × Int) × List Int) × Int × List (Int × Int × Int × Int) × List Int × List Int × Int × Int × List Int × List Int × List (Int × Int) × List Int) → Option (List Int × List (List Int × List (Int × Int) × List Int) × List (Int × Int × Int × Int) × List Int) := fun (node1, id2, i11, t33, t34, r0, r0_i, r1, r2, b3_0, b6_0, b6_1, r7, r8, r9, r10) =>
  bif decide (i11 < (r9.length : Int)) then
    grd (decide (0 ≤ i11)) <| grd (decide (i11 < (r9.length : Int))) <|
    (spec_l16Less (rdOf (0, 0) r9 i11).1 (rdOf (0, 0) r9 i11).2 b6_0 b6_1).bind fun c10 =>
    bif c10 then
      go2 (node1, id2, w64 (i11 + 1), t33, t34, r0, r0_i, r1, r2, b3_0, b6_0, b6_1, r7, r8, r9, r10)
    else
      grd (decide (0 ≤ i11)) <| grd (decide (i11 ≤ (r9.length : Int))) <| grd (decide ((cut r9 0 i11).length * 16 ≤ 140737488355328)) <| grd (decide (((cut r9 0 i11).length + 1) * 16 ≤ 140737488355328)) <| grd (decide (0 ≤ i11)) <| grd (decide (i11 ≤ (r9.length : Int))) <| grd (decide ((((cut r9 0 i11) ++ [(b6_0, b6_1)]).length + (cut r9 i11 (r9.length : Int)).length) * 16 ≤ 140737488355328)) <|
      go0 (node1, id2, t33, w64 (t34 + 1), r0, r0_i, r1, r2, b3_0, r7, r8, ((cut r9 0 i11) ++ [(b6_0, b6_1)]) ++ (cut r9 i11 (r9.length : Int)), r10)
  else
    grd (decide (0 ≤ i11)) <| grd (decide (i11 ≤ (r9.length : Int))) <| grd (decide ((cut r9 0 i11).length * 16 ≤ 140737488355328)) <| grd (decide (((cut r9 0 i11).length + 1) * 16 ≤ 140737488355328)) <| grd (decide (0 ≤ i11)) <| grd (decide (i11 ≤ (r9.length : Int))) <| grd (decide ((((cut r9 0 i11) ++ [(b6_0, b6_1)]).length + (cut r9 i11 (r9.length : Int)).length) * 16 ≤ 140737488355328)) <|
    go0 (node1, id2, t33, w64 (t34 + 1), r0, r0_i, r1, r2, b3_0, r7, r8, ((cut r9 0 i11) ++ [(b6_0, b6_1)]) ++ (cut r9 i11 (r9.length : Int)), r10)
noncomputable def spec_l16See.s0 (k : Nat) (go0 : (Int × Int × Int × Int × List (List Int × List (Int × Int) × List Int) × Int × List (Int × Int × Int × Int) × List Int × List Int × List Int × List Int × List (Int × Int) × List Int) → Option (List Int × List (List Int × List (Int × Int) × List Int) × List (Int × Int × Int × Int) × List Int)) : (Int × Int × Int × Int × List (List Int × List (Int × Int) × List Int) × Int × List (Int × Int × Int × Int) × List Int × List Int × List Int × List Int × List (Int × Int) × List Int) → Option (List Int × List (List Int × List (Int × Int) × List Int) × List (Int × Int × Int × Int) × List Int) := fun (node1, id2, t33, t34, r0, r0_i, r1, r2, b3_0, r6, r7, r8, r9) =>
  bif decide (t34 < t33) then
    grd (decide (0 ≤ t34)) <| grd (decide (t34 < (r6.length : Int))) <|
    iter (spec_l16See.s2 k go0) k (node1, id2, 0, t33, t34, r0, r0_i, r1, r2, b3_0, id2, rdOf 0 r6 t34, r6, r7, r8, r9)
  else
    grd (decide (0 ≤ node1)) <| grd (decide (node1 < (r0.length : Int))) <| grd (decide (node1 = r0_i)) <|
    some (b3_0, setI r0 node1 (r7, r8, r9), r1, r2)
noncomputable def spec_l16See.g (k : Nat) (c0_0 : List Int) (node1 : Int) (id2 : Int) (r0 : List (List Int × List (Int × Int) × List Int)) (r1 : List (Int × Int × Int × Int)) (r2 : List Int) : Option (List Int × List (List Int × List (Int × Int) × List Int) × List (Int × Int × Int × Int) × List Int) :=
  grd (decide (0 ≤ node1)) <| grd (decide (node1 < (r0.length : Int))) <|
  (spec_l7Put id2 (rdOf ([], [], []) r0 node1).1).bind fun c8 =>
  grd (decide (((rdOf ([], [], []) r0 node1).2.2.length + 1) * 8 ≤ 140737488355328)) <|
  (spec_l16Children c0_0 node1).bind fun c9 =>
  iter (spec_l16See.s0 k) k (node1, id2, (c9.length : Int), 0, r0, node1, r1, r2, c0_0, c9, c8, (rdOf ([], [], []) r0 node1).2.1, (rdOf ([], [], []) r0 node1).2.2 ++ [id2])
noncomputable def spec_l16See (c0_0 : List Int) (node1 : Int) (id2 : Int) (r0 : List (List Int × List (Int × Int) × List Int)) (r1 : List (Int × Int × Int × Int)) (r2 : List Int) : Option (List Int × List (List Int × List (Int × Int) × List Int) × List (Int × Int × Int × Int) × List Int) := lim fun k => spec_l16See.g k c0_0 node1 id2 r0 r1 r2
/-- f92 spec.l16Come -/
noncomputable def spec_l16Come.s0 (k : Nat) (go0 : (List (Int × Int) × Int × Int × List (List Int × List (Int × Int) × List Int) × List (Int × Int × Int × Int) × List Int × List Int × Int × Int × Int × Int × List (Int × Int)) → Option (List Int × List (List Int × List (Int × Int) × List Int) × List (Int × Int × Int × Int) × List Int)) : (List (Int × Int) × Int × Int × List (List Int × List (Int × Int) × List Int) × List (Int × Int × Int × Int) × List Int × List Int × Int × Int × Int × Int × List (Int × Int)) → Option (List Int × List (List Int × List (Int × Int) × List Int) × List (Int × Int × Int × Int) × List Int) := fun (t51, t52, t53, r0, r1, r2, b3_0, b4_0, b4_1, b4_2, b4_3, r6) =>
  bif decide (t53 < t52) then
    grd (decide (0 ≤ t53)) <| grd (decide (t53 < (t51.length : Int))) <|
    bif ((rdOf (0, 0) t51 t53).1 != b4_3) then
      grd (decide ((r6.length + 1) * 16 ≤ 140737488355328)) <|
      go0 (t51, t52, w64 (t53 + 1), r0, r1, r2, b3_0, b4_0, b4_1, b4_2, b4_3, r6 ++ [((rdOf (0, 0) t51 t53).1, (rdOf (0, 0) t51 t53).2)])
    else
      bif ((rdOf (0, 0) t51 t53).2 != b4_1) then
        grd (decide ((r6.length + 1) * 16 ≤ 140737488355328)) <|
        go0 (t51, t52, w64 (t53 + 1), r0, r1, r2, b3_0, b4_0, b4_1, b4_2, b4_3, r6 ++ [((rdOf (0, 0) t51 t53).1, (rdOf (0, 0) t51 t53).2)])
      else
        go0 (t51, t52, w64 (t53 + 1), r0, r1, r2, b3_0, b4_0, b4_1, b4_2, b4_3, r6)
  else
    grd (decide (0 ≤ b4_2)) <| grd (decide (b4_2 < (r0.length : Int))) <|
    some (b3_0, setI r0 b4_2 ((rdOf ([], [], []) r0 b4_2).1, r6, (rdOf ([], [], []) r0 b4_2).2.2), r1, r2)
noncomputable def spec_l16Come.g (k : Nat) (c0_0 : List Int) (s1_0 : Int) (s1_1 : Int) (s1_2 : Int) (s1_3 : Int) (r0 : List (List Int × List (Int × Int) × List Int)) (r1 : List (Int × Int × Int × Int)) (r2 : List Int) : Option (List Int × List (List Int × List (Int × Int) × List Int) × List (Int × Int × Int × Int) × List Int) :=
  bif (s1_0 == 1) then
    grd (decide (0 ≤ s1_2)) <| grd (decide (s1_2 < (r0.length : Int))) <|
    (spec_l1Has (rdOf ([], [], []) r0 s1_2).1 s1_3).bind fun c9 =>
    bif (!c9) then
      (spec_l16See c0_0 s1_2 s1_3 r0 r1 r2).bind fun (c10_0, c10_1, c10_2, c10_3) =>
      bif decide ((c10_2.length : Int) < 30) then
        grd (decide ((c10_2.length + 1) * 32 ≤ 140737488355328)) <|
        some (c10_0, c10_1, c10_2 ++ [(2, s1_2, s1_1, s1_3)], c10_3)
      else
        some (c10_0, c10_1, c10_2, c10_3)
    else
      bif decide ((r1.length : Int) < 30) then
        grd (decide ((r1.length + 1) * 32 ≤ 140737488355328)) <|
        some (c0_0, r0, r1 ++ [(2, s1_2, s1_1, s1_3)], r2)
      else
        some (c0_0, r0, r1, r2)
  else
    grd (decide (0 ≤ s1_2)) <| grd (decide (s1_2 < (r0.length : Int))) <|
    iter (spec_l16Come.s0 k) k ((rdOf ([], [], []) r0 s1_2).2.1, ((rdOf ([], [], []) r0 s1_2).2.1.length : Int), 0, r0, r1, r2, c0_0, s1_0, s1_1, s1_2, s1_3, [])
noncomputable def spec_l16Come (c0_0 : List Int) (s1_0 : Int) (s1_1 : Int) (s1_2 : Int) (s1_3 : Int) (r0 : List (List Int × List (Int × Int) × List Int)) (r1 : List (Int × Int × Int × Int)) (r2 : List Int) : Option (List Int × List (List Int × List (Int × Int) × List Int) × List (Int × Int × Int × Int) × List Int) := lim fun k => spec_l16Come.g k c0_0 s1_0 s1_1 s1_2 s1_3 r0 r1 r2
/-- f59 spec.l16Step -/
noncomputable def spec_l16Step (c0_0 : List Int) (s1_0 : Int) (s1_1 : Int) (s1_2 : Int) (s1_3 : Int) (r0 : List (List Int × List (Int × Int) × List Int)) (r1 : List (Int × Int × Int × Int)) (r2 : List Int) : Option (List Int × Bool × List (List Int × List (Int × Int) × List Int) × List (Int × Int × Int × Int) × List Int) :=
  bif (s1_0 == 1) then
    (spec_l16Id s1_2).bind fun c14 =>
    bif (!c14) then
      some (c0_0, false, r0, r1, r2)
    else
      grd (decide (0 < (r0.length : Int))) <|
      (spec_l1Has (rdOf ([], [], []) r0 0).1 s1_2).bind fun c15 =>
      bif c15 then
        some (c0_0, false, r0, r1, r2)
      else
        (spec_l16See c0_0 0 s1_2 r0 r1 r2).bind fun (c16_0, c16_1, c16_2, c16_3) =>
        grd (decide ((c16_3.length + 1) * 8 ≤ 140737488355328)) <|
        some (c16_0, true, c16_1, c16_2, c16_3 ++ [s1_2])
  else
    bif (s1_0 == 2) then
      bif decide (s1_1 < 0) then
        some (c0_0, false, r0, r1, r2)
      else
        bif decide (s1_1 ≥ (r0.length : Int)) then
          some (c0_0, false, r0, r1, r2)
        else
          bif decide (s1_3 < 0) then
            some (c0_0, false, r0, r1, r2)
          else
            grd (decide (0 ≤ s1_1)) <| grd (decide (s1_1 < (r0.length : Int))) <|
            bif decide (s1_3 ≥ ((rdOf ([], [], []) r0 s1_1).2.1.length : Int)) then
              some (c0_0, false, r0, r1, r2)
            else
              bif ((r1.length : Int) == 30) then
                some (c0_0, false, r0, r1, r2)
              else
                grd (decide (0 ≤ s1_1)) <| grd (decide (s1_1 < (r0.length : Int))) <| grd (decide (0 ≤ s1_3)) <| grd (decide (s1_3 < ((rdOf ([], [], []) r0 s1_1).2.1.length : Int))) <| grd (decide ((r1.length + 1) * 32 ≤ 140737488355328)) <|
                some (c0_0, true, r0, r1 ++ [(1, s1_1, (rdOf (0, 0) (rdOf ([], [], []) r0 s1_1).2.1 s1_3).2, (rdOf (0, 0) (rdOf ([], [], []) r0 s1_1).2.1 s1_3).1)], r2)
    else
      bif decide (s1_3 < 0) then
        some (c0_0, false, r0, r1, r2)
      else
        bif decide (s1_3 ≥ (r1.length : Int)) then
          some (c0_0, false, r0, r1, r2)
        else
          (spec_l1In s1_0 3 5).bind fun c17 =>
          bif (!c17) then
            some (c0_0, false, r0, r1, r2)
          else
            grd (decide (0 ≤ s1_3)) <| grd (decide (s1_3 < (r1.length : Int))) <|
            bif (s1_0 == 5) then
              bif ((r1.length : Int) == 30) then
                some (c0_0, false, r0, r1, r2)
              else
                grd (decide ((r1.length + 1) * 32 ≤ 140737488355328)) <|
                some (c0_0, true, r0, r1 ++ [((rdOf (0, 0, 0, 0) r1 s1_3).1, (rdOf (0, 0, 0, 0) r1 s1_3).2.1, (rdOf (0, 0, 0, 0) r1 s1_3).2.2.1, (rdOf (0, 0, 0, 0) r1 s1_3).2.2.2)], r2)
            else
              grd (decide (0 ≤ s1_3)) <| grd (decide (s1_3 ≤ (r1.length : Int))) <| grd (decide ((0 + (cut r1 0 s1_3).length) * 32 ≤ 140737488355328)) <| grd (decide (0 ≤ w64 (s1_3 + 1))) <| grd (decide (w64 (s1_3 + 1) ≤ (r1.length : Int))) <| grd (decide ((([] ++ (cut r1 0 s1_3)).length + (cut r1 (w64 (s1_3 + 1)) (r1.length : Int)).length) * 32 ≤ 140737488355328)) <|
              bif (s1_0 == 3) then
                (spec_l16Come c0_0 (rdOf (0, 0, 0, 0) r1 s1_3).1 (rdOf (0, 0, 0, 0) r1 s1_3).2.1 (rdOf (0, 0, 0, 0) r1 s1_3).2.2.1 (rdOf (0, 0, 0, 0) r1 s1_3).2.2.2 r0 (([] ++ (cut r1 0 s1_3)) ++ (cut r1 (w64 (s1_3 + 1)) (r1.length : Int))) r2).bind fun (c18_0, c18_1, c18_2, c18_3) =>
                some (c18_0, true, c18_1, c18_2, c18_3)
              else
                some (c0_0, true, r0, ([] ++ (cut r1 0 s1_3)) ++ (cut r1 (w64 (s1_3 + 1)) (r1.length : Int)), r2)
/-- f60 spec.l16Own -/
noncomputable def spec_l16Own.s0 (k : Nat) (go0 : (List (List Int × List (Int × Int) × List Int) × Int × Int × List Int × List (List Int × List (Int × Int) × List Int) × List (Int × Int × Int × Int) × List Int) → Option (List Int × List (List Int × List (Int × Int) × List Int) × List (Int × Int × Int × Int) × List Int)) : (List (List Int × List (Int × Int) × List Int) × Int × Int × List Int × List (List Int × List (Int × Int) × List Int) × List (Int × Int × Int × Int) × List Int) → Option (List Int × List (List Int × List (Int × Int) × List Int) × List (Int × Int × Int × Int) × List Int) := fun (t20, t21, t22, r2, r3, r4, r5) =>
  bif decide (t22 < t21) then
    grd (decide (0 ≤ t22)) <| grd (decide (t22 < (t20.length : Int))) <| grd (decide ((0 + (rdOf ([], [], []) t20 t22).1.length) * 8 ≤ 140737488355328)) <| grd (decide ((0 + (rdOf ([], [], []) t20 t22).2.1.length) * 16 ≤ 140737488355328)) <| grd (decide ((0 + (rdOf ([], [], []) t20 t22).2.2.length) * 8 ≤ 140737488355328)) <| grd (decide ((r3.length + 1) * 72 ≤ 140737488355328)) <|
    go0 (t20, t21, w64 (t22 + 1), r2, r3 ++ [([] ++ (rdOf ([], [], []) t20 t22).1, [] ++ (rdOf ([], [], []) t20 t22).2.1, [] ++ (rdOf ([], [], []) t20 t22).2.2)], r4, r5)
  else
    some (r2, r3, r4, r5)
noncomputable def spec_l16Own.g (k : Nat) (c0_0 : List Int) (c0_1 : List (List Int × List (Int × Int) × List Int)) (c0_2 : List (Int × Int × Int × Int)) (c0_3 : List Int) : Option (List Int × List (List Int × List (Int × Int) × List Int) × List (Int × Int × Int × Int) × List Int) :=
  grd (decide ((0 + c0_0.length) * 8 ≤ 140737488355328)) <| grd (decide ((0 + c0_2.length) * 32 ≤ 140737488355328)) <| grd (decide ((0 + c0_3.length) * 8 ≤ 140737488355328)) <|
  iter (spec_l16Own.s0 k) k (c0_1, (c0_1.length : Int), 0, [] ++ c0_0, [], [] ++ c0_2, [] ++ c0_3)
noncomputable def spec_l16Own (c0_0 : List Int) (c0_1 : List (List Int × List (Int × Int) × List Int)) (c0_2 : List (Int × Int × Int × Int)) (c0_3 : List Int) : Option (List Int × List (List Int × List (Int × Int) × List Int) × List (Int × Int × Int × Int) × List Int) := lim fun k => spec_l16Own.g k c0_0 c0_1 c0_2 c0_3
/-- f16 spec.PlayCustody -/
noncomputable def spec_PlayCustody.s0 (k : Nat) (go0 : (List (Int × Int × Int × Int) × Int × Int × List Int × List Bool × List (List Int × List (Int × Int) × List Int) × List (Int × Int × Int × Int) × List Int) → Option (Bool × List Int × List (List Int × List (Int × Int) × List Int) × List (Int × Int × Int × Int) × List Int × List Bool)) : (List (Int × Int × Int × Int) × Int × Int × List Int × List Bool × List (List Int × List (Int × Int) × List Int) × List (Int × Int × Int × Int) × List Int) → Option (Bool × List Int × List (List Int × List (Int × Int) × List Int) × List (Int × Int × Int × Int) × List Int × List Bool) := fun (t27, t28, t29, b1_0, r2, r3, r4, r5) =>
  bif decide (t29 < t28) then
    grd (decide (0 ≤ t29)) <| grd (decide (t29 < (t27.length : Int))) <|
    (spec_l16Own b1_0 r3 r4 r5).bind fun (c11_0, c11_1, c11_2, c11_3) =>
    (spec_l16Step c11_0 (rdOf (0, 0, 0, 0) t27 t29).1 (rdOf (0, 0, 0, 0) t27 t29).2.1 (rdOf (0, 0, 0, 0) t27 t29).2.2.1 (rdOf (0, 0, 0, 0) t27 t29).2.2.2 c11_1 c11_2 c11_3).bind fun (c12_0, c12_1, c12_2, c12_3, c12_4) =>
    bif c12_1 then
      grd (decide ((r2.length + 1) * 1 ≤ 140737488355328)) <|
      go0 (t27, t28, w64 (t29 + 1), c12_0, r2 ++ [c12_1], c12_2, c12_3, c12_4)
    else
      grd (decide ((r2.length + 1) * 1 ≤ 140737488355328)) <|
      go0 (t27, t28, w64 (t29 + 1), b1_0, r2 ++ [c12_1], r3, r4, r5)
  else
    (spec_l16Own b1_0 r3 r4 r5).bind fun (c13_0, c13_1, c13_2, c13_3) =>
    some (true, c13_0, c13_1, c13_2, c13_3, r2)
noncomputable def spec_PlayCustody.g (k : Nat) (up0 : List Int) (l1 : List (Int × Int × Int × Int)) : Option (Bool × List Int × List (List Int × List (Int × Int) × List Int) × List (Int × Int × Int × Int) × List Int × List Bool) :=
  (spec_NewCustody up0).bind fun (c10_0, c10_1, c10_2) =>
  bif (!c10_0) then
    some (false, [], [], [], [], [])
  else
    bif decide ((l1.length : Int) > 200) then
      some (false, [], [], [], [], [])
    else
      iter (spec_PlayCustody.s0 k) k (l1, (l1.length : Int), 0, c10_1, [], c10_2, [], [])
noncomputable def spec_PlayCustody (up0 : List Int) (l1 : List (Int × Int × Int × Int)) : Option (Bool × List Int × List (List Int × List (Int × Int) × List Int) × List (Int × Int × Int × Int) × List Int × List Bool) := lim fun k => spec_PlayCustody.g k up0 l1
/-- f20 laws.szCusStepS -/
noncomputable def laws_szCusStepS (a0 : List (Int × Int × Int × Int)) (left1 : Int) : Option (Int) :=
  bif decide (w64 (left1 - (a0.length : Int)) < 0) then
    some (-1)
  else
    some (w64 (left1 - (a0.length : Int)))
/-- f21 laws.toIntS -/
noncomputable def laws_toIntS.s0 (k : Nat) (go0 : (List Int × Int × List Int) → Option (List Int)) : (List Int × Int × List Int) → Option (List Int) := fun (a0, i4, r0) =>
  bif decide (i4 < (a0.length : Int)) then
    grd (decide (0 ≤ i4)) <| grd (decide (i4 < (a0.length : Int))) <| grd (decide (0 ≤ i4)) <| grd (decide (i4 < (r0.length : Int))) <|
    go0 (a0, w64 (i4 + 1), setI r0 i4 (rdOf 0 a0 i4))
  else
    some r0
noncomputable def laws_toIntS.g (k : Nat) (a0 : List Int) : Option (List Int) :=
  grd ((a0.length : Int) == (a0.length : Int)) <| grd (decide (0 ≤ (a0.length : Int))) <| grd (decide (((a0.length : Int)).toNat * 8 ≤ 140737488355328)) <|
  iter (laws_toIntS.s0 k) k (a0, 0, List.replicate ((a0.length : Int)).toNat 0)
noncomputable def laws_toIntS (a0 : List Int) : Option (List Int) := lim fun k => laws_toIntS.g k a0
/-- f63 laws.toCusStep -/
noncomputable def laws_toCusStep (a0_0 : Int) (a0_1 : Int) (a0_2 : Int) (a0_3 : Int) : Option (Int × Int × Int × Int) :=
  some (a0_0, a0_1, a0_2, a0_3)
/-- f22 laws.toCusStepS -/
noncomputable def laws_toCusStepS.s0 (k : Nat) (go0 : (List (Int × Int × Int × Int) × Int × List (Int × Int × Int × Int)) → Option (List (Int × Int × Int × Int))) : (List (Int × Int × Int × Int) × Int × List (Int × Int × Int × Int)) → Option (List (Int × Int × Int × Int)) := fun (a0, i4, r0) =>
  bif decide (i4 < (a0.length : Int)) then
    grd (decide (0 ≤ i4)) <| grd (decide (i4 < (a0.length : Int))) <|
    (laws_toCusStep (rdOf (0, 0, 0, 0) a0 i4).1 (rdOf (0, 0, 0, 0) a0 i4).2.1 (rdOf (0, 0, 0, 0) a0 i4).2.2.1 (rdOf (0, 0, 0, 0) a0 i4).2.2.2).bind fun (c2_0, c2_1, c2_2, c2_3) =>
    grd (decide (0 ≤ i4)) <| grd (decide (i4 < (r0.length : Int))) <|
    go0 (a0, w64 (i4 + 1), setI r0 i4 (c2_0, c2_1, c2_2, c2_3))
  else
    some r0
noncomputable def laws_toCusStepS.g (k : Nat) (a0 : List (Int × Int × Int × Int)) : Option (List (Int × Int × Int × Int)) :=
  grd ((a0.length : Int) == (a0.length : Int)) <| grd (decide (0 ≤ (a0.length : Int))) <| grd (decide (((a0.length : Int)).toNat * 32 ≤ 140737488355328)) <|
  iter (laws_toCusStepS.s0 k) k (a0, 0, List.replicate ((a0.length : Int)).toNat (0, 0, 0, 0))
noncomputable def laws_toCusStepS (a0 : List (Int × Int × Int × Int)) : Option (List (Int × Int × Int × Int)) := lim fun k => laws_toCusStepS.g k a0
/-- f23 laws.eqBoolS -/
noncomputable def laws_eqBoolS.s0 (k : Nat) (go0 : (List Bool × List Bool × Int) → Option (Bool)) : (List Bool × List Bool × Int) → Option (Bool) := fun (a0, b1, i5) =>
  bif decide (i5 < (a0.length : Int)) then
    grd (decide (0 ≤ i5)) <| grd (decide (i5 < (a0.length : Int))) <| grd (decide (0 ≤ i5)) <| grd (decide (i5 < (b1.length : Int))) <|
    bif (!(rdOf false a0 i5 == rdOf false b1 i5)) then
      some false
    else
      go0 (a0, b1, w64 (i5 + 1))
  else
    some true
noncomputable def laws_eqBoolS.g (k : Nat) (a0 : List Bool) (b1 : List Bool) : Option (Bool) :=
  bif ((a0.length : Int) != (b1.length : Int)) then
    some false
  else
    iter (laws_eqBoolS.s0 k) k (a0, b1, 0)
noncomputable def laws_eqBoolS (a0 : List Bool) (b1 : List Bool) : Option (Bool) := lim fun k => laws_eqBoolS.g k a0 b1
/-- f64 laws.eqCusStep -/
noncomputable def laws_eqCusStep (a0_0 : Int) (a0_1 : Int) (a0_2 : Int) (a0_3 : Int) (b1_0 : Int) (b1_1 : Int) (b1_2 : Int) (b1_3 : Int) : Option (Bool) :=
  bif (a0_0 != b1_0) then
    some false
  else
    bif (a0_1 != b1_1) then
      some false
    else
      bif (a0_2 != b1_2) then
        some false
      else
        bif (a0_3 != b1_3) then
          some false
        else
          some true
/-- f25 laws.eqCusStepS -/
noncomputable def laws_eqCusStepS.s0 (k : Nat) (go0 : (List (Int × Int × Int × Int) × List (Int × Int × Int × Int) × Int) → Option (Bool)) : (List (Int × Int × Int × Int) × List (Int × Int × Int × Int) × Int) → Option (Bool) := fun (a0, b1, i5) =>
  bif decide (i5 < (a0.length : Int)) then
    grd (decide (0 ≤ i5)) <| grd (decide (i5 < (a0.length : Int))) <| grd (decide (0 ≤ i5)) <| grd (decide (i5 < (b1.length : Int))) <|
    (laws_eqCusStep (rdOf (0, 0, 0, 0) a0 i5).1 (rdOf (0, 0, 0, 0) a0 i5).2.1 (rdOf (0, 0, 0, 0) a0 i5).2.2.1 (rdOf (0, 0, 0, 0) a0 i5).2.2.2 (rdOf (0, 0, 0, 0) b1 i5).1 (rdOf (0, 0, 0, 0) b1 i5).2.1 (rdOf (0, 0, 0, 0) b1 i5).2.2.1 (rdOf (0, 0, 0, 0) b1 i5).2.2.2).bind fun c1 =>
    bif (!c1) then
      some false
    else
      go0 (a0, b1, w64 (i5 + 1))
  else
    some true
noncomputable def laws_eqCusStepS.g (k : Nat) (a0 : List (Int × Int × Int × Int)) (b1 : List (Int × Int × Int × Int)) : Option (Bool) :=
  bif ((a0.length : Int) != (b1.length : Int)) then
    some false
  else
    iter (laws_eqCusStepS.s0 k) k (a0, b1, 0)
noncomputable def laws_eqCusStepS (a0 : List (Int × Int × Int × Int)) (b1 : List (Int × Int × Int × Int)) : Option (Bool) := lim fun k => laws_eqCusStepS.g k a0 b1
/-- f26 laws.markIntS -/
noncomputable def laws_markIntS.s0 (k : Nat) (go0 : (Int × Int × List Int) → Option (Int × List Int)) : (Int × Int × List Int) → Option (Int × List Int) := fun (k1, i5, r0) =>
  bif decide (i5 < (r0.length : Int)) then
    grd (decide (0 ≤ i5)) <| grd (decide (i5 < (r0.length : Int))) <|
    go0 (w64 (k1 + 1), w64 (i5 + 1), setI r0 i5 k1)
  else
    some (k1, r0)
noncomputable def laws_markIntS.g (k : Nat) (k1 : Int) (r0 : List Int) : Option (Int × List Int) :=
  iter (laws_markIntS.s0 k) k (k1, 0, r0)
noncomputable def laws_markIntS (k1 : Int) (r0 : List Int) : Option (Int × List Int) := lim fun k => laws_markIntS.g k k1 r0
/-- f27 laws.markCusStepS -/
noncomputable def laws_markCusStepS.s0 (k : Nat) (go0 : (Int × Int × List (Int × Int × Int × Int)) → Option (Int × List (Int × Int × Int × Int))) : (Int × Int × List (Int × Int × Int × Int)) → Option (Int × List (Int × Int × Int × Int)) := fun (k1, i5, r0) =>
  bif decide (i5 < (r0.length : Int)) then
    grd (decide (0 ≤ i5)) <| grd (decide (i5 < (r0.length : Int))) <| grd (decide (0 ≤ i5)) <| grd (decide (i5 < ((setI r0 i5 (k1, (rdOf (0, 0, 0, 0) r0 i5).2)).length : Int))) <| grd (decide (0 ≤ i5)) <| grd (decide (i5 < ((setI (setI r0 i5 (k1, (rdOf (0, 0, 0, 0) r0 i5).2)) i5 ((rdOf (0, 0, 0, 0) (setI r0 i5 (k1, (rdOf (0, 0, 0, 0) r0 i5).2)) i5).1, w64 (k1 + 1), (rdOf (0, 0, 0, 0) (setI r0 i5 (k1, (rdOf (0, 0, 0, 0) r0 i5).2)) i5).2.2)).length : Int))) <| grd (decide (0 ≤ i5)) <| grd (decide (i5 < ((setI (setI (setI r0 i5 (k1, (rdOf (0, 0, 0, 0) r0 i5).2)) i5 ((rdOf (0, 0, 0, 0) (setI r0 i5 (k1, (rdOf (0, 0, 0, 0) r0 i5).2)) i5).1, w64 (k1 + 1), (rdOf (0, 0, 0, 0) (setI r0 i5 (k1, (rdOf (0, 0, 0, 0) r0 i5).2)) i5).2.2)) i5 ((rdOf (0, 0, 0, 0) (setI (setI r0 i5 (k1, (rdOf (0, 0, 0, 0) r0 i5).2)) i5 ((rdOf (0, 0, 0, 0) (setI r0 i5 (k1, (rdOf (0, 0, 0, 0) r0 i5).2)) i5).1, w64 (k1 + 1), (rdOf (0, 0, 0, 0) (setI r0 i5 (k1, (rdOf (0, 0, 0, 0) r0 i5).2)) i5).2.2)) i5).1, (rdOf (0, 0, 0, 0) (setI (setI r0 i5 (k1, (rdOf (0, 0, 0, 0) r0 i5).2)) i5 ((rdOf (0, 0, 0, 0) (setI r0 i5 (k1, (rdOf (0, 0, 0, 0) r0 i5).2)) i5).1, w64 (k1 + 1), (rdOf (0, 0, 0, 0) (setI r0 i5 (k1, (rdOf (0, 0, 0, 0) r0 i5).2)) i5).2.2)) i5).2.1, w64 ((w64 (k1 + 1)) + 1), (rdOf (0, 0, 0, 0) (setI (setI r0 i5 (k1, (rdOf (0, 0, 0, 0) r0 i5).2)) i5 ((rdOf (0, 0, 0, 0) (setI r0 i5 (k1, (rdOf (0, 0, 0, 0) r0 i5).2)) i5).1, w64 (k1 + 1), (rdOf (0, 0, 0, 0) (setI r0 i5 (k1, (rdOf (0, 0, 0, 0) r0 i5).2)) i5).2.2)) i5).2.2.2)).length : Int))) <|
    go0 (w64 ((w64 ((w64 ((w64 (k1 + 1)) + 1)) + 1)) + 1), w64 (i5 + 1), setI (setI (setI (setI r0 i5 (k1, (rdOf (0, 0, 0, 0) r0 i5).2)) i5 ((rdOf (0, 0, 0, 0) (setI r0 i5 (k1, (rdOf (0, 0, 0, 0) r0 i5).2)) i5).1, w64 (k1 + 1), (rdOf (0, 0, 0, 0) (setI r0 i5 (k1, (rdOf (0, 0, 0, 0) r0 i5).2)) i5).2.2)) i5 ((rdOf (0, 0, 0, 0) (setI (setI r0 i5 (k1, (rdOf (0, 0, 0, 0) r0 i5).2)) i5 ((rdOf (0, 0, 0, 0) (setI r0 i5 (k1, (rdOf (0, 0, 0, 0) r0 i5).2)) i5).1, w64 (k1 + 1), (rdOf (0, 0, 0, 0) (setI r0 i5 (k1, (rdOf (0, 0, 0, 0) r0 i5).2)) i5).2.2)) i5).1, (rdOf (0, 0, 0, 0) (setI (setI r0 i5 (k1, (rdOf (0, 0, 0, 0) r0 i5).2)) i5 ((rdOf (0, 0, 0, 0) (setI r0 i5 (k1, (rdOf (0, 0, 0, 0) r0 i5).2)) i5).1, w64 (k1 + 1), (rdOf (0, 0, 0, 0) (setI r0 i5 (k1, (rdOf (0, 0, 0, 0) r0 i5).2)) i5).2.2)) i5).2.1, w64 ((w64 (k1 + 1)) + 1), (rdOf (0, 0, 0, 0) (setI (setI r0 i5 (k1, (rdOf (0, 0, 0, 0) r0 i5).2)) i5 ((rdOf (0, 0, 0, 0) (setI r0 i5 (k1, (rdOf (0, 0, 0, 0) r0 i5).2)) i5).1, w64 (k1 + 1), (rdOf (0, 0, 0, 0) (setI r0 i5 (k1, (rdOf (0, 0, 0, 0) r0 i5).2)) i5).2.2)) i5).2.2.2)) i5 ((rdOf (0, 0, 0, 0) (setI (setI (setI r0 i5 (k1, (rdOf (0, 0, 0, 0) r0 i5).2)) i5 ((rdOf (0, 0, 0, 0) (setI r0 i5 (k1, (rdOf (0, 0, 0, 0) r0 i5).2)) i5).1, w64 (k1 + 1), (rdOf (0, 0, 0, 0) (setI r0 i5 (k1, (rdOf (0, 0, 0, 0) r0 i5).2)) i5).2.2)) i5 ((rdOf (0, 0, 0, 0) (setI (setI r0 i5 (k1, (rdOf (0, 0, 0, 0) r0 i5).2)) i5 ((rdOf (0, 0, 0, 0) (setI r0 i5 (k1, (rdOf (0, 0, 0, 0) r0 i5).2)) i5).1, w64 (k1 + 1), (rdOf (0, 0, 0, 0) (setI r0 i5 (k1, (rdOf (0, 0, 0, 0) r0 i5).2)) i5).2.2)) i5).1, (rdOf (0, 0, 0, 0) (setI (setI r0 i5 (k1, (rdOf (0, 0, 0, 0) r0 i5).2)) i5 ((rdOf (0, 0, 0, 0) (setI r0 i5 (k1, (rdOf (0, 0, 0, 0) r0 i5).2)) i5).1, w64 (k1 + 1), (rdOf (0, 0, 0, 0) (setI r0 i5 (k1, (rdOf (0, 0, 0, 0) r0 i5).2)) i5).2.2)) i5).2.1, w64 ((w64 (k1 + 1)) + 1), (rdOf (0, 0, 0, 0) (setI (setI r0 i5 (k1, (rdOf (0, 0, 0, 0) r0 i5).2)) i5 ((rdOf (0, 0, 0, 0) (setI r0 i5 (k1, (rdOf (0, 0, 0, 0) r0 i5).2)) i5).1, w64 (k1 + 1), (rdOf (0, 0, 0, 0) (setI r0 i5 (k1, (rdOf (0, 0, 0, 0) r0 i5).2)) i5).2.2)) i5).2.2.2)) i5).1, (rdOf (0, 0, 0, 0) (setI (setI (setI r0 i5 (k1, (rdOf (0, 0, 0, 0) r0 i5).2)) i5 ((rdOf (0, 0, 0, 0) (setI r0 i5 (k1, (rdOf (0, 0, 0, 0) r0 i5).2)) i5).1, w64 (k1 + 1), (rdOf (0, 0, 0, 0) (setI r0 i5 (k1, (rdOf (0, 0, 0, 0) r0 i5).2)) i5).2.2)) i5 ((rdOf (0, 0, 0, 0) (setI (setI r0 i5 (k1, (rdOf (0, 0, 0, 0) r0 i5).2)) i5 ((rdOf (0, 0, 0, 0) (setI r0 i5 (k1, (rdOf (0, 0, 0, 0) r0 i5).2)) i5).1, w64 (k1 + 1), (rdOf (0, 0, 0, 0) (setI r0 i5 (k1, (rdOf (0, 0, 0, 0) r0 i5).2)) i5).2.2)) i5).1, (rdOf (0, 0, 0, 0) (setI (setI r0 i5 (k1, (rdOf (0, 0, 0, 0) r0 i5).2)) i5 ((rdOf (0, 0, 0, 0) (setI r0 i5 (k1, (rdOf (0, 0, 0, 0) r0 i5).2)) i5).1, w64 (k1 + 1), (rdOf (0, 0, 0, 0) (setI r0 i5 (k1, (rdOf (0, 0, 0, 0) r0 i5).2)) i5).2.2)) i5).2.1, w64 ((w64 (k1 + 1)) + 1), (rdOf (0, 0, 0, 0) (setI (setI r0 i5 (k1, (rdOf (0, 0, 0, 0) r0 i5).2)) i5 ((rdOf (0, 0, 0, 0) (setI r0 i5 (k1, (rdOf (0, 0, 0, 0) r0 i5).2)) i5).1, w64 (k1 + 1), (rdOf (0, 0, 0, 0) (setI r0 i5 (k1, (rdOf (0, 0, 0, 0) r0 i5).2)) i5).2.2)) i5).2.2.2)) i5).2.1, (rdOf (0, 0, 0, 0) (setI (setI (setI r0 i5 (k1, (rdOf (0, 0, 0, 0) r0 i5).2)) i5 ((rdOf (0, 0, 0, 0) (setI r0 i5 (k1, (rdOf (0, 0, 0, 0) r0 i5).2)) i5).1, w64 (k1 + 1), (rdOf (0, 0, 0, 0) (setI r0 i5 (k1, (rdOf (0, 0, 0, 0) r0 i5).2)) i5).2.2)) i5 ((rdOf (0, 0, 0, 0) (setI (setI r0 i5 (k1, (rdOf (0, 0, 0, 0) r0 i5).2)) i5 ((rdOf (0, 0, 0, 0) (setI r0 i5 (k1, (rdOf (0, 0, 0, 0) r0 i5).2)) i5).1, w64 (k1 + 1), (rdOf (0, 0, 0, 0) (setI r0 i5 (k1, (rdOf (0, 0, 0, 0) r0 i5).2)) i5).2.2)) i5).1, (rdOf (0, 0, 0, 0) (setI (setI r0 i5 (k1, (rdOf (0, 0, 0, 0) r0 i5).2)) i5 ((rdOf (0, 0, 0, 0) (setI r0 i5 (k1, (rdOf (0, 0, 0, 0) r0 i5).2)) i5).1, w64 (k1 + 1), (rdOf (0, 0, 0, 0) (setI r0 i5 (k1, (rdOf (0, 0, 0, 0) r0 i5).2)) i5).2.2)) i5).2.1, w64 ((w64 (k1 + 1)) + 1), (rdOf (0, 0, 0, 0) (setI (setI r0 i5 (k1, (rdOf (0, 0, 0, 0) r0 i5).2)) i5 ((rdOf (0, 0, 0, 0) (setI r0 i5 (k1, (rdOf (0, 0, 0, 0) r0 i5).2)) i5).1, w64 (k1 + 1), (rdOf (0, 0, 0, 0) (setI r0 i5 (k1, (rdOf (0, 0, 0, 0) r0 i5).2)) i5).2.2)) i5).2.2.2)) i5).2.2.1, w64 ((w64 ((w64 (k1 + 1)) + 1)) + 1)))
  else
    some (k1, r0)
noncomputable def laws_markCusStepS.g (k : Nat) (k1 : Int) (r0 : List (Int × Int × Int × Int)) : Option (Int × List (Int × Int × Int × Int)) :=
  iter (laws_markCusStepS.s0 k) k (k1, 0, r0)
noncomputable def laws_markCusStepS (k1 : Int) (r0 : List (Int × Int × Int × Int)) : Option (Int × List (Int × Int × Int × Int)) := lim fun k => laws_markCusStepS.g k k1 r0
/-- f93 laws.markHoldS -/
noncomputable def laws_markHoldS.s0 (k : Nat) (go0 : (Int × Int × List (Int × Int)) → Option (Int × List (Int × Int))) : (Int × Int × List (Int × Int)) → Option (Int × List (Int × Int)) := fun (k1, i5, r0) =>
  bif decide (i5 < (r0.length : Int)) then
    grd (decide (0 ≤ i5)) <| grd (decide (i5 < (r0.length : Int))) <| grd (decide (0 ≤ i5)) <| grd (decide (i5 < ((setI r0 i5 (k1, (rdOf (0, 0) r0 i5).2)).length : Int))) <|
    go0 (w64 ((w64 (k1 + 1)) + 1), w64 (i5 + 1), setI (setI r0 i5 (k1, (rdOf (0, 0) r0 i5).2)) i5 ((rdOf (0, 0) (setI r0 i5 (k1, (rdOf (0, 0) r0 i5).2)) i5).1, w64 (k1 + 1)))
  else
    some (k1, r0)
noncomputable def laws_markHoldS.g (k : Nat) (k1 : Int) (r0 : List (Int × Int)) : Option (Int × List (Int × Int)) :=
  iter (laws_markHoldS.s0 k) k (k1, 0, r0)
noncomputable def laws_markHoldS (k1 : Int) (r0 : List (Int × Int)) : Option (Int × List (Int × Int)) := lim fun k => laws_markHoldS.g k k1 r0
/-- f65 laws.markKeeperS -/
noncomputable def laws_markKeeperS.s0 (k : Nat) (go0 : (Int × Int × List (List Int × List (Int × Int) × List Int)) → Option (Int × List (List Int × List (Int × Int) × List Int))) : (Int × Int × List (List Int × List (Int × Int) × List Int)) → Option (Int × List (List Int × List (Int × Int) × List Int)) := fun (k1, i5, r0) =>
  bif decide (i5 < (r0.length : Int)) then
    grd (decide (0 ≤ i5)) <| grd (decide (i5 < (r0.length : Int))) <|
    (laws_markIntS k1 (rdOf ([], [], []) r0 i5).1).bind fun (c4_0, c4_1) =>
    grd (decide (0 ≤ i5)) <| grd (decide (i5 < ((setI r0 i5 (c4_1, (rdOf ([], [], []) r0 i5).2)).length : Int))) <|
    (laws_markHoldS c4_0 (rdOf ([], [], []) (setI r0 i5 (c4_1, (rdOf ([], [], []) r0 i5).2)) i5).2.1).bind fun (c5_0, c5_1) =>
    grd (decide (0 ≤ i5)) <| grd (decide (i5 < ((setI (setI r0 i5 (c4_1, (rdOf ([], [], []) r0 i5).2)) i5 ((rdOf ([], [], []) (setI r0 i5 (c4_1, (rdOf ([], [], []) r0 i5).2)) i5).1, c5_1, (rdOf ([], [], []) (setI r0 i5 (c4_1, (rdOf ([], [], []) r0 i5).2)) i5).2.2)).length : Int))) <|
    (laws_markIntS c5_0 (rdOf ([], [], []) (setI (setI r0 i5 (c4_1, (rdOf ([], [], []) r0 i5).2)) i5 ((rdOf ([], [], []) (setI r0 i5 (c4_1, (rdOf ([], [], []) r0 i5).2)) i5).1, c5_1, (rdOf ([], [], []) (setI r0 i5 (c4_1, (rdOf ([], [], []) r0 i5).2)) i5).2.2)) i5).2.2).bind fun (c6_0, c6_1) =>
    go0 (c6_0, w64 (i5 + 1), setI (setI (setI r0 i5 (c4_1, (rdOf ([], [], []) r0 i5).2)) i5 ((rdOf ([], [], []) (setI r0 i5 (c4_1, (rdOf ([], [], []) r0 i5).2)) i5).1, c5_1, (rdOf ([], [], []) (setI r0 i5 (c4_1, (rdOf ([], [], []) r0 i5).2)) i5).2.2)) i5 ((rdOf ([], [], []) (setI (setI r0 i5 (c4_1, (rdOf ([], [], []) r0 i5).2)) i5 ((rdOf ([], [], []) (setI r0 i5 (c4_1, (rdOf ([], [], []) r0 i5).2)) i5).1, c5_1, (rdOf ([], [], []) (setI r0 i5 (c4_1, (rdOf ([], [], []) r0 i5).2)) i5).2.2)) i5).1, (rdOf ([], [], []) (setI (setI r0 i5 (c4_1, (rdOf ([], [], []) r0 i5).2)) i5 ((rdOf ([], [], []) (setI r0 i5 (c4_1, (rdOf ([], [], []) r0 i5).2)) i5).1, c5_1, (rdOf ([], [], []) (setI r0 i5 (c4_1, (rdOf ([], [], []) r0 i5).2)) i5).2.2)) i5).2.1, c6_1))
  else
    some (k1, r0)
noncomputable def laws_markKeeperS.g (k : Nat) (k1 : Int) (r0 : List (List Int × List (Int × Int) × List Int)) : Option (Int × List (List Int × List (Int × Int) × List Int)) :=
  iter (laws_markKeeperS.s0 k) k (k1, 0, r0)
noncomputable def laws_markKeeperS (k1 : Int) (r0 : List (List Int × List (Int × Int) × List Int)) : Option (Int × List (List Int × List (Int × Int) × List Int)) := lim fun k => laws_markKeeperS.g k k1 r0
/-- f66 laws.markSlipS -/
noncomputable def laws_markSlipS.s0 (k : Nat) (go0 : (Int × Int × List (Int × Int × Int × Int)) → Option (Int × List (Int × Int × Int × Int))) : (Int × Int × List (Int × Int × Int × Int)) → Option (Int × List (Int × Int × Int × Int)) := fun (k1, i5, r0) =>
  bif decide (i5 < (r0.length : Int)) then
    grd (decide (0 ≤ i5)) <| grd (decide (i5 < (r0.length : Int))) <| grd (decide (0 ≤ i5)) <| grd (decide (i5 < ((setI r0 i5 (k1, (rdOf (0, 0, 0, 0) r0 i5).2)).length : Int))) <| grd (decide (0 ≤ i5)) <| grd (decide (i5 < ((setI (setI r0 i5 (k1, (rdOf (0, 0, 0, 0) r0 i5).2)) i5 ((rdOf (0, 0, 0, 0) (setI r0 i5 (k1, (rdOf (0, 0, 0, 0) r0 i5).2)) i5).1, w64 (k1 + 1), (rdOf (0, 0, 0, 0) (setI r0 i5 (k1, (rdOf (0, 0, 0, 0) r0 i5).2)) i5).2.2)).length : Int))) <| grd (decide (0 ≤ i5)) <| grd (decide (i5 < ((setI (setI (setI r0 i5 (k1, (rdOf (0, 0, 0, 0) r0 i5).2)) i5 ((rdOf (0, 0, 0, 0) (setI r0 i5 (k1, (rdOf (0, 0, 0, 0) r0 i5).2)) i5).1, w64 (k1 + 1), (rdOf (0, 0, 0, 0) (setI r0 i5 (k1, (rdOf (0, 0, 0, 0) r0 i5).2)) i5).2.2)) i5 ((rdOf (0, 0, 0, 0) (setI (setI r0 i5 (k1, (rdOf (0, 0, 0, 0) r0 i5).2)) i5 ((rdOf (0, 0, 0, 0) (setI r0 i5 (k1, (rdOf (0, 0, 0, 0) r0 i5).2)) i5).1, w64 (k1 + 1), (rdOf (0, 0, 0, 0) (setI r0 i5 (k1, (rdOf (0, 0, 0, 0) r0 i5).2)) i5).2.2)) i5).1, (rdOf (0, 0, 0, 0) (setI (setI r0 i5 (k1, (rdOf (0, 0, 0, 0) r0 i5).2)) i5 ((rdOf (0, 0, 0, 0) (setI r0 i5 (k1, (rdOf (0, 0, 0, 0) r0 i5).2)) i5).1, w64 (k1 + 1), (rdOf (0, 0, 0, 0) (setI r0 i5 (k1, (rdOf (0, 0, 0, 0) r0 i5).2)) i5).2.2)) i5).2.1, w64 ((w64 (k1 + 1)) + 1), (rdOf (0, 0, 0, 0) (setI (setI r0 i5 (k1, (rdOf (0, 0, 0, 0) r0 i5).2)) i5 ((rdOf (0, 0, 0, 0) (setI r0 i5 (k1, (rdOf (0, 0, 0, 0) r0 i5).2)) i5).1, w64 (k1 + 1), (rdOf (0, 0, 0, 0) (setI r0 i5 (k1, (rdOf (0, 0, 0, 0) r0 i5).2)) i5).2.2)) i5).2.2.2)).length : Int))) <|
    go0 (w64 ((w64 ((w64 ((w64 (k1 + 1)) + 1)) + 1)) + 1), w64 (i5 + 1), setI (setI (setI (setI r0 i5 (k1, (rdOf (0, 0, 0, 0) r0 i5).2)) i5 ((rdOf (0, 0, 0, 0) (setI r0 i5 (k1, (rdOf (0, 0, 0, 0) r0 i5).2)) i5).1, w64 (k1 + 1), (rdOf (0, 0, 0, 0) (setI r0 i5 (k1, (rdOf (0, 0, 0, 0) r0 i5).2)) i5).2.2)) i5 ((rdOf (0, 0, 0, 0) (setI (setI r0 i5 (k1, (rdOf (0, 0, 0, 0) r0 i5).2)) i5 ((rdOf (0, 0, 0, 0) (setI r0 i5 (k1, (rdOf (0, 0, 0, 0) r0 i5).2)) i5).1, w64 (k1 + 1), (rdOf (0, 0, 0, 0) (setI r0 i5 (k1, (rdOf (0, 0, 0, 0) r0 i5).2)) i5).2.2)) i5).1, (rdOf (0, 0, 0, 0) (setI (setI r0 i5 (k1, (rdOf (0, 0, 0, 0) r0 i5).2)) i5 ((rdOf (0, 0, 0, 0) (setI r0 i5 (k1, (rdOf (0, 0, 0, 0) r0 i5).2)) i5).1, w64 (k1 + 1), (rdOf (0, 0, 0, 0) (setI r0 i5 (k1, (rdOf (0, 0, 0, 0) r0 i5).2)) i5).2.2)) i5).2.1, w64 ((w64 (k1 + 1)) + 1), (rdOf (0, 0, 0, 0) (setI (setI r0 i5 (k1, (rdOf (0, 0, 0, 0) r0 i5).2)) i5 ((rdOf (0, 0, 0, 0) (setI r0 i5 (k1, (rdOf (0, 0, 0, 0) r0 i5).2)) i5).1, w64 (k1 + 1), (rdOf (0, 0, 0, 0) (setI r0 i5 (k1, (rdOf (0, 0, 0, 0) r0 i5).2)) i5).2.2)) i5).2.2.2)) i5 ((rdOf (0, 0, 0, 0) (setI (setI (setI r0 i5 (k1, (rdOf (0, 0, 0, 0) r0 i5).2)) i5 ((rdOf (0, 0, 0, 0) (setI r0 i5 (k1, (rdOf (0, 0, 0, 0) r0 i5).2)) i5).1, w64 (k1 + 1), (rdOf (0, 0, 0, 0) (setI r0 i5 (k1, (rdOf (0, 0, 0, 0) r0 i5).2)) i5).2.2)) i5 ((rdOf (0, 0, 0, 0) (setI (setI r0 i5 (k1, (rdOf (0, 0, 0, 0) r0 i5).2)) i5 ((rdOf (0, 0, 0, 0) (setI r0 i5 (k1, (rdOf (0, 0, 0, 0) r0 i5).2)) i5).1, w64 (k1 + 1), (rdOf (0, 0, 0, 0) (setI r0 i5 (k1, (rdOf (0, 0, 0, 0) r0 i5).2)) i5).2.2)) i5).1, (rdOf (0, 0, 0, 0) (setI (setI r0 i5 (k1, (rdOf (0, 0, 0, 0) r0 i5).2)) i5 ((rdOf (0, 0, 0, 0) (setI r0 i5 (k1, (rdOf (0, 0, 0, 0) r0 i5).2)) i5).1, w64 (k1 + 1), (rdOf (0, 0, 0, 0) (setI r0 i5 (k1, (rdOf (0, 0, 0, 0) r0 i5).2)) i5).2.2)) i5).2.1, w64 ((w64 (k1 + 1)) + 1), (rdOf (0, 0, 0, 0) (setI (setI r0 i5 (k1, (rdOf (0, 0, 0, 0) r0 i5).2)) i5 ((rdOf (0, 0, 0, 0) (setI r0 i5 (k1, (rdOf (0, 0, 0, 0) r0 i5).2)) i5).1, w64 (k1 + 1), (rdOf (0, 0, 0, 0) (setI r0 i5 (k1, (rdOf (0, 0, 0, 0) r0 i5).2)) i5).2.2)) i5).2.2.2)) i5).1, (rdOf (0, 0, 0, 0) (setI (setI (setI r0 i5 (k1, (rdOf (0, 0, 0, 0) r0 i5).2)) i5 ((rdOf (0, 0, 0, 0) (setI r0 i5 (k1, (rdOf (0, 0, 0, 0) r0 i5).2)) i5).1, w64 (k1 + 1), (rdOf (0, 0, 0, 0) (setI r0 i5 (k1, (rdOf (0, 0, 0, 0) r0 i5).2)) i5).2.2)) i5 ((rdOf (0, 0, 0, 0) (setI (setI r0 i5 (k1, (rdOf (0, 0, 0, 0) r0 i5).2)) i5 ((rdOf (0, 0, 0, 0) (setI r0 i5 (k1, (rdOf (0, 0, 0, 0) r0 i5).2)) i5).1, w64 (k1 + 1), (rdOf (0, 0, 0, 0) (setI r0 i5 (k1, (rdOf (0, 0, 0, 0) r0 i5).2)) i5).2.2)) i5).1, (rdOf (0, 0, 0, 0) (setI (setI r0 i5 (k1, (rdOf (0, 0, 0, 0) r0 i5).2)) i5 ((rdOf (0, 0, 0, 0) (setI r0 i5 (k1, (rdOf (0, 0, 0, 0) r0 i5).2)) i5).1, w64 (k1 + 1), (rdOf (0, 0, 0, 0) (setI r0 i5 (k1, (rdOf (0, 0, 0, 0) r0 i5).2)) i5).2.2)) i5).2.1, w64 ((w64 (k1 + 1)) + 1), (rdOf (0, 0, 0, 0) (setI (setI r0 i5 (k1, (rdOf (0, 0, 0, 0) r0 i5).2)) i5 ((rdOf (0, 0, 0, 0) (setI r0 i5 (k1, (rdOf (0, 0, 0, 0) r0 i5).2)) i5).1, w64 (k1 + 1), (rdOf (0, 0, 0, 0) (setI r0 i5 (k1, (rdOf (0, 0, 0, 0) r0 i5).2)) i5).2.2)) i5).2.2.2)) i5).2.1, (rdOf (0, 0, 0, 0) (setI (setI (setI r0 i5 (k1, (rdOf (0, 0, 0, 0) r0 i5).2)) i5 ((rdOf (0, 0, 0, 0) (setI r0 i5 (k1, (rdOf (0, 0, 0, 0) r0 i5).2)) i5).1, w64 (k1 + 1), (rdOf (0, 0, 0, 0) (setI r0 i5 (k1, (rdOf (0, 0, 0, 0) r0 i5).2)) i5).2.2)) i5 ((rdOf (0, 0, 0, 0) (setI (setI r0 i5 (k1, (rdOf (0, 0, 0, 0) r0 i5).2)) i5 ((rdOf (0, 0, 0, 0) (setI r0 i5 (k1, (rdOf (0, 0, 0, 0) r0 i5).2)) i5).1, w64 (k1 + 1), (rdOf (0, 0, 0, 0) (setI r0 i5 (k1, (rdOf (0, 0, 0, 0) r0 i5).2)) i5).2.2)) i5).1, (rdOf (0, 0, 0, 0) (setI (setI r0 i5 (k1, (rdOf (0, 0, 0, 0) r0 i5).2)) i5 ((rdOf (0, 0, 0, 0) (setI r0 i5 (k1, (rdOf (0, 0, 0, 0) r0 i5).2)) i5).1, w64 (k1 + 1), (rdOf (0, 0, 0, 0) (setI r0 i5 (k1, (rdOf (0, 0, 0, 0) r0 i5).2)) i5).2.2)) i5).2.1, w64 ((w64 (k1 + 1)) + 1), (rdOf (0, 0, 0, 0) (setI (setI r0 i5 (k1, (rdOf (0, 0, 0, 0) r0 i5).2)) i5 ((rdOf (0, 0, 0, 0) (setI r0 i5 (k1, (rdOf (0, 0, 0, 0) r0 i5).2)) i5).1, w64 (k1 + 1), (rdOf (0, 0, 0, 0) (setI r0 i5 (k1, (rdOf (0, 0, 0, 0) r0 i5).2)) i5).2.2)) i5).2.2.2)) i5).2.2.1, w64 ((w64 ((w64 (k1 + 1)) + 1)) + 1)))
  else
    some (k1, r0)
noncomputable def laws_markSlipS.g (k : Nat) (k1 : Int) (r0 : List (Int × Int × Int × Int)) : Option (Int × List (Int × Int × Int × Int)) :=
  iter (laws_markSlipS.s0 k) k (k1, 0, r0)
noncomputable def laws_markSlipS (k1 : Int) (r0 : List (Int × Int × Int × Int)) : Option (Int × List (Int × Int × Int × Int)) := lim fun k => laws_markSlipS.g k k1 r0
/-- f28 laws.markCustody -/
noncomputable def laws_markCustody (k1 : Int) (r0 : List Int) (r1 : List (List Int × List (Int × Int) × List Int)) (r2 : List (Int × Int × Int × Int)) (r3 : List Int) : Option (Int × List Int × List (List Int × List (Int × Int) × List Int) × List (Int × Int × Int × Int) × List Int) :=
  (laws_markIntS k1 r0).bind fun (c5_0, c5_1) =>
  (laws_markKeeperS c5_0 r1).bind fun (c6_0, c6_1) =>
  (laws_markSlipS c6_0 r2).bind fun (c7_0, c7_1) =>
  (laws_markIntS c7_0 r3).bind fun (c8_0, c8_1) =>
  some (c8_0, c5_1, c6_1, c7_1, c8_1)
/-- f29 laws.markBoolS -/
noncomputable def laws_markBoolS.s0 (k : Nat) (go0 : (Int × Int × List Bool) → Option (Int × List Bool)) : (Int × Int × List Bool) → Option (Int × List Bool) := fun (k1, i5, r0) =>
  bif decide (i5 < (r0.length : Int)) then
    grd (decide (0 ≤ i5)) <| grd (decide (i5 < (r0.length : Int))) <|
    go0 (w64 (k1 + 1), w64 (i5 + 1), setI r0 i5 (Int.tmod k1 3 == 0))
  else
    some (k1, r0)
noncomputable def laws_markBoolS.g (k : Nat) (k1 : Int) (r0 : List Bool) : Option (Int × List Bool) :=
  iter (laws_markBoolS.s0 k) k (k1, 0, r0)
noncomputable def laws_markBoolS (k1 : Int) (r0 : List Bool) : Option (Int × List Bool) := lim fun k => laws_markBoolS.g k k1 r0
/-- f67 laws.heldIntS -/
noncomputable def laws_heldIntS.s0 (k : Nat) (go0 : (List Int × Int × Int) → Option (Int)) : (List Int × Int × Int) → Option (Int) := fun (a0, k1, i5) =>
  bif decide (i5 < (a0.length : Int)) then
    grd (decide (0 ≤ i5)) <| grd (decide (i5 < (a0.length : Int))) <|
    bif (rdOf 0 a0 i5 != k1) then
      some (-1)
    else
      go0 (a0, w64 (k1 + 1), w64 (i5 + 1))
  else
    some k1
noncomputable def laws_heldIntS.g (k : Nat) (a0 : List Int) (k1 : Int) : Option (Int) :=
  iter (laws_heldIntS.s0 k) k (a0, k1, 0)
noncomputable def laws_heldIntS (a0 : List Int) (k1 : Int) : Option (Int) := lim fun k => laws_heldIntS.g k a0 k1
/-- f94 laws.heldHoldS -/
noncomputable def laws_heldHoldS.s0 (k : Nat) (go0 : (List (Int × Int) × Int × Int) → Option (Int)) : (List (Int × Int) × Int × Int) → Option (Int) := fun (a0, k1, i5) =>
  bif decide (i5 < (a0.length : Int)) then
    grd (decide (0 ≤ i5)) <| grd (decide (i5 < (a0.length : Int))) <|
    bif ((rdOf (0, 0) a0 i5).1 != k1) then
      some (-1)
    else
      grd (decide (0 ≤ i5)) <| grd (decide (i5 < (a0.length : Int))) <|
      bif ((rdOf (0, 0) a0 i5).2 != w64 (k1 + 1)) then
        some (-1)
      else
        go0 (a0, w64 ((w64 (k1 + 1)) + 1), w64 (i5 + 1))
  else
    some k1
noncomputable def laws_heldHoldS.g (k : Nat) (a0 : List (Int × Int)) (k1 : Int) : Option (Int) :=
  iter (laws_heldHoldS.s0 k) k (a0, k1, 0)
noncomputable def laws_heldHoldS (a0 : List (Int × Int)) (k1 : Int) : Option (Int) := lim fun k => laws_heldHoldS.g k a0 k1
/-- f68 laws.heldKeeperS -/
noncomputable def laws_heldKeeperS.s0 (k : Nat) (go0 : (List (List Int × List (Int × Int) × List Int) × Int × Int) → Option (Int)) : (List (List Int × List (Int × Int) × List Int) × Int × Int) → Option (Int) := fun (a0, k1, i5) =>
  bif decide (i5 < (a0.length : Int)) then
    grd (decide (0 ≤ i5)) <| grd (decide (i5 < (a0.length : Int))) <|
    (laws_heldIntS (rdOf ([], [], []) a0 i5).1 k1).bind fun c2 =>
    bif decide (c2 < 0) then
      some (-1)
    else
      grd (decide (0 ≤ i5)) <| grd (decide (i5 < (a0.length : Int))) <|
      (laws_heldHoldS (rdOf ([], [], []) a0 i5).2.1 c2).bind fun c3 =>
      bif decide (c3 < 0) then
        some (-1)
      else
        grd (decide (0 ≤ i5)) <| grd (decide (i5 < (a0.length : Int))) <|
        (laws_heldIntS (rdOf ([], [], []) a0 i5).2.2 c3).bind fun c4 =>
        bif decide (c4 < 0) then
          some (-1)
        else
          go0 (a0, c4, w64 (i5 + 1))
  else
    some k1
noncomputable def laws_heldKeeperS.g (k : Nat) (a0 : List (List Int × List (Int × Int) × List Int)) (k1 : Int) : Option (Int) :=
  iter (laws_heldKeeperS.s0 k) k (a0, k1, 0)
noncomputable def laws_heldKeeperS (a0 : List (List Int × List (Int × Int) × List Int)) (k1 : Int) : Option (Int) := lim fun k => laws_heldKeeperS.g k a0 k1
/-- f69 laws.heldSlipS -/
noncomputable def laws_heldSlipS.s0 (k : Nat) (go0 : (List (Int × Int × Int × Int) × Int × Int) → Option (Int)) : (List (Int × Int × Int × Int) × Int × Int) → Option (Int) := fun (a0, k1, i5) =>
  bif decide (i5 < (a0.length : Int)) then
    grd (decide (0 ≤ i5)) <| grd (decide (i5 < (a0.length : Int))) <|
    bif ((rdOf (0, 0, 0, 0) a0 i5).1 != k1) then
      some (-1)
    else
      grd (decide (0 ≤ i5)) <| grd (decide (i5 < (a0.length : Int))) <|
      bif ((rdOf (0, 0, 0, 0) a0 i5).2.1 != w64 (k1 + 1)) then
        some (-1)
      else
        grd (decide (0 ≤ i5)) <| grd (decide (i5 < (a0.length : Int))) <|
        bif ((rdOf (0, 0, 0, 0) a0 i5).2.2.1 != w64 ((w64 (k1 + 1)) + 1)) then
          some (-1)
        else
          grd (decide (0 ≤ i5)) <| grd (decide (i5 < (a0.length : Int))) <|
          bif ((rdOf (0, 0, 0, 0) a0 i5).2.2.2 != w64 ((w64 ((w64 (k1 + 1)) + 1)) + 1)) then
            some (-1)
          else
            go0 (a0, w64 ((w64 ((w64 ((w64 (k1 + 1)) + 1)) + 1)) + 1), w64 (i5 + 1))
  else
    some k1
noncomputable def laws_heldSlipS.g (k : Nat) (a0 : List (Int × Int × Int × Int)) (k1 : Int) : Option (Int) :=
  iter (laws_heldSlipS.s0 k) k (a0, k1, 0)
noncomputable def laws_heldSlipS (a0 : List (Int × Int × Int × Int)) (k1 : Int) : Option (Int) := lim fun k => laws_heldSlipS.g k a0 k1
/-- f30 laws.heldCustody -/
noncomputable def laws_heldCustody (a0_0 : List Int) (a0_1 : List (List Int × List (Int × Int) × List Int)) (a0_2 : List (Int × Int × Int × Int)) (a0_3 : List Int) (k1 : Int) : Option (Int) :=
  (laws_heldIntS a0_0 k1).bind fun c2 =>
  bif decide (c2 < 0) then
    some (-1)
  else
    (laws_heldKeeperS a0_1 c2).bind fun c3 =>
    bif decide (c3 < 0) then
      some (-1)
    else
      (laws_heldSlipS a0_2 c3).bind fun c4 =>
      bif decide (c4 < 0) then
        some (-1)
      else
        (laws_heldIntS a0_3 c4).bind fun c5 =>
        bif decide (c5 < 0) then
          some (-1)
        else
          some c5
/-- f31 laws.heldBoolS -/
noncomputable def laws_heldBoolS.s0 (k : Nat) (go0 : (List Bool × Int × Int) → Option (Int)) : (List Bool × Int × Int) → Option (Int) := fun (a0, k1, i5) =>
  bif decide (i5 < (a0.length : Int)) then
    grd (decide (0 ≤ i5)) <| grd (decide (i5 < (a0.length : Int))) <|
    bif (!(rdOf false a0 i5 == (Int.tmod k1 3 == 0))) then
      some (-1)
    else
      go0 (a0, w64 (k1 + 1), w64 (i5 + 1))
  else
    some k1
noncomputable def laws_heldBoolS.g (k : Nat) (a0 : List Bool) (k1 : Int) : Option (Int) :=
  iter (laws_heldBoolS.s0 k) k (a0, k1, 0)
noncomputable def laws_heldBoolS (a0 : List Bool) (k1 : Int) : Option (Int) := lim fun k => laws_heldBoolS.g k a0 k1
/-- f6 laws.FnExactPlayCustody -/
noncomputable def laws_FnExactPlayCustody (aUp0 : List Int) (aL1 : List (Int × Int × Int × Int)) : Option (Bool) :=
  bif decide ((aUp0.length : Int) > 1048576) then
    some true
  else
    (laws_szCusStepS aL1 1048576).bind fun c1 =>
    bif decide (c1 < 0) then
      some true
    else
      (laws_toIntS aUp0).bind fun c2 =>
      (laws_toCusStepS aL1).bind fun c3 =>
      (spec_PlayCustody c2 c3).bind fun (c4_0, c4_1, c4_2, c4_3, c4_4, c4_5) =>
      (laws_toIntS aUp0).bind fun c5 =>
      (laws_toCusStepS aL1).bind fun c6 =>
      (impl_PlayCustody c5 c6).bind fun (c7_0, c7_1, c7_2, c7_3, c7_4, c7_5) =>
      (laws_eqCustody c7_1 c7_2 c7_3 c7_4 c4_1 c4_2 c4_3 c4_4).bind fun c8 =>
      bif (!c8) then
        some false
      else
        (laws_eqBoolS c7_5 c4_5).bind fun c9 =>
        bif (!c9) then
          some false
        else
          bif (!(c7_0 == c4_0)) then
            some false
          else
            (laws_toIntS aUp0).bind fun c10 =>
            (laws_eqIntS c5 c10).bind fun c11 =>
            bif (!c11) then
              some false
            else
              (laws_toCusStepS aL1).bind fun c12 =>
              (laws_eqCusStepS c6 c12).bind fun c13 =>
              bif (!c13) then
                some false
              else
                (laws_markIntS 1 c5).bind fun (c14_0, c14_1) =>
                (laws_markCusStepS c14_0 c6).bind fun (c15_0, c15_1) =>
                bif decide (c15_0 < 0) then
                  some false
                else
                  (laws_eqCustody c7_1 c7_2 c7_3 c7_4 c4_1 c4_2 c4_3 c4_4).bind fun c16 =>
                  bif (!c16) then
                    some false
                  else
                    (laws_eqBoolS c7_5 c4_5).bind fun c17 =>
                    bif (!c17) then
                      some false
                    else
                      bif (!(c7_0 == c4_0)) then
                        some false
                      else
                        (laws_markCustody 1 c7_1 c7_2 c7_3 c7_4).bind fun (c18_0, c18_1, c18_2, c18_3, c18_4) =>
                        (laws_markBoolS c18_0 c7_5).bind fun (c19_0, c19_1) =>
                        (laws_heldCustody c18_1 c18_2 c18_3 c18_4 1).bind fun c20 =>
                        bif decide (c20 < 0) then
                          some false
                        else
                          (laws_heldBoolS c19_1 c20).bind fun c21 =>
                          bif decide (c21 < 0) then
                            some false
                          else
                            bif (c21 != c19_0) then
                              some false
                            else
                              (laws_toIntS aUp0).bind fun c22 =>
                              (laws_toCusStepS aL1).bind fun c23 =>
                              (impl_PlayCustody c22 c23).bind fun (c24_0, c24_1, c24_2, c24_3, c24_4, c24_5) =>
                              (laws_eqCustody c24_1 c24_2 c24_3 c24_4 c4_1 c4_2 c4_3 c4_4).bind fun c25 =>
                              bif (!c25) then
                                some false
                              else
                                (laws_eqBoolS c24_5 c4_5).bind fun c26 =>
                                bif (!c26) then
                                  some false
                                else
                                  bif (!(c24_0 == c4_0)) then
                                    some false
                                  else
                                    (laws_heldCustody c18_1 c18_2 c18_3 c18_4 1).bind fun c27 =>
                                    bif decide (c27 < 0) then
                                      some false
                                    else
                                      (laws_heldBoolS c19_1 c27).bind fun c28 =>
                                      bif decide (c28 < 0) then
                                        some false
                                      else
                                        bif (c28 != c19_0) then
                                          some false
                                        else
                                          some true
/-- f46 impl.ordered -/
noncomputable def impl_ordered (a0_0 : Int) (a0_1 : Int) (b1_0 : Int) (b1_1 : Int) : Option (Int) :=
  bif (a0_0 != b1_0) then
    some (w64 (a0_0 - b1_0))
  else
    some (w64 (a0_1 - b1_1))
end Go.Eng
