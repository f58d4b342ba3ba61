/-
Printed by engpr.py: pure definitions of the functions.
-/
import Derived.Test.YtoancfhhlmkcbaaKC
set_option linter.unusedVariables false
namespace Go.Eng
open Go Go.Proofs Go.Proofs.YtoancfhhlmkcbaaW.PrintWords
/-- f32 laws.szIntS -/
noncomputable def laws_szIntS (a0 : List Int) (left1 : Int) : Option (Int) :=
  bif decide (w64 (left1 - (a0.length : Int)) < 0) then
    some (-1)
  else
    some (w64 (left1 - (a0.length : Int)))
/-- f95 laws.szHoldS -/
noncomputable def laws_szHoldS (a0 : List (Int × Int)) (left1 : Int) : Option (Int) :=
  bif decide (w64 (left1 - (a0.length : Int)) < 0) then
    some (-1)
  else
    some (w64 (left1 - (a0.length : Int)))
/-- f70 laws.szKeeper -/
noncomputable def laws_szKeeper (a0_0 : List Int) (a0_1 : List (Int × Int)) (a0_2 : List Int) (left1 : Int) : Option (Int) :=
  (laws_szIntS a0_0 left1).bind fun c2 =>
  bif decide (c2 < 0) then
    some (-1)
  else
    (laws_szHoldS a0_1 c2).bind fun c3 =>
    bif decide (c3 < 0) then
      some (-1)
    else
      (laws_szIntS a0_2 c3).bind fun c4 =>
      bif decide (c4 < 0) then
        some (-1)
      else
        some c4
/-- f33 laws.szKeeperS -/
noncomputable def laws_szKeeperS.s0 (k : Nat) (go0 : (List (List Int × List (Int × Int) × List Int) × Int × Int) → Option (Int)) : (List (List Int × List (Int × Int) × List Int) × Int × Int) → Option (Int) := fun (a0, left1, i5) =>
  bif decide (i5 < (a0.length : Int)) then
    grd (decide (0 ≤ i5)) <| grd (decide (i5 < (a0.length : Int))) <|
    (laws_szKeeper (rdOf ([], [], []) a0 i5).1 (rdOf ([], [], []) a0 i5).2.1 (rdOf ([], [], []) a0 i5).2.2 left1).bind fun c1 =>
    bif decide (c1 < 0) then
      some (-1)
    else
      go0 (a0, c1, w64 (i5 + 1))
  else
    some left1
noncomputable def laws_szKeeperS.g (k : Nat) (a0 : List (List Int × List (Int × Int) × List Int)) (left1 : Int) : Option (Int) :=
  bif decide (w64 (left1 - (a0.length : Int)) < 0) then
    some (-1)
  else
    iter (laws_szKeeperS.s0 k) k (a0, w64 (left1 - (a0.length : Int)), 0)
noncomputable def laws_szKeeperS (a0 : List (List Int × List (Int × Int) × List Int)) (left1 : Int) : Option (Int) := lim fun k => laws_szKeeperS.g k a0 left1
/-- f34 laws.szSlipS -/
noncomputable def laws_szSlipS (a0 : List (Int × Int × Int × Int)) (left1 : Int) : Option (Int) :=
  bif decide (w64 (left1 - (a0.length : Int)) < 0) then
    some (-1)
  else
    some (w64 (left1 - (a0.length : Int)))
/-- f7 laws.szCustody -/
noncomputable def laws_szCustody (a0_0 : List Int) (a0_1 : List (List Int × List (Int × Int) × List Int)) (a0_2 : List (Int × Int × Int × Int)) (a0_3 : List Int) (left1 : Int) : Option (Int) :=
  (laws_szIntS a0_0 left1).bind fun c2 =>
  bif decide (c2 < 0) then
    some (-1)
  else
    (laws_szKeeperS a0_1 c2).bind fun c3 =>
    bif decide (c3 < 0) then
      some (-1)
    else
      (laws_szSlipS a0_2 c3).bind fun c4 =>
      bif decide (c4 < 0) then
        some (-1)
      else
        (laws_szIntS a0_3 c4).bind fun c5 =>
        bif decide (c5 < 0) then
          some (-1)
        else
          some c5
/-- f39 spec.l1In -/
noncomputable def spec_l1In (n0 : Int) (lo1 : Int) (hi2 : Int) : Option (Bool) :=
  bif decide (n0 ≥ lo1) then
    some (decide (n0 ≤ hi2))
  else
    some false
/-- f35 spec.l16Tree -/
noncomputable def spec_l16Tree.s0 (k : Nat) (go0 : (List Int × List Int × Int × Int) → Option (Bool)) : (List Int × List Int × Int × Int) → Option (Bool) := fun (up0, t5, t6, t7) =>
  bif decide (t7 < t6) then
    grd (decide (0 ≤ t7)) <| grd (decide (t7 < (t5.length : Int))) <|
    bif (!((t7 == 0) == (rdOf 0 t5 t7 == (-1)))) then
      some false
    else
      bif decide (rdOf 0 t5 t7 < (-1)) then
        some false
      else
        bif decide (rdOf 0 t5 t7 ≥ t7) then
          some false
        else
          go0 (up0, t5, t6, w64 (t7 + 1))
  else
    (spec_l1In (up0.length : Int) 1 8).bind fun c1 =>
    some c1
noncomputable def spec_l16Tree.g (k : Nat) (up0 : List Int) : Option (Bool) :=
  iter (spec_l16Tree.s0 k) k (up0, up0, (up0.length : Int), 0)
noncomputable def spec_l16Tree (up0 : List Int) : Option (Bool) := lim fun k => spec_l16Tree.g k up0
/-- f38 spec.l1Has -/
noncomputable def spec_l1Has.s0 (k : Nat) (go0 : (Int × List Int × Int × Int) → Option (Bool)) : (Int × List Int × Int × Int) → Option (Bool) := fun (n1, t7, t8, t9) =>
  bif decide (t9 < t8) then
    grd (decide (0 ≤ t9)) <| grd (decide (t9 < (t7.length : Int))) <|
    bif (rdOf 0 t7 t9 == n1) then
      some true
    else
      go0 (n1, t7, t8, w64 (t9 + 1))
  else
    some false
noncomputable def spec_l1Has.g (k : Nat) (l0 : List Int) (n1 : Int) : Option (Bool) :=
  iter (spec_l1Has.s0 k) k (n1, l0, (l0.length : Int), 0)
noncomputable def spec_l1Has (l0 : List Int) (n1 : Int) : Option (Bool) := lim fun k => spec_l1Has.g k l0 n1
/-- f40 spec.l16Same -/
noncomputable def spec_l16Same.s0 (k : Nat) (go0 : (List Int × List Int × List Int × Int × Int) → Option (Bool)) : (List Int × List Int × List Int × Int × Int) → Option (Bool) := fun (a0, b1, t7, t8, t9) =>
  bif decide (t9 < t8) then
    grd (decide (0 ≤ t9)) <| grd (decide (t9 < (t7.length : Int))) <|
    (spec_l1Has a0 (rdOf 0 t7 t9)).bind fun c2 =>
    bif (!c2) then
      some false
    else
      grd (decide (0 ≤ t9)) <| grd (decide (t9 ≤ (b1.length : Int))) <|
      (spec_l1Has (cut b1 0 t9) (rdOf 0 t7 t9)).bind fun c3 =>
      bif c3 then
        some false
      else
        go0 (a0, b1, t7, t8, w64 (t9 + 1))
  else
    some ((a0.length : Int) == (b1.length : Int))
noncomputable def spec_l16Same.g (k : Nat) (a0 : List Int) (b1 : List Int) : Option (Bool) :=
  iter (spec_l16Same.s0 k) k (a0, b1, b1, (b1.length : Int), 0)
noncomputable def spec_l16Same (a0 : List Int) (b1 : List Int) : Option (Bool) := lim fun k => spec_l16Same.g k a0 b1
/-- f52 spec.l16Has -/
noncomputable def spec_l16Has.s0 (k : Nat) (go0 : (List (Int × Int) × Int × Int × Int × Int) → Option (Bool)) : (List (Int × Int) × Int × Int × Int × Int) → Option (Bool) := fun (t7, t8, t9, b0_0, b0_1) =>
  bif decide (t9 < t8) then
    grd (decide (0 ≤ t9)) <| grd (decide (t9 < (t7.length : Int))) <|
    bif (((rdOf (0, 0) t7 t9).1 == b0_0) && ((rdOf (0, 0) t7 t9).2 == b0_1)) then
      some true
    else
      go0 (t7, t8, w64 (t9 + 1), b0_0, b0_1)
  else
    some false
noncomputable def spec_l16Has.g (k : Nat) (l0 : List (Int × Int)) (h1_0 : Int) (h1_1 : Int) : Option (Bool) :=
  iter (spec_l16Has.s0 k) k (l0, (l0.length : Int), 0, h1_0, h1_1)
noncomputable def spec_l16Has (l0 : List (Int × Int)) (h1_0 : Int) (h1_1 : Int) : Option (Bool) := lim fun k => spec_l16Has.g k l0 h1_0 h1_1
/-- f71 spec.l1Some -/
noncomputable def spec_l1Some.s0 (k : Nat) (go0 : (List Int × Int × List Int × Int × Int) → Option (Bool)) : (List Int × Int × List Int × Int × Int) → Option (Bool) := fun (l0, n1, t7, t8, t9) =>
  bif decide (t9 < t8) then
    grd (decide (0 ≤ t9)) <| grd (decide (t9 < (t7.length : Int))) <|
    bif decide (rdOf 0 t7 t9 < 0) then
      some false
    else
      bif decide (rdOf 0 t7 t9 ≥ n1) then
        some false
      else
        bif decide (t9 > 0) then
          grd (decide (0 ≤ w64 (t9 - 1))) <| grd (decide (w64 (t9 - 1) < (l0.length : Int))) <|
          bif decide (rdOf 0 l0 (w64 (t9 - 1)) ≥ rdOf 0 t7 t9) then
            some false
          else
            go0 (l0, n1, t7, t8, w64 (t9 + 1))
        else
          go0 (l0, n1, t7, t8, w64 (t9 + 1))
  else
    some true
noncomputable def spec_l1Some.g (k : Nat) (l0 : List Int) (n1 : Int) : Option (Bool) :=
  iter (spec_l1Some.s0 k) k (l0, n1, l0, (l0.length : Int), 0)
noncomputable def spec_l1Some (l0 : List Int) (n1 : Int) : Option (Bool) := lim fun k => spec_l1Some.g k l0 n1
/-- f72 spec.l16Children -/
noncomputable def spec_l16Children.s0 (k : Nat) (go0 : (Int × List Int × Int × Int × List Int) → Option (List Int)) : (Int × List Int × Int × Int × List Int) → Option (List Int) := fun (node1, t8, t9, t10, r0) =>
  bif decide (t10 < t9) then
    grd (decide (0 ≤ t10)) <| grd (decide (t10 < (t8.length : Int))) <|
    bif decide (t10 > 0) then
      bif (rdOf 0 t8 t10 == node1) then
        grd (decide ((r0.length + 1) * 8 ≤ 140737488355328)) <|
        go0 (node1, t8, t9, w64 (t10 + 1), r0 ++ [t10])
      else
        go0 (node1, t8, t9, w64 (t10 + 1), r0)
    else
      go0 (node1, t8, t9, w64 (t10 + 1), r0)
  else
    some r0
noncomputable def spec_l16Children.g (k : Nat) (up0 : List Int) (node1 : Int) : Option (List Int) :=
  iter (spec_l16Children.s0 k) k (node1, up0, (up0.length : Int), 0, [])
noncomputable def spec_l16Children (up0 : List Int) (node1 : Int) : Option (List Int) := lim fun k => spec_l16Children.g k up0 node1
/-- f73 spec.l16Less -/
noncomputable def spec_l16Less (a0_0 : Int) (a0_1 : Int) (b1_0 : Int) (b1_1 : Int) : Option (Bool) :=
  bif decide (a0_0 < b1_0) then
    some true
  else
    bif (a0_0 == b1_0) then
      some (decide (a0_1 < b1_1))
    else
      some false
/-- f36 spec.l16Keeper -/
noncomputable def spec_l16Keeper.s6 (k : Nat) (go4 : (List Int × Int × Int × List Int × List (List Int × List (Int × Int) × List Int) × List (Int × Int × Int × Int) × List Int × List Int × List (Int × Int) × List Int × List Int) → Option (Bool)) (go6 : (Int × List Int × Int × Int × Int × Int × List Int × List (List Int × List (Int × Int) × List Int) × List (Int × Int × Int × Int) × List Int × List Int × List (Int × Int) × List Int × List Int) → Option (Bool)) : (Int × List Int × Int × Int × Int × Int × List Int × List (List Int × List (Int × Int) × List Int) × List (Int × Int × Int × Int) × List Int × List Int × List (Int × Int) × List Int × List Int) → Option (Bool) := fun (id12, t99, t100, t101, t106, t107, b0_0, b0_1, b0_2, b0_3, b1_0, b1_1, b1_2, r2) =>
  bif decide (t107 < t106) then
    grd (decide (0 ≤ t107)) <| grd (decide (t107 < (r2.length : Int))) <| grd (decide (0 ≤ rdOf 0 r2 t107)) <| grd (decide (rdOf 0 r2 t107 < (b0_1.length : Int))) <|
    (spec_l1Has (rdOf ([], [], []) b0_1 (rdOf 0 r2 t107)).1 id12).bind fun c29 =>
    bif (!c29) then
      (spec_l16Has b1_1 id12 (rdOf 0 r2 t107)).bind fun c30 =>
      bif (!c30) then
        some false
      else
        go6 (id12, t99, t100, t101, t106, w64 (t107 + 1), b0_0, b0_1, b0_2, b0_3, b1_0, b1_1, b1_2, r2)
    else
      go6 (id12, t99, t100, t101, t106, w64 (t107 + 1), b0_0, b0_1, b0_2, b0_3, b1_0, b1_1, b1_2, r2)
  else
    go4 (t99, t100, w64 (t101 + 1), b0_0, b0_1, b0_2, b0_3, b1_0, b1_1, b1_2, r2)
noncomputable def spec_l16Keeper.s4 (k : Nat) (go4 : (List Int × Int × Int × List Int × List (List Int × List (Int × Int) × List Int) × List (Int × Int × Int × Int) × List Int × List Int × List (Int × Int) × List Int × List Int) → Option (Bool)) : (List Int × Int × Int × List Int × List (List Int × List (Int × Int) × List Int) × List (Int × Int × Int × Int) × List Int × List Int × List (Int × Int) × List Int × List Int) → Option (Bool) := fun (t99, t100, t101, b0_0, b0_1, b0_2, b0_3, b1_0, b1_1, b1_2, r2) =>
  bif decide (t101 < t100) then
    grd (decide (0 ≤ t101)) <| grd (decide (t101 < (t99.length : Int))) <|
    iter (spec_l16Keeper.s6 k go4) k (rdOf 0 t99 t101, t99, t100, t101, (r2.length : Int), 0, b0_0, b0_1, b0_2, b0_3, b1_0, b1_1, b1_2, r2)
  else
    some true
noncomputable def spec_l16Keeper.s2 (k : Nat) (go2 : (List (Int × Int) × Int × Int × List Int × List (List Int × List (Int × Int) × List Int) × List (Int × Int × Int × Int) × List Int × List Int × List (Int × Int) × List Int × List Int) → Option (Bool)) : (List (Int × Int) × Int × Int × List Int × List (List Int × List (Int × Int) × List Int) × List (Int × Int × Int × Int) × List Int × List Int × List (Int × Int) × List Int × List Int) → Option (Bool) := fun (t62, t63, t64, b0_0, b0_1, b0_2, b0_3, b1_0, b1_1, b1_2, r2) =>
  bif decide (t64 < t63) then
    grd (decide (0 ≤ t64)) <| grd (decide (t64 < (t62.length : Int))) <|
    (spec_l1Has b1_0 (rdOf (0, 0) t62 t64).1).bind fun c26 =>
    bif (!c26) then
      some false
    else
      (spec_l1Has r2 (rdOf (0, 0) t62 t64).2).bind fun c27 =>
      bif (!c27) then
        some false
      else
        bif decide (t64 > 0) then
          grd (decide (0 ≤ w64 (t64 - 1))) <| grd (decide (w64 (t64 - 1) < (b1_1.length : Int))) <|
          (spec_l16Less (rdOf (0, 0) b1_1 (w64 (t64 - 1))).1 (rdOf (0, 0) b1_1 (w64 (t64 - 1))).2 (rdOf (0, 0) t62 t64).1 (rdOf (0, 0) t62 t64).2).bind fun c28 =>
          bif (!c28) then
            some false
          else
            go2 (t62, t63, w64 (t64 + 1), b0_0, b0_1, b0_2, b0_3, b1_0, b1_1, b1_2, r2)
        else
          go2 (t62, t63, w64 (t64 + 1), b0_0, b0_1, b0_2, b0_3, b1_0, b1_1, b1_2, r2)
  else
    iter (spec_l16Keeper.s4 k) k (b1_0, (b1_0.length : Int), 0, b0_0, b0_1, b0_2, b0_3, b1_0, b1_1, b1_2, r2)
noncomputable def spec_l16Keeper.s0 (k : Nat) (go0 : (Int × List Int × Int × Int × List Int × List (List Int × List (Int × Int) × List Int) × List (Int × Int × Int × Int) × List Int × List Int × List (Int × Int) × List Int) → Option (Bool)) : (Int × List Int × Int × Int × List Int × List (List Int × List (Int × Int) × List Int) × List (Int × Int × Int × Int) × List Int × List Int × List (Int × Int) × List Int) → Option (Bool) := fun (k1, t33, t34, t35, b0_0, b0_1, b0_2, b0_3, b1_0, b1_1, b1_2) =>
  bif decide (t35 < t34) then
    grd (decide (0 ≤ t35)) <| grd (decide (t35 < (t33.length : Int))) <|
    bif decide (k1 > 0) then
      grd (decide (0 ≤ k1)) <| grd (decide (k1 < (b0_0.length : Int))) <| grd (decide (0 ≤ rdOf 0 b0_0 k1)) <| grd (decide (rdOf 0 b0_0 k1 < (b0_1.length : Int))) <|
      (spec_l1Has (rdOf ([], [], []) b0_1 (rdOf 0 b0_0 k1)).1 (rdOf 0 t33 t35)).bind fun c24 =>
      bif (!c24) then
        some false
      else
        go0 (k1, t33, t34, w64 (t35 + 1), b0_0, b0_1, b0_2, b0_3, b1_0, b1_1, b1_2)
    else
      go0 (k1, t33, t34, w64 (t35 + 1), b0_0, b0_1, b0_2, b0_3, b1_0, b1_1, b1_2)
  else
    (spec_l16Children b0_0 k1).bind fun c25 =>
    iter (spec_l16Keeper.s2 k) k (b1_1, (b1_1.length : Int), 0, b0_0, b0_1, b0_2, b0_3, b1_0, b1_1, b1_2, c25)
noncomputable def spec_l16Keeper.g (k : Nat) (c0_0 : List Int) (c0_1 : List (List Int × List (Int × Int) × List Int)) (c0_2 : List (Int × Int × Int × Int)) (c0_3 : List Int) (k1 : Int) : Option (Bool) :=
  grd (decide (0 ≤ k1)) <| grd (decide (k1 < (c0_1.length : Int))) <|
  (spec_l1Some (rdOf ([], [], []) c0_1 k1).1 6).bind fun c22 =>
  bif (!c22) then
    some false
  else
    (spec_l16Same (rdOf ([], [], []) c0_1 k1).1 (rdOf ([], [], []) c0_1 k1).2.2).bind fun c23 =>
    bif (!c23) then
      some false
    else
      iter (spec_l16Keeper.s0 k) k (k1, (rdOf ([], [], []) c0_1 k1).1, ((rdOf ([], [], []) c0_1 k1).1.length : Int), 0, c0_0, c0_1, c0_2, c0_3, (rdOf ([], [], []) c0_1 k1).1, (rdOf ([], [], []) c0_1 k1).2.1, (rdOf ([], [], []) c0_1 k1).2.2)
noncomputable def spec_l16Keeper (c0_0 : List Int) (c0_1 : List (List Int × List (Int × Int) × List Int)) (c0_2 : List (Int × Int × Int × Int)) (c0_3 : List Int) (k1 : Int) : Option (Bool) := lim fun k => spec_l16Keeper.g k c0_0 c0_1 c0_2 c0_3 k1
/-- f37 spec.l16Id -/
noncomputable def spec_l16Id (n0 : Int) : Option (Bool) :=
  bif decide (n0 ≥ 0) then
    some (decide (n0 < 6))
  else
    some false
/-- f8 spec.GoodCustody -/
noncomputable def spec_GoodCustody.s2 (k : Nat) (go2 : (List (Int × Int × Int × Int) × Int × Int × List Int × List (List Int × List (Int × Int) × List Int) × List (Int × Int × Int × Int) × List Int) → Option (Bool)) : (List (Int × Int × Int × Int) × Int × Int × List Int × List (List Int × List (Int × Int) × List Int) × List (Int × Int × Int × Int) × List Int) → Option (Bool) := fun (t37, t38, t39, b0_0, b0_1, b0_2, b0_3) =>
  bif decide (t39 < t38) then
    grd (decide (0 ≤ t39)) <| grd (decide (t39 < (t37.length : Int))) <|
    bif decide ((rdOf (0, 0, 0, 0) t37 t39).2.1 < 0) then
      some false
    else
      bif decide ((rdOf (0, 0, 0, 0) t37 t39).2.1 ≥ (b0_0.length : Int)) then
        some false
      else
        bif decide ((rdOf (0, 0, 0, 0) t37 t39).2.2.1 < 0) then
          some false
        else
          bif decide ((rdOf (0, 0, 0, 0) t37 t39).2.2.1 ≥ (b0_0.length : Int)) then
            some false
          else
            (spec_l16Id (rdOf (0, 0, 0, 0) t37 t39).2.2.2).bind fun c7 =>
            bif (!c7) then
              some false
            else
              grd (decide (0 ≤ (rdOf (0, 0, 0, 0) t37 t39).2.1)) <| grd (decide ((rdOf (0, 0, 0, 0) t37 t39).2.1 < (b0_1.length : Int))) <|
              (spec_l1Has (rdOf ([], [], []) b0_1 (rdOf (0, 0, 0, 0) t37 t39).2.1).1 (rdOf (0, 0, 0, 0) t37 t39).2.2.2).bind fun c8 =>
              bif (!c8) then
                some false
              else
                bif ((rdOf (0, 0, 0, 0) t37 t39).1 == 1) then
                  grd (decide (0 ≤ (rdOf (0, 0, 0, 0) t37 t39).2.2.1)) <| grd (decide ((rdOf (0, 0, 0, 0) t37 t39).2.2.1 < (b0_0.length : Int))) <|
                  bif (rdOf 0 b0_0 (rdOf (0, 0, 0, 0) t37 t39).2.2.1 != (rdOf (0, 0, 0, 0) t37 t39).2.1) then
                    some false
                  else
                    bif ((rdOf (0, 0, 0, 0) t37 t39).1 == 2) then
                      grd (decide (0 ≤ (rdOf (0, 0, 0, 0) t37 t39).2.1)) <| grd (decide ((rdOf (0, 0, 0, 0) t37 t39).2.1 < (b0_0.length : Int))) <|
                      bif (rdOf 0 b0_0 (rdOf (0, 0, 0, 0) t37 t39).2.1 != (rdOf (0, 0, 0, 0) t37 t39).2.2.1) then
                        some false
                      else
                        (spec_l1In (rdOf (0, 0, 0, 0) t37 t39).1 1 2).bind fun c9 =>
                        bif (!c9) then
                          some false
                        else
                          go2 (t37, t38, w64 (t39 + 1), b0_0, b0_1, b0_2, b0_3)
                    else
                      (spec_l1In (rdOf (0, 0, 0, 0) t37 t39).1 1 2).bind fun c10 =>
                      bif (!c10) then
                        some false
                      else
                        go2 (t37, t38, w64 (t39 + 1), b0_0, b0_1, b0_2, b0_3)
                else
                  bif ((rdOf (0, 0, 0, 0) t37 t39).1 == 2) then
                    grd (decide (0 ≤ (rdOf (0, 0, 0, 0) t37 t39).2.1)) <| grd (decide ((rdOf (0, 0, 0, 0) t37 t39).2.1 < (b0_0.length : Int))) <|
                    bif (rdOf 0 b0_0 (rdOf (0, 0, 0, 0) t37 t39).2.1 != (rdOf (0, 0, 0, 0) t37 t39).2.2.1) then
                      some false
                    else
                      (spec_l1In (rdOf (0, 0, 0, 0) t37 t39).1 1 2).bind fun c11 =>
                      bif (!c11) then
                        some false
                      else
                        go2 (t37, t38, w64 (t39 + 1), b0_0, b0_1, b0_2, b0_3)
                  else
                    (spec_l1In (rdOf (0, 0, 0, 0) t37 t39).1 1 2).bind fun c12 =>
                    bif (!c12) then
                      some false
                    else
                      go2 (t37, t38, w64 (t39 + 1), b0_0, b0_1, b0_2, b0_3)
  else
    grd (decide (0 < (b0_1.length : Int))) <|
    (spec_l16Same (rdOf ([], [], []) b0_1 0).1 b0_3).bind fun c13 =>
    some c13
noncomputable def spec_GoodCustody.s0 (k : Nat) (go0 : (Int × Int × List Int × List (List Int × List (Int × Int) × List Int) × List (Int × Int × Int × Int) × List Int) → Option (Bool)) : (Int × Int × List Int × List (List Int × List (Int × Int) × List Int) × List (Int × Int × Int × Int) × List Int) → Option (Bool) := fun (t27, t28, b0_0, b0_1, b0_2, b0_3) =>
  bif decide (t28 < t27) then
    (spec_l16Keeper b0_0 b0_1 b0_2 b0_3 t28).bind fun c6 =>
    bif (!c6) then
      some false
    else
      go0 (t27, w64 (t28 + 1), b0_0, b0_1, b0_2, b0_3)
  else
    iter (spec_GoodCustody.s2 k) k (b0_2, (b0_2.length : Int), 0, b0_0, b0_1, b0_2, b0_3)
noncomputable def spec_GoodCustody.g (k : Nat) (c0_0 : List Int) (c0_1 : List (List Int × List (Int × Int) × List Int)) (c0_2 : List (Int × Int × Int × Int)) (c0_3 : List Int) : Option (Bool) :=
  (spec_l16Tree c0_0).bind fun c5 =>
  bif (!c5) then
    some false
  else
    bif ((c0_1.length : Int) != (c0_0.length : Int)) then
      some false
    else
      bif decide ((c0_2.length : Int) > 30) then
        some false
      else
        iter (spec_GoodCustody.s0 k) k ((c0_1.length : Int), 0, c0_0, c0_1, c0_2, c0_3)
noncomputable def spec_GoodCustody (c0_0 : List Int) (c0_1 : List (List Int × List (Int × Int) × List Int)) (c0_2 : List (Int × Int × Int × Int)) (c0_3 : List Int) : Option (Bool) := lim fun k => spec_GoodCustody.g k c0_0 c0_1 c0_2 c0_3
/-- f21 laws.toIntS -/
noncomputable def laws_toIntS.s0 (k : Nat) (go0 : (List Int × Int × List Int) → Option (List Int)) : (List Int × Int × List Int) → Option (List Int) := fun (a0, i4, r0) =>
  bif decide (i4 < (a0.length : Int)) then
    grd (decide (0 ≤ i4)) <| grd (decide (i4 < (a0.length : Int))) <| grd (decide (0 ≤ i4)) <| grd (decide (i4 < (r0.length : Int))) <|
    go0 (a0, w64 (i4 + 1), setI r0 i4 (rdOf 0 a0 i4))
  else
    some r0
noncomputable def laws_toIntS.g (k : Nat) (a0 : List Int) : Option (List Int) :=
  grd ((a0.length : Int) == (a0.length : Int)) <| grd (decide (0 ≤ (a0.length : Int))) <| grd (decide (((a0.length : Int)).toNat * 8 ≤ 140737488355328)) <|
  iter (laws_toIntS.s0 k) k (a0, 0, List.replicate ((a0.length : Int)).toNat 0)
noncomputable def laws_toIntS (a0 : List Int) : Option (List Int) := lim fun k => laws_toIntS.g k a0
/-- f107 laws.toHold -/
noncomputable def laws_toHold (a0_0 : Int) (a0_1 : Int) : Option (Int × Int) :=
  some (a0_0, a0_1)
/-- f96 laws.toHoldS -/
noncomputable def laws_toHoldS.s0 (k : Nat) (go0 : (List (Int × Int) × Int × List (Int × Int)) → Option (List (Int × Int))) : (List (Int × Int) × Int × List (Int × Int)) → Option (List (Int × Int)) := fun (a0, i4, r0) =>
  bif decide (i4 < (a0.length : Int)) then
    grd (decide (0 ≤ i4)) <| grd (decide (i4 < (a0.length : Int))) <|
    (laws_toHold (rdOf (0, 0) a0 i4).1 (rdOf (0, 0) a0 i4).2).bind fun (c2_0, c2_1) =>
    grd (decide (0 ≤ i4)) <| grd (decide (i4 < (r0.length : Int))) <|
    go0 (a0, w64 (i4 + 1), setI r0 i4 (c2_0, c2_1))
  else
    some r0
noncomputable def laws_toHoldS.g (k : Nat) (a0 : List (Int × Int)) : Option (List (Int × Int)) :=
  grd ((a0.length : Int) == (a0.length : Int)) <| grd (decide (0 ≤ (a0.length : Int))) <| grd (decide (((a0.length : Int)).toNat * 16 ≤ 140737488355328)) <|
  iter (laws_toHoldS.s0 k) k (a0, 0, List.replicate ((a0.length : Int)).toNat (0, 0))
noncomputable def laws_toHoldS (a0 : List (Int × Int)) : Option (List (Int × Int)) := lim fun k => laws_toHoldS.g k a0
/-- f74 laws.toKeeper -/
noncomputable def laws_toKeeper (a0_0 : List Int) (a0_1 : List (Int × Int)) (a0_2 : List Int) : Option (List Int × List (Int × Int) × List Int) :=
  (laws_toIntS a0_0).bind fun c4 =>
  (laws_toHoldS a0_1).bind fun c5 =>
  (laws_toIntS a0_2).bind fun c6 =>
  some (c4, c5, c6)
/-- f41 laws.toKeeperS -/
noncomputable def laws_toKeeperS.s0 (k : Nat) (go0 : (List (List Int × List (Int × Int) × List Int) × Int × List (List Int × List (Int × Int) × List Int)) → Option (List (List Int × List (Int × Int) × List Int))) : (List (List Int × List (Int × Int) × List Int) × Int × List (List Int × List (Int × Int) × List Int)) → Option (List (List Int × List (Int × Int) × List Int)) := fun (a0, i4, r0) =>
  bif decide (i4 < (a0.length : Int)) then
    grd (decide (0 ≤ i4)) <| grd (decide (i4 < (a0.length : Int))) <|
    (laws_toKeeper (rdOf ([], [], []) a0 i4).1 (rdOf ([], [], []) a0 i4).2.1 (rdOf ([], [], []) a0 i4).2.2).bind fun (c2_0, c2_1, c2_2) =>
    grd (decide (0 ≤ i4)) <| grd (decide (i4 < (r0.length : Int))) <|
    go0 (a0, w64 (i4 + 1), setI r0 i4 (c2_0, c2_1, c2_2))
  else
    some r0
noncomputable def laws_toKeeperS.g (k : Nat) (a0 : List (List Int × List (Int × Int) × List Int)) : Option (List (List Int × List (Int × Int) × List Int)) :=
  grd ((a0.length : Int) == (a0.length : Int)) <| grd (decide (0 ≤ (a0.length : Int))) <| grd (decide (((a0.length : Int)).toNat * 72 ≤ 140737488355328)) <|
  iter (laws_toKeeperS.s0 k) k (a0, 0, List.replicate ((a0.length : Int)).toNat ([], [], []))
noncomputable def laws_toKeeperS (a0 : List (List Int × List (Int × Int) × List Int)) : Option (List (List Int × List (Int × Int) × List Int)) := lim fun k => laws_toKeeperS.g k a0
/-- f75 laws.toSlip -/
noncomputable def laws_toSlip (a0_0 : Int) (a0_1 : Int) (a0_2 : Int) (a0_3 : Int) : Option (Int × Int × Int × Int) :=
  some (a0_0, a0_1, a0_2, a0_3)
/-- f42 laws.toSlipS -/
noncomputable def laws_toSlipS.s0 (k : Nat) (go0 : (List (Int × Int × Int × Int) × Int × List (Int × Int × Int × Int)) → Option (List (Int × Int × Int × Int))) : (List (Int × Int × Int × Int) × Int × List (Int × Int × Int × Int)) → Option (List (Int × Int × Int × Int)) := fun (a0, i4, r0) =>
  bif decide (i4 < (a0.length : Int)) then
    grd (decide (0 ≤ i4)) <| grd (decide (i4 < (a0.length : Int))) <|
    (laws_toSlip (rdOf (0, 0, 0, 0) a0 i4).1 (rdOf (0, 0, 0, 0) a0 i4).2.1 (rdOf (0, 0, 0, 0) a0 i4).2.2.1 (rdOf (0, 0, 0, 0) a0 i4).2.2.2).bind fun (c2_0, c2_1, c2_2, c2_3) =>
    grd (decide (0 ≤ i4)) <| grd (decide (i4 < (r0.length : Int))) <|
    go0 (a0, w64 (i4 + 1), setI r0 i4 (c2_0, c2_1, c2_2, c2_3))
  else
    some r0
noncomputable def laws_toSlipS.g (k : Nat) (a0 : List (Int × Int × Int × Int)) : Option (List (Int × Int × Int × Int)) :=
  grd ((a0.length : Int) == (a0.length : Int)) <| grd (decide (0 ≤ (a0.length : Int))) <| grd (decide (((a0.length : Int)).toNat * 32 ≤ 140737488355328)) <|
  iter (laws_toSlipS.s0 k) k (a0, 0, List.replicate ((a0.length : Int)).toNat (0, 0, 0, 0))
noncomputable def laws_toSlipS (a0 : List (Int × Int × Int × Int)) : Option (List (Int × Int × Int × Int)) := lim fun k => laws_toSlipS.g k a0
/-- f9 laws.toCustody -/
noncomputable def laws_toCustody (a0_0 : List Int) (a0_1 : List (List Int × List (Int × Int) × List Int)) (a0_2 : List (Int × Int × Int × Int)) (a0_3 : List Int) : Option (List Int × List (List Int × List (Int × Int) × List Int) × List (Int × Int × Int × Int) × List Int) :=
  (laws_toIntS a0_0).bind fun c5 =>
  (laws_toKeeperS a0_1).bind fun c6 =>
  (laws_toSlipS a0_2).bind fun c7 =>
  (laws_toIntS a0_3).bind fun c8 =>
  some (c5, c6, c7, c8)
/-- f48 impl.within -/
noncomputable def impl_within (n0 : Int) (low1 : Int) (high2 : Int) : Option (Bool) :=
  bif decide (low1 ≤ n0) then
    some (decide (n0 ≤ high2))
  else
    some false
/-- f43 impl.isTree -/
noncomputable def impl_isTree.s0 (k : Nat) (go0 : (List Int × Int × Int) → Option (Bool)) : (List Int × Int × Int) → Option (Bool) := fun (t15, t16, t17) =>
  bif decide (t17 < t16) then
    grd (decide (0 ≤ t17)) <| grd (decide (t17 < (t15.length : Int))) <|
    bif decide (t17 > 0) then
      (impl_within (rdOf 0 t15 t17) 0 (w64 (t17 - 1))).bind fun c4 =>
      bif (!c4) then
        some false
      else
        go0 (t15, t16, w64 (t17 + 1))
    else
      go0 (t15, t16, w64 (t17 + 1))
  else
    some true
noncomputable def impl_isTree.g (k : Nat) (up0 : List Int) : Option (Bool) :=
  (impl_within (up0.length : Int) 1 8).bind fun c3 =>
  bif (!c3) then
    some false
  else
    grd (decide (0 < (up0.length : Int))) <|
    bif (rdOf 0 up0 0 != (-1)) then
      some false
    else
      iter (impl_isTree.s0 k) k (up0, (up0.length : Int), 0)
noncomputable def impl_isTree (up0 : List Int) : Option (Bool) := lim fun k => impl_isTree.g k up0
/-- f76 slices.Equal[[]int,int] -/
noncomputable def slices_Equal_int.s0 (k : Nat) (go0 : (List Int × List Int × Int × Int) → Option (Bool)) : (List Int × List Int × Int × Int) → Option (Bool) := fun (s10, s21, t12, t13) =>
  bif decide (t13 < t12) then
    grd (decide (0 ≤ t13)) <| grd (decide (t13 < (s10.length : Int))) <| grd (decide (0 ≤ t13)) <| grd (decide (t13 < (s21.length : Int))) <|
    bif (rdOf 0 s10 t13 != rdOf 0 s21 t13) then
      some false
    else
      go0 (s10, s21, t12, w64 (t13 + 1))
  else
    some true
noncomputable def slices_Equal_int.g (k : Nat) (s10 : List Int) (s21 : List Int) : Option (Bool) :=
  bif ((s10.length : Int) != (s21.length : Int)) then
    some false
  else
    iter (slices_Equal_int.s0 k) k (s10, s21, (s10.length : Int), 0)
noncomputable def slices_Equal_int (s10 : List Int) (s21 : List Int) : Option (Bool) := lim fun k => slices_Equal_int.g k s10 s21
/-- f45 impl.rise -/
noncomputable def impl_rise.s0 (k : Nat) (go0 : (List Int × Int × List Int × Int × Int) → Option (Bool)) : (List Int × Int × List Int × Int × Int) → Option (Bool) := fun (l0, n1, t7, t8, t9) =>
  bif decide (t9 < t8) then
    grd (decide (0 ≤ t9)) <| grd (decide (t9 < (t7.length : Int))) <|
    bif decide (rdOf 0 t7 t9 < 0) then
      some false
    else
      bif decide (rdOf 0 t7 t9 ≥ n1) then
        some false
      else
        bif decide (t9 > 0) then
          grd (decide (0 ≤ w64 (t9 - 1))) <| grd (decide (w64 (t9 - 1) < (l0.length : Int))) <|
          bif decide (rdOf 0 t7 t9 ≤ rdOf 0 l0 (w64 (t9 - 1))) then
            some false
          else
            go0 (l0, n1, t7, t8, w64 (t9 + 1))
        else
          go0 (l0, n1, t7, t8, w64 (t9 + 1))
  else
    some true
noncomputable def impl_rise.g (k : Nat) (l0 : List Int) (n1 : Int) : Option (Bool) :=
  iter (impl_rise.s0 k) k (l0, n1, l0, (l0.length : Int), 0)
noncomputable def impl_rise (l0 : List Int) (n1 : Int) : Option (Bool) := lim fun k => impl_rise.g k l0 n1
/-- f46 impl.ordered -/
noncomputable def impl_ordered (a0_0 : Int) (a0_1 : Int) (b1_0 : Int) (b1_1 : Int) : Option (Int) :=
  bif (a0_0 != b1_0) then
    some (w64 (a0_0 - b1_0))
  else
    some (w64 (a0_1 - b1_1))
/-- f79 slices.Index[[]int,int] -/
noncomputable def slices_Index_int.s0 (k : Nat) (go0 : (List Int × Int × Int × Int) → Option (Int)) : (List Int × Int × Int × Int) → Option (Int) := fun (s0, v1, t7, t8) =>
  bif decide (t8 < t7) then
    grd (decide (0 ≤ t8)) <| grd (decide (t8 < (s0.length : Int))) <|
    bif (v1 == rdOf 0 s0 t8) then
      some t8
    else
      go0 (s0, v1, t7, w64 (t8 + 1))
  else
    some (-1)
noncomputable def slices_Index_int.g (k : Nat) (s0 : List Int) (v1 : Int) : Option (Int) :=
  iter (slices_Index_int.s0 k) k (s0, v1, (s0.length : Int), 0)
noncomputable def slices_Index_int (s0 : List Int) (v1 : Int) : Option (Int) := lim fun k => slices_Index_int.g k s0 v1
/-- f47 slices.Contains[[]int,int] -/
noncomputable def slices_Contains_int (s0 : List Int) (v1 : Int) : Option (Bool) :=
  (slices_Index_int s0 v1).bind fun c2 =>
  some (decide (c2 ≥ 0))
/-- f80 slices.Index[[]impl.Hold,impl.Hold] -/
noncomputable def slices_Index_Hold.s0 (k : Nat) (go0 : (List (Int × Int) × Int × Int × Int × Int) → Option (Int)) : (List (Int × Int) × Int × Int × Int × Int) → Option (Int) := fun (s0, t7, t8, b0_0, b0_1) =>
  bif decide (t8 < t7) then
    grd (decide (0 ≤ t8)) <| grd (decide (t8 < (s0.length : Int))) <|
    bif ((b0_0 == (rdOf (0, 0) s0 t8).1) && (b0_1 == (rdOf (0, 0) s0 t8).2)) then
      some t8
    else
      go0 (s0, t7, w64 (t8 + 1), b0_0, b0_1)
  else
    some (-1)
noncomputable def slices_Index_Hold.g (k : Nat) (s0 : List (Int × Int)) (v1_0 : Int) (v1_1 : Int) : Option (Int) :=
  iter (slices_Index_Hold.s0 k) k (s0, (s0.length : Int), 0, v1_0, v1_1)
noncomputable def slices_Index_Hold (s0 : List (Int × Int)) (v1_0 : Int) (v1_1 : Int) : Option (Int) := lim fun k => slices_Index_Hold.g k s0 v1_0 v1_1
/-- f49 slices.Contains[[]impl.Hold,impl.Hold] -/
noncomputable def slices_Contains_Hold (s0 : List (Int × Int)) (v1_0 : Int) (v1_1 : Int) : Option (Bool) :=
  (slices_Index_Hold s0 v1_0 v1_1).bind fun c2 =>
  some (decide (c2 ≥ 0))
/-- f10 impl.GoodCustody -/
noncomputable def impl_GoodCustody.s6 (k : Nat) (go0 : (List (List Int × List (Int × Int) × List Int) × Int × Int × List Int × List (List Int × List (Int × Int) × List Int) × List (Int × Int × Int × Int) × List Int) → Option (Bool)) (go6 : (Int × List (List Int × List (Int × Int) × List Int) × Int × Int × List Int × List Int × Bool × Bool × List Int × Int × Int × List Int × List (List Int × List (Int × Int) × List Int) × List (Int × Int × Int × Int) × List Int × List Int × List (Int × Int) × List Int × List Int × List (Int × Int) × List Int) → Option (Bool)) : (Int × List (List Int × List (Int × Int) × List Int) × Int × Int × List Int × List Int × Bool × Bool × List Int × Int × Int × List Int × List (List Int × List (Int × Int) × List Int) × List (Int × Int × Int × Int) × List Int × List Int × List (Int × Int) × List Int × List Int × List (Int × Int) × List Int) → Option (Bool) := fun (n3, t45, t46, t47, t58, t60, t61, t62, t139, t140, t141, b0_0, b0_1, b0_2, b0_3, b1_0, b1_1, b1_2, b2_0, b2_1, b2_2) =>
  bif decide (t141 < t140) then
    grd (decide (0 ≤ t141)) <| grd (decide (t141 < (t139.length : Int))) <|
    (slices_Contains_int b1_0 (rdOf 0 t139 t141)).bind fun c49 =>
    bif (!c49) then
      (slices_Contains_Hold b2_1 (rdOf 0 t139 t141) n3).bind fun c50 =>
      bif (!c50) then
        some false
      else
        go6 (n3, t45, t46, t47, t58, t60, t61, t62, t139, t140, w64 (t141 + 1), b0_0, b0_1, b0_2, b0_3, b1_0, b1_1, b1_2, b2_0, b2_1, b2_2)
    else
      go6 (n3, t45, t46, t47, t58, t60, t61, t62, t139, t140, w64 (t141 + 1), b0_0, b0_1, b0_2, b0_3, b1_0, b1_1, b1_2, b2_0, b2_1, b2_2)
  else
    go0 (t45, t46, w64 (t47 + 1), b0_0, b0_1, b0_2, b0_3)
noncomputable def impl_GoodCustody.s4 (k : Nat) (go0 : (List (List Int × List (Int × Int) × List Int) × Int × Int × List Int × List (List Int × List (Int × Int) × List Int) × List (Int × Int × Int × Int) × List Int) → Option (Bool)) (go4 : (Int × List (List Int × List (Int × Int) × List Int) × Int × Int × List Int × List Int × Bool × Bool × List Int × Int × Int × List Int × List (List Int × List (Int × Int) × List Int) × List (Int × Int × Int × Int) × List Int × List Int × List (Int × Int) × List Int × List Int × List (Int × Int) × List Int) → Option (Bool)) : (Int × List (List Int × List (Int × Int) × List Int) × Int × Int × List Int × List Int × Bool × Bool × List Int × Int × Int × List Int × List (List Int × List (Int × Int) × List Int) × List (Int × Int × Int × Int) × List Int × List Int × List (Int × Int) × List Int × List Int × List (Int × Int) × List Int) → Option (Bool) := fun (n3, t45, t46, t47, t58, t60, t61, t62, t126, t127, t128, b0_0, b0_1, b0_2, b0_3, b1_0, b1_1, b1_2, b2_0, b2_1, b2_2) =>
  bif decide (t128 < t127) then
    grd (decide (0 ≤ t128)) <| grd (decide (t128 < (t126.length : Int))) <|
    (slices_Contains_int b2_0 (rdOf 0 t126 t128)).bind fun c48 =>
    bif (!c48) then
      some false
    else
      go4 (n3, t45, t46, t47, t58, t60, t61, t62, t126, t127, w64 (t128 + 1), b0_0, b0_1, b0_2, b0_3, b1_0, b1_1, b1_2, b2_0, b2_1, b2_2)
  else
    iter (impl_GoodCustody.s6 k go0) k (n3, t45, t46, t47, t58, t60, t61, t62, b2_0, (b2_0.length : Int), 0, b0_0, b0_1, b0_2, b0_3, b1_0, b1_1, b1_2, b2_0, b2_1, b2_2)
noncomputable def impl_GoodCustody.s2 (k : Nat) (go0 : (List (List Int × List (Int × Int) × List Int) × Int × Int × List Int × List (List Int × List (Int × Int) × List Int) × List (Int × Int × Int × Int) × List Int) → Option (Bool)) (go2 : (Int × List (List Int × List (Int × Int) × List Int) × Int × Int × List Int × List Int × Bool × Bool × List (Int × Int) × Int × Int × List Int × List (List Int × List (Int × Int) × List Int) × List (Int × Int × Int × Int) × List Int × List Int × List (Int × Int) × List Int) → Option (Bool)) : (Int × List (List Int × List (Int × Int) × List Int) × Int × Int × List Int × List Int × Bool × Bool × List (Int × Int) × Int × Int × List Int × List (List Int × List (Int × Int) × List Int) × List (Int × Int × Int × Int) × List Int × List Int × List (Int × Int) × List Int) → Option (Bool) := fun (n3, t45, t46, t47, t58, t60, t61, t62, t65, t66, t67, b0_0, b0_1, b0_2, b0_3, b1_0, b1_1, b1_2) =>
  bif decide (t67 < t66) then
    grd (decide (0 ≤ t67)) <| grd (decide (t67 < (t65.length : Int))) <|
    bif decide (t67 > 0) then
      grd (decide (0 ≤ w64 (t67 - 1))) <| grd (decide (w64 (t67 - 1) < (b1_1.length : Int))) <|
      (impl_ordered (rdOf (0, 0) b1_1 (w64 (t67 - 1))).1 (rdOf (0, 0) b1_1 (w64 (t67 - 1))).2 (rdOf (0, 0) t65 t67).1 (rdOf (0, 0) t65 t67).2).bind fun c43 =>
      bif decide (c43 ≥ 0) then
        some false
      else
        (slices_Contains_int b1_0 (rdOf (0, 0) t65 t67).1).bind fun c44 =>
        bif (!c44) then
          some false
        else
          (impl_within (rdOf (0, 0) t65 t67).2 1 (w64 ((b0_0.length : Int) - 1))).bind fun c45 =>
          bif (!c45) then
            some false
          else
            grd (decide (0 ≤ (rdOf (0, 0) t65 t67).2)) <| grd (decide ((rdOf (0, 0) t65 t67).2 < (b0_0.length : Int))) <|
            bif (rdOf 0 b0_0 (rdOf (0, 0) t65 t67).2 != n3) then
              some false
            else
              go2 (n3, t45, t46, t47, t58, t60, t61, t62, t65, t66, w64 (t67 + 1), b0_0, b0_1, b0_2, b0_3, b1_0, b1_1, b1_2)
    else
      (slices_Contains_int b1_0 (rdOf (0, 0) t65 t67).1).bind fun c46 =>
      bif (!c46) then
        some false
      else
        (impl_within (rdOf (0, 0) t65 t67).2 1 (w64 ((b0_0.length : Int) - 1))).bind fun c47 =>
        bif (!c47) then
          some false
        else
          grd (decide (0 ≤ (rdOf (0, 0) t65 t67).2)) <| grd (decide ((rdOf (0, 0) t65 t67).2 < (b0_0.length : Int))) <|
          bif (rdOf 0 b0_0 (rdOf (0, 0) t65 t67).2 != n3) then
            some false
          else
            go2 (n3, t45, t46, t47, t58, t60, t61, t62, t65, t66, w64 (t67 + 1), b0_0, b0_1, b0_2, b0_3, b1_0, b1_1, b1_2)
  else
    bif (n3 == 0) then
      go0 (t45, t46, w64 (t47 + 1), b0_0, b0_1, b0_2, b0_3)
    else
      grd (decide (0 ≤ n3)) <| grd (decide (n3 < (b0_0.length : Int))) <| grd (decide (0 ≤ rdOf 0 b0_0 n3)) <| grd (decide (rdOf 0 b0_0 n3 < (b0_1.length : Int))) <|
      iter (impl_GoodCustody.s4 k go0) k (n3, t45, t46, t47, t58, t60, t61, t62, b1_0, (b1_0.length : Int), 0, b0_0, b0_1, b0_2, b0_3, b1_0, b1_1, b1_2, (rdOf ([], [], []) b0_1 (rdOf 0 b0_0 n3)).1, (rdOf ([], [], []) b0_1 (rdOf 0 b0_0 n3)).2.1, (rdOf ([], [], []) b0_1 (rdOf 0 b0_0 n3)).2.2)
noncomputable def impl_GoodCustody.s8 (k : Nat) (go8 : (List (Int × Int × Int × Int) × Int × Int × List Int × List (List Int × List (Int × Int) × List Int) × List (Int × Int × Int × Int) × List Int) → Option (Bool)) : (List (Int × Int × Int × Int) × Int × Int × List Int × List (List Int × List (Int × Int) × List Int) × List (Int × Int × Int × Int) × List Int) → Option (Bool) := fun (t162, t163, t164, b0_0, b0_1, b0_2, b0_3) =>
  bif decide (t164 < t163) then
    grd (decide (0 ≤ t164)) <| grd (decide (t164 < (t162.length : Int))) <|
    (impl_within (rdOf (0, 0, 0, 0) t162 t164).2.1 0 (w64 ((b0_0.length : Int) - 1))).bind fun c51 =>
    bif (!c51) then
      some false
    else
      (impl_within (rdOf (0, 0, 0, 0) t162 t164).2.2.1 0 (w64 ((b0_0.length : Int) - 1))).bind fun c52 =>
      bif (!c52) then
        some false
      else
        grd (decide (0 ≤ (rdOf (0, 0, 0, 0) t162 t164).2.1)) <| grd (decide ((rdOf (0, 0, 0, 0) t162 t164).2.1 < (b0_1.length : Int))) <|
        (slices_Contains_int (rdOf ([], [], []) b0_1 (rdOf (0, 0, 0, 0) t162 t164).2.1).1 (rdOf (0, 0, 0, 0) t162 t164).2.2.2).bind fun c53 =>
        bif (!c53) then
          some false
        else
          bif ((rdOf (0, 0, 0, 0) t162 t164).1 == 1) then
            grd (decide (0 ≤ (rdOf (0, 0, 0, 0) t162 t164).2.2.1)) <| grd (decide ((rdOf (0, 0, 0, 0) t162 t164).2.2.1 < (b0_0.length : Int))) <|
            bif (rdOf 0 b0_0 (rdOf (0, 0, 0, 0) t162 t164).2.2.1 != (rdOf (0, 0, 0, 0) t162 t164).2.1) then
              some false
            else
              go8 (t162, t163, w64 (t164 + 1), b0_0, b0_1, b0_2, b0_3)
          else
            bif ((rdOf (0, 0, 0, 0) t162 t164).1 == 2) then
              grd (decide (0 ≤ (rdOf (0, 0, 0, 0) t162 t164).2.1)) <| grd (decide ((rdOf (0, 0, 0, 0) t162 t164).2.1 < (b0_0.length : Int))) <|
              bif (rdOf 0 b0_0 (rdOf (0, 0, 0, 0) t162 t164).2.1 != (rdOf (0, 0, 0, 0) t162 t164).2.2.1) then
                some false
              else
                go8 (t162, t163, w64 (t164 + 1), b0_0, b0_1, b0_2, b0_3)
            else
              some false
  else
    some true
noncomputable def impl_GoodCustody.s0 (k : Nat) (go0 : (List (List Int × List (Int × Int) × List Int) × Int × Int × List Int × List (List Int × List (Int × Int) × List Int) × List (Int × Int × Int × Int) × List Int) → Option (Bool)) : (List (List Int × List (Int × Int) × List Int) × Int × Int × List Int × List (List Int × List (Int × Int) × List Int) × List (Int × Int × Int × Int) × List Int) → Option (Bool) := fun (t45, t46, t47, b0_0, b0_1, b0_2, b0_3) =>
  bif decide (t47 < t46) then
    grd (decide (0 ≤ t47)) <| grd (decide (t47 < (t45.length : Int))) <|
    (impl_rise (rdOf ([], [], []) t45 t47).1 6).bind fun c41 =>
    bif (!c41) then
      some false
    else
      (sortEqF (rdOf ([], [], []) t45 t47).2.2 (rdOf ([], [], []) t45 t47).1).bind fun c42 =>
      bif (!c42) then
        some false
      else
        iter (impl_GoodCustody.s2 k go0) k (t47, t45, t46, t47, (rdOf ([], [], []) t45 t47).2.2, (rdOf ([], [], []) t45 t47).1, c42, (!c42), (rdOf ([], [], []) t45 t47).2.1, ((rdOf ([], [], []) t45 t47).2.1.length : Int), 0, b0_0, b0_1, b0_2, b0_3, (rdOf ([], [], []) t45 t47).1, (rdOf ([], [], []) t45 t47).2.1, (rdOf ([], [], []) t45 t47).2.2)
  else
    iter (impl_GoodCustody.s8 k) k (b0_2, (b0_2.length : Int), 0, b0_0, b0_1, b0_2, b0_3)
noncomputable def impl_GoodCustody.g (k : Nat) (c0_0 : List Int) (c0_1 : List (List Int × List (Int × Int) × List Int)) (c0_2 : List (Int × Int × Int × Int)) (c0_3 : List Int) : Option (Bool) :=
  (impl_isTree c0_0).bind fun c39 =>
  bif (!c39) then
    some false
  else
    bif ((c0_1.length : Int) != (c0_0.length : Int)) then
      some false
    else
      bif decide ((c0_2.length : Int) > 30) then
        some false
      else
        grd (decide (0 < (c0_1.length : Int))) <|
        (sortEqF c0_3 (rdOf ([], [], []) c0_1 0).1).bind fun c40 =>
        bif (!c40) then
          some false
        else
          iter (impl_GoodCustody.s0 k) k (c0_1, (c0_1.length : Int), 0, c0_0, c0_1, c0_2, c0_3)
noncomputable def impl_GoodCustody (c0_0 : List Int) (c0_1 : List (List Int × List (Int × Int) × List Int)) (c0_2 : List (Int × Int × Int × Int)) (c0_3 : List Int) : Option (Bool) := lim fun k => impl_GoodCustody.g k c0_0 c0_1 c0_2 c0_3
/-- f24 laws.eqIntS -/
noncomputable def laws_eqIntS.s0 (k : Nat) (go0 : (List Int × List Int × Int) → Option (Bool)) : (List Int × List Int × Int) → Option (Bool) := fun (a0, b1, i5) =>
  bif decide (i5 < (a0.length : Int)) then
    grd (decide (0 ≤ i5)) <| grd (decide (i5 < (a0.length : Int))) <| grd (decide (0 ≤ i5)) <| grd (decide (i5 < (b1.length : Int))) <|
    bif (rdOf 0 a0 i5 != rdOf 0 b1 i5) then
      some false
    else
      go0 (a0, b1, w64 (i5 + 1))
  else
    some true
noncomputable def laws_eqIntS.g (k : Nat) (a0 : List Int) (b1 : List Int) : Option (Bool) :=
  bif ((a0.length : Int) != (b1.length : Int)) then
    some false
  else
    iter (laws_eqIntS.s0 k) k (a0, b1, 0)
noncomputable def laws_eqIntS (a0 : List Int) (b1 : List Int) : Option (Bool) := lim fun k => laws_eqIntS.g k a0 b1
/-- f111 laws.eqHold -/
noncomputable def laws_eqHold (a0_0 : Int) (a0_1 : Int) (b1_0 : Int) (b1_1 : Int) : Option (Bool) :=
  bif (a0_0 != b1_0) then
    some false
  else
    bif (a0_1 != b1_1) then
      some false
    else
      some true
/-- f100 laws.eqHoldS -/
noncomputable def laws_eqHoldS.s0 (k : Nat) (go0 : (List (Int × Int) × List (Int × Int) × Int) → Option (Bool)) : (List (Int × Int) × List (Int × Int) × Int) → Option (Bool) := fun (a0, b1, i5) =>
  bif decide (i5 < (a0.length : Int)) then
    grd (decide (0 ≤ i5)) <| grd (decide (i5 < (a0.length : Int))) <| grd (decide (0 ≤ i5)) <| grd (decide (i5 < (b1.length : Int))) <|
    (laws_eqHold (rdOf (0, 0) a0 i5).1 (rdOf (0, 0) a0 i5).2 (rdOf (0, 0) b1 i5).1 (rdOf (0, 0) b1 i5).2).bind fun c1 =>
    bif (!c1) then
      some false
    else
      go0 (a0, b1, w64 (i5 + 1))
  else
    some true
noncomputable def laws_eqHoldS.g (k : Nat) (a0 : List (Int × Int)) (b1 : List (Int × Int)) : Option (Bool) :=
  bif ((a0.length : Int) != (b1.length : Int)) then
    some false
  else
    iter (laws_eqHoldS.s0 k) k (a0, b1, 0)
noncomputable def laws_eqHoldS (a0 : List (Int × Int)) (b1 : List (Int × Int)) : Option (Bool) := lim fun k => laws_eqHoldS.g k a0 b1
/-- f81 laws.eqKeeper -/
noncomputable def laws_eqKeeper (a0_0 : List Int) (a0_1 : List (Int × Int)) (a0_2 : List Int) (b1_0 : List Int) (b1_1 : List (Int × Int)) (b1_2 : List Int) : Option (Bool) :=
  (laws_eqIntS a0_0 b1_0).bind fun c2 =>
  bif (!c2) then
    some false
  else
    (laws_eqHoldS a0_1 b1_1).bind fun c3 =>
    bif (!c3) then
      some false
    else
      (laws_eqIntS a0_2 b1_2).bind fun c4 =>
      bif (!c4) then
        some false
      else
        some true
/-- f50 laws.eqKeeperS -/
noncomputable def laws_eqKeeperS.s0 (k : Nat) (go0 : (List (List Int × List (Int × Int) × List Int) × List (List Int × List (Int × Int) × List Int) × Int) → Option (Bool)) : (List (List Int × List (Int × Int) × List Int) × List (List Int × List (Int × Int) × List Int) × Int) → Option (Bool) := fun (a0, b1, i5) =>
  bif decide (i5 < (a0.length : Int)) then
    grd (decide (0 ≤ i5)) <| grd (decide (i5 < (a0.length : Int))) <| grd (decide (0 ≤ i5)) <| grd (decide (i5 < (b1.length : Int))) <|
    (laws_eqKeeper (rdOf ([], [], []) a0 i5).1 (rdOf ([], [], []) a0 i5).2.1 (rdOf ([], [], []) a0 i5).2.2 (rdOf ([], [], []) b1 i5).1 (rdOf ([], [], []) b1 i5).2.1 (rdOf ([], [], []) b1 i5).2.2).bind fun c1 =>
    bif (!c1) then
      some false
    else
      go0 (a0, b1, w64 (i5 + 1))
  else
    some true
noncomputable def laws_eqKeeperS.g (k : Nat) (a0 : List (List Int × List (Int × Int) × List Int)) (b1 : List (List Int × List (Int × Int) × List Int)) : Option (Bool) :=
  bif ((a0.length : Int) != (b1.length : Int)) then
    some false
  else
    iter (laws_eqKeeperS.s0 k) k (a0, b1, 0)
noncomputable def laws_eqKeeperS (a0 : List (List Int × List (Int × Int) × List Int)) (b1 : List (List Int × List (Int × Int) × List Int)) : Option (Bool) := lim fun k => laws_eqKeeperS.g k a0 b1
/-- f82 laws.eqSlip -/
noncomputable def laws_eqSlip (a0_0 : Int) (a0_1 : Int) (a0_2 : Int) (a0_3 : Int) (b1_0 : Int) (b1_1 : Int) (b1_2 : Int) (b1_3 : Int) : Option (Bool) :=
  bif (a0_0 != b1_0) then
    some false
  else
    bif (a0_1 != b1_1) then
      some false
    else
      bif (a0_2 != b1_2) then
        some false
      else
        bif (a0_3 != b1_3) then
          some false
        else
          some true
/-- f51 laws.eqSlipS -/
noncomputable def laws_eqSlipS.s0 (k : Nat) (go0 : (List (Int × Int × Int × Int) × List (Int × Int × Int × Int) × Int) → Option (Bool)) : (List (Int × Int × Int × Int) × List (Int × Int × Int × Int) × Int) → Option (Bool) := fun (a0, b1, i5) =>
  bif decide (i5 < (a0.length : Int)) then
    grd (decide (0 ≤ i5)) <| grd (decide (i5 < (a0.length : Int))) <| grd (decide (0 ≤ i5)) <| grd (decide (i5 < (b1.length : Int))) <|
    (laws_eqSlip (rdOf (0, 0, 0, 0) a0 i5).1 (rdOf (0, 0, 0, 0) a0 i5).2.1 (rdOf (0, 0, 0, 0) a0 i5).2.2.1 (rdOf (0, 0, 0, 0) a0 i5).2.2.2 (rdOf (0, 0, 0, 0) b1 i5).1 (rdOf (0, 0, 0, 0) b1 i5).2.1 (rdOf (0, 0, 0, 0) b1 i5).2.2.1 (rdOf (0, 0, 0, 0) b1 i5).2.2.2).bind fun c1 =>
    bif (!c1) then
      some false
    else
      go0 (a0, b1, w64 (i5 + 1))
  else
    some true
noncomputable def laws_eqSlipS.g (k : Nat) (a0 : List (Int × Int × Int × Int)) (b1 : List (Int × Int × Int × Int)) : Option (Bool) :=
  bif ((a0.length : Int) != (b1.length : Int)) then
    some false
  else
    iter (laws_eqSlipS.s0 k) k (a0, b1, 0)
noncomputable def laws_eqSlipS (a0 : List (Int × Int × Int × Int)) (b1 : List (Int × Int × Int × Int)) : Option (Bool) := lim fun k => laws_eqSlipS.g k a0 b1
/-- f11 laws.eqCustody -/
noncomputable def laws_eqCustody (a0_0 : List Int) (a0_1 : List (List Int × List (Int × Int) × List Int)) (a0_2 : List (Int × Int × Int × Int)) (a0_3 : List Int) (b1_0 : List Int) (b1_1 : List (List Int × List (Int × Int) × List Int)) (b1_2 : List (Int × Int × Int × Int)) (b1_3 : List Int) : Option (Bool) :=
  (laws_eqIntS a0_0 b1_0).bind fun c2 =>
  bif (!c2) then
    some false
  else
    (laws_eqKeeperS a0_1 b1_1).bind fun c3 =>
    bif (!c3) then
      some false
    else
      (laws_eqSlipS a0_2 b1_2).bind fun c4 =>
      bif (!c4) then
        some false
      else
        (laws_eqIntS a0_3 b1_3).bind fun c5 =>
        bif (!c5) then
          some false
        else
          some true
/-- f3 laws.FnExactGoodCustody -/
noncomputable def laws_FnExactGoodCustody (aC0_0 : List Int) (aC0_1 : List (List Int × List (Int × Int) × List Int)) (aC0_2 : List (Int × Int × Int × Int)) (aC0_3 : List Int) : Option (Bool) :=
  (laws_szCustody aC0_0 aC0_1 aC0_2 aC0_3 1048576).bind fun c2 =>
  bif decide (c2 < 0) then
    some true
  else
    (laws_toCustody aC0_0 aC0_1 aC0_2 aC0_3).bind fun (c3_0, c3_1, c3_2, c3_3) =>
    (spec_GoodCustody c3_0 c3_1 c3_2 c3_3).bind fun c4 =>
    (laws_toCustody aC0_0 aC0_1 aC0_2 aC0_3).bind fun (c5_0, c5_1, c5_2, c5_3) =>
    (impl_GoodCustody c5_0 c5_1 c5_2 c5_3).bind fun c6 =>
    bif (!(c6 == c4)) then
      some false
    else
      (laws_toCustody aC0_0 aC0_1 aC0_2 aC0_3).bind fun (c7_0, c7_1, c7_2, c7_3) =>
      (laws_eqCustody c5_0 c5_1 c5_2 c5_3 c7_0 c7_1 c7_2 c7_3).bind fun c8 =>
      bif (!c8) then
        some false
      else
        some true
/-- f12 spec.SafeFor -/
noncomputable def spec_SafeFor.s0 (k : Nat) (go0 : (Int × Int × List Int × List (List Int × List (Int × Int) × List Int) × List (Int × Int × Int × Int) × List Int) → Option (Bool × Bool)) : (Int × Int × List Int × List (List Int × List (Int × Int) × List Int) × List (Int × Int × Int × Int) × List Int) → Option (Bool × Bool) := fun (id2, k8, b0_0, b0_1, b0_2, b0_3) =>
  bif decide (k8 > 0) then
    grd (decide (0 ≤ k8)) <| grd (decide (k8 < (b0_0.length : Int))) <| grd (decide (0 ≤ rdOf 0 b0_0 k8)) <| grd (decide (rdOf 0 b0_0 k8 < (b0_1.length : Int))) <|
    (spec_l16Has (rdOf ([], [], []) b0_1 (rdOf 0 b0_0 k8)).2.1 id2 k8).bind fun c8 =>
    bif c8 then
      some (true, true)
    else
      grd (decide (0 ≤ k8)) <| grd (decide (k8 < (b0_0.length : Int))) <|
      go0 (id2, rdOf 0 b0_0 k8, b0_0, b0_1, b0_2, b0_3)
  else
    some (false, true)
noncomputable def spec_SafeFor.g (k : Nat) (c0_0 : List Int) (c0_1 : List (List Int × List (Int × Int) × List Int)) (c0_2 : List (Int × Int × Int × Int)) (c0_3 : List Int) (node1 : Int) (id2 : Int) : Option (Bool × Bool) :=
  (spec_GoodCustody c0_0 c0_1 c0_2 c0_3).bind fun c5 =>
  bif (!c5) then
    some (false, false)
  else
    bif decide (node1 < 0) then
      some (false, false)
    else
      bif decide (node1 ≥ (c0_0.length : Int)) then
        some (false, false)
      else
        (spec_l16Id id2).bind fun c6 =>
        bif (!c6) then
          some (false, false)
        else
          grd (decide (0 ≤ node1)) <| grd (decide (node1 < (c0_1.length : Int))) <|
          (spec_l1Has (rdOf ([], [], []) c0_1 node1).2.2 id2).bind fun c7 =>
          bif c7 then
            some (true, true)
          else
            iter (spec_SafeFor.s0 k) k (id2, node1, c0_0, c0_1, c0_2, c0_3)
noncomputable def spec_SafeFor (c0_0 : List Int) (c0_1 : List (List Int × List (Int × Int) × List Int)) (c0_2 : List (Int × Int × Int × Int)) (c0_3 : List Int) (node1 : Int) (id2 : Int) : Option (Bool × Bool) := lim fun k => spec_SafeFor.g k c0_0 c0_1 c0_2 c0_3 node1 id2
/-- f53 impl.isId -/
noncomputable def impl_isId (n0 : Int) : Option (Bool) :=
  (impl_within n0 0 5).bind fun c2 =>
  some c2
/-- f13 impl.SafeFor -/
noncomputable def impl_SafeFor.s0 (k : Nat) (go0 : (Int × Int × List Int × List (List Int × List (Int × Int) × List Int) × List (Int × Int × Int × Int) × List Int) → Option (Bool × Bool)) : (Int × Int × List Int × List (List Int × List (Int × Int) × List Int) × List (Int × Int × Int × Int) × List Int) → Option (Bool × Bool) := fun (id2, n8, b0_0, b0_1, b0_2, b0_3) =>
  bif decide (n8 > 0) then
    grd (decide (0 ≤ n8)) <| grd (decide (n8 < (b0_0.length : Int))) <| grd (decide (0 ≤ rdOf 0 b0_0 n8)) <| grd (decide (rdOf 0 b0_0 n8 < (b0_1.length : Int))) <|
    (slices_Contains_Hold (rdOf ([], [], []) b0_1 (rdOf 0 b0_0 n8)).2.1 id2 n8).bind fun c10 =>
    bif c10 then
      some (true, true)
    else
      grd (decide (0 ≤ n8)) <| grd (decide (n8 < (b0_0.length : Int))) <|
      go0 (id2, rdOf 0 b0_0 n8, b0_0, b0_1, b0_2, b0_3)
  else
    some (false, true)
noncomputable def impl_SafeFor.g (k : Nat) (c0_0 : List Int) (c0_1 : List (List Int × List (Int × Int) × List Int)) (c0_2 : List (Int × Int × Int × Int)) (c0_3 : List Int) (node1 : Int) (id2 : Int) : Option (Bool × Bool) :=
  (impl_GoodCustody c0_0 c0_1 c0_2 c0_3).bind fun c6 =>
  bif (!c6) then
    some (false, false)
  else
    (impl_within node1 0 (w64 ((c0_0.length : Int) - 1))).bind fun c7 =>
    bif (!c7) then
      some (false, false)
    else
      (impl_isId id2).bind fun c8 =>
      bif (!c8) then
        some (false, false)
      else
        grd (decide (0 ≤ node1)) <| grd (decide (node1 < (c0_1.length : Int))) <|
        (slices_Contains_int (rdOf ([], [], []) c0_1 node1).2.2 id2).bind fun c9 =>
        bif c9 then
          some (true, true)
        else
          iter (impl_SafeFor.s0 k) k (id2, node1, c0_0, c0_1, c0_2, c0_3)
noncomputable def impl_SafeFor (c0_0 : List Int) (c0_1 : List (List Int × List (Int × Int) × List Int)) (c0_2 : List (Int × Int × Int × Int)) (c0_3 : List Int) (node1 : Int) (id2 : Int) : Option (Bool × Bool) := lim fun k => impl_SafeFor.g k c0_0 c0_1 c0_2 c0_3 node1 id2
/-- f4 laws.FnExactSafeFor -/
noncomputable def laws_FnExactSafeFor (aC0_0 : List Int) (aC0_1 : List (List Int × List (Int × Int) × List Int)) (aC0_2 : List (Int × Int × Int × Int)) (aC0_3 : List Int) (aNode1 : Int) (aId2 : Int) : Option (Bool) :=
  (laws_szCustody aC0_0 aC0_1 aC0_2 aC0_3 1048576).bind fun c2 =>
  bif decide (c2 < 0) then
    some true
  else
    (laws_toCustody aC0_0 aC0_1 aC0_2 aC0_3).bind fun (c3_0, c3_1, c3_2, c3_3) =>
    (spec_SafeFor c3_0 c3_1 c3_2 c3_3 aNode1 aId2).bind fun (c4_0, c4_1) =>
    (laws_toCustody aC0_0 aC0_1 aC0_2 aC0_3).bind fun (c5_0, c5_1, c5_2, c5_3) =>
    (impl_SafeFor c5_0 c5_1 c5_2 c5_3 aNode1 aId2).bind fun (c6_0, c6_1) =>
    bif (!(c6_0 == c4_0)) then
      some false
    else
      bif (!(c6_1 == c4_1)) then
        some false
      else
        (laws_toCustody aC0_0 aC0_1 aC0_2 aC0_3).bind fun (c7_0, c7_1, c7_2, c7_3) =>
        (laws_eqCustody c5_0 c5_1 c5_2 c5_3 c7_0 c7_1 c7_2 c7_3).bind fun c8 =>
        bif (!c8) then
          some false
        else
          some true
end Go.Eng
