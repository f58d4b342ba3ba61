/-
Printed by engpr.py: the functions are what the definitions say.
-/
import Derived.Test.YtoancfhhlmkcbaaKD
import Derived.Test.YtoancfhhlmkcbaaKQ
import Derived.Test.YtoancfhhlmkcbaaProg
import Derived.KernelRfl
set_option linter.unusedVariables false
set_option linter.unusedSimpArgs false
namespace Go.Eng
open Go Go.Proofs Go.RowKit Go.Proofs.YtoancfhhlmkcbaaW.PrintWords Go.Proofs.YtoancfhhlmkcbaaW.PrintLast
def tabl : List (Nat × TInf) := [(3, { ty := (.int .i64) }),
  (4, { ty := .bool }),
  (5, { ty := (.int .u8) }),
  (22, { ty := (.slice 3 (.int .i64)), bytes := 8 }),
  (23, { ty := (.slice 101 (.pair (.slice 3 (.int .i64)) (.pair (.slice 133 (.pair (.int .i64) (.int .i64))) (.slice 3 (.int .i64))))), bytes := 72 }),
  (24, { ty := (.slice 106 (.pair (.int .i64) (.pair (.int .i64) (.pair (.int .i64) (.int .i64))))), bytes := 32 }),
  (26, { ty := (.pair (.slice 3 (.int .i64)) (.pair (.slice 101 (.pair (.slice 3 (.int .i64)) (.pair (.slice 133 (.pair (.int .i64) (.int .i64))) (.slice 3 (.int .i64))))) (.pair (.slice 106 (.pair (.int .i64) (.pair (.int .i64) (.pair (.int .i64) (.int .i64))))) (.slice 3 (.int .i64))))), agg := true, offs := [(0, 1), (1, 1), (2, 1), (3, 1)] }),
  (29, { ty := (.slice 49 (.pair (.slice 3 (.int .i64)) (.pair (.slice 74 (.pair (.int .i64) (.int .i64))) (.slice 3 (.int .i64))))), bytes := 72 }),
  (30, { ty := (.slice 68 (.pair (.int .i64) (.pair (.int .i64) (.pair (.int .i64) (.int .i64))))), bytes := 32 }),
  (32, { ty := (.pair (.slice 3 (.int .i64)) (.pair (.slice 49 (.pair (.slice 3 (.int .i64)) (.pair (.slice 74 (.pair (.int .i64) (.int .i64))) (.slice 3 (.int .i64))))) (.pair (.slice 68 (.pair (.int .i64) (.pair (.int .i64) (.pair (.int .i64) (.int .i64))))) (.slice 3 (.int .i64))))), agg := true, offs := [(0, 1), (1, 1), (2, 1), (3, 1)] }),
  (39, { ty := (.slice 5 (.int .u8)), bytes := 1 }),
  (40, { ty := (.slice 88 (.pair (.int .i64) (.pair (.int .i64) (.pair (.int .i64) (.int .i64))))), bytes := 32 }),
  (43, { ty := (.slice 4 .bool), bytes := 1 }),
  (47, { ty := (.slice 74 (.pair (.int .i64) (.int .i64))), bytes := 16 }),
  (49, { ty := (.pair (.slice 3 (.int .i64)) (.pair (.slice 74 (.pair (.int .i64) (.int .i64))) (.slice 3 (.int .i64)))), agg := true, offs := [(0, 1), (1, 1), (2, 1)] }),
  (52, { ty := (.slice 94 (.pair (.int .i64) (.pair (.int .i64) (.pair (.int .i64) (.int .i64))))), bytes := 32 }),
  (68, { ty := (.pair (.int .i64) (.pair (.int .i64) (.pair (.int .i64) (.int .i64)))), agg := true, offs := [(0, 1), (1, 1), (2, 1), (3, 1)], eqs := [.i64, .i64, .i64, .i64] }),
  (74, { ty := (.pair (.int .i64) (.int .i64)), agg := true, offs := [(0, 1), (1, 1)], eqs := [.i64, .i64] }),
  (80, { ty := (.int .u64) }),
  (82, { ty := (.pair (.slice 5 (.int .u8)) (.pair (.int .i64) (.int .u64))), agg := true, offs := [(0, 1), (1, 1), (2, 1)] }),
  (88, { ty := (.pair (.int .i64) (.pair (.int .i64) (.pair (.int .i64) (.int .i64)))), agg := true, offs := [(0, 1), (1, 1), (2, 1), (3, 1)] }),
  (94, { ty := (.pair (.int .i64) (.pair (.int .i64) (.pair (.int .i64) (.int .i64)))), agg := true, offs := [(0, 1), (1, 1), (2, 1), (3, 1)] }),
  (99, { ty := (.slice 133 (.pair (.int .i64) (.int .i64))), bytes := 16 }),
  (101, { ty := (.pair (.slice 3 (.int .i64)) (.pair (.slice 133 (.pair (.int .i64) (.int .i64))) (.slice 3 (.int .i64)))), agg := true, offs := [(0, 1), (1, 1), (2, 1)] }),
  (106, { ty := (.pair (.int .i64) (.pair (.int .i64) (.pair (.int .i64) (.int .i64)))), agg := true, offs := [(0, 1), (1, 1), (2, 1), (3, 1)] }),
  (133, { ty := (.pair (.int .i64) (.int .i64)), agg := true, offs := [(0, 1), (1, 1)] })]
def tab : Nat → Option TInf := tabOf tabl
theorem tab_ok : TTok Try.prog tab := tabOf_ok (by kernel_rfl)
theorem mix : Try.prog.follows .mixedOrders = true := by kernel_rfl
def tablM : List (Nat × TInf) := [(3, { ty := (.int .i64) }),
  (4, { ty := .bool }),
  (5, { ty := (.int .u8) }),
  (22, { ty := (.slice 3 (.int .i64)), bytes := 8 }),
  (23, { ty := (.slice 101 (.pair (.slice 3 (.int .i64)) (.pair (.slice 133 (.pair (.int .i64) (.int .i64))) (.slice 3 (.int .i64))))), bytes := 72 }),
  (24, { ty := (.slice 106 (.pair (.int .i64) (.pair (.int .i64) (.pair (.int .i64) (.int .i64))))), bytes := 32 }),
  (26, { ty := (.pair (.slice 3 (.int .i64)) (.pair (.slice 101 (.pair (.slice 3 (.int .i64)) (.pair (.slice 133 (.pair (.int .i64) (.int .i64))) (.slice 3 (.int .i64))))) (.pair (.slice 106 (.pair (.int .i64) (.pair (.int .i64) (.pair (.int .i64) (.int .i64))))) (.slice 3 (.int .i64))))), agg := true, offs := [(0, 1), (1, 1), (2, 1), (3, 1)] }),
  (29, { ty := (.slice 49 (.pair (.slice 3 (.int .i64)) (.pair (.slice 74 (.pair (.int .i64) (.int .i64))) (.slice 3 (.int .i64))))), bytes := 72 }),
  (30, { ty := (.slice 68 (.pair (.int .i64) (.pair (.int .i64) (.pair (.int .i64) (.int .i64))))), bytes := 32 }),
  (32, { ty := (.pair (.slice 3 (.int .i64)) (.pair (.slice 49 (.pair (.slice 3 (.int .i64)) (.pair (.slice 74 (.pair (.int .i64) (.int .i64))) (.slice 3 (.int .i64))))) (.pair (.slice 68 (.pair (.int .i64) (.pair (.int .i64) (.pair (.int .i64) (.int .i64))))) (.slice 3 (.int .i64))))), agg := true, offs := [(0, 1), (1, 1), (2, 1), (3, 1)] }),
  (39, { ty := (.slice 5 (.int .u8)), bytes := 1 }),
  (40, { ty := (.slice 88 (.pair (.int .i64) (.pair (.int .i64) (.pair (.int .i64) (.int .i64))))), bytes := 32 }),
  (43, { ty := (.slice 4 .bool), bytes := 1 }),
  (47, { ty := (.slice 74 (.pair (.int .i64) (.int .i64))), bytes := 16 }),
  (49, { ty := (.pair (.slice 3 (.int .i64)) (.pair (.slice 74 (.pair (.int .i64) (.int .i64))) (.slice 3 (.int .i64)))), agg := true, offs := [(0, 1), (1, 1), (2, 1)], mv := true }),
  (52, { ty := (.slice 94 (.pair (.int .i64) (.pair (.int .i64) (.pair (.int .i64) (.int .i64))))), bytes := 32 }),
  (68, { ty := (.pair (.int .i64) (.pair (.int .i64) (.pair (.int .i64) (.int .i64)))), agg := true, offs := [(0, 1), (1, 1), (2, 1), (3, 1)], eqs := [.i64, .i64, .i64, .i64] }),
  (74, { ty := (.pair (.int .i64) (.int .i64)), agg := true, offs := [(0, 1), (1, 1)], eqs := [.i64, .i64] }),
  (80, { ty := (.int .u64) }),
  (82, { ty := (.pair (.slice 5 (.int .u8)) (.pair (.int .i64) (.int .u64))), agg := true, offs := [(0, 1), (1, 1), (2, 1)] }),
  (88, { ty := (.pair (.int .i64) (.pair (.int .i64) (.pair (.int .i64) (.int .i64)))), agg := true, offs := [(0, 1), (1, 1), (2, 1), (3, 1)] }),
  (94, { ty := (.pair (.int .i64) (.pair (.int .i64) (.pair (.int .i64) (.int .i64)))), agg := true, offs := [(0, 1), (1, 1), (2, 1), (3, 1)] }),
  (99, { ty := (.slice 133 (.pair (.int .i64) (.int .i64))), bytes := 16 }),
  (101, { ty := (.pair (.slice 3 (.int .i64)) (.pair (.slice 133 (.pair (.int .i64) (.int .i64))) (.slice 3 (.int .i64)))), agg := true, offs := [(0, 1), (1, 1), (2, 1)] }),
  (106, { ty := (.pair (.int .i64) (.pair (.int .i64) (.pair (.int .i64) (.int .i64)))), agg := true, offs := [(0, 1), (1, 1), (2, 1), (3, 1)] }),
  (133, { ty := (.pair (.int .i64) (.int .i64)), agg := true, offs := [(0, 1), (1, 1)] })]
def tabM : Nat → Option TInf := tabOf tablM
theorem tabM_ok : TTok Try.prog tabM := tabOf_ok (by kernel_rfl)
def Try.laysSort_ren : Go.Shelf.Ren := ⟨fun | 189 => 98 | 125 => 110 | 257 => 109 | 128 => 123 | 129 => 124 | 294 => 114 | 295 => 115 | 296 => 116 | 297 => 117 | 298 => 118 | 299 => 119 | 216 => 120 | 300 => 121 | 301 => 122 | 328 => 133 | 329 => 134 | 330 => 135 | 331 => 136 | 332 => 137 | 215 => 138 | 343 => 142 | n => n, fun | 28 => 22 | 3 => 3 | 46 => 137 | 0 => 0 | 51 => 150 | 53 => 80 | 4 => 4 | 183 => 142 | 182 => 141 | 131 => 147 | 5 => 5 | 9 => 9 | 218 => 157 | 222 => 161 | 228 => 165 | 229 => 166 | n => n, fun | n => n⟩
theorem Try.laysSort : Go.Proofs.Lays.n189 Try.prog Try.laysSort_ren where
  mixed := by kernel_rfl
  f125 := Try.func110.trans (congrArg some (by kernel_rfl))
  f128 := Try.func123.trans (congrArg some (by kernel_rfl))
  f129 := Try.func124.trans (congrArg some (by kernel_rfl))
  f189 := Try.func98.trans (congrArg some (by kernel_rfl))
  f215 := Try.func138.trans (congrArg some (by kernel_rfl))
  f216 := Try.func120.trans (congrArg some (by kernel_rfl))
  f257 := Try.func109.trans (congrArg some (by kernel_rfl))
  f294 := Try.func114.trans (congrArg some (by kernel_rfl))
  f295 := Try.func115.trans (congrArg some (by kernel_rfl))
  f296 := Try.func116.trans (congrArg some (by kernel_rfl))
  f297 := Try.func117.trans (congrArg some (by kernel_rfl))
  f298 := Try.func118.trans (congrArg some (by kernel_rfl))
  f299 := Try.func119.trans (congrArg some (by kernel_rfl))
  f300 := Try.func121.trans (congrArg some (by kernel_rfl))
  f301 := Try.func122.trans (congrArg some (by kernel_rfl))
  f328 := Try.func133.trans (congrArg some (by kernel_rfl))
  f329 := Try.func134.trans (congrArg some (by kernel_rfl))
  f330 := Try.func135.trans (congrArg some (by kernel_rfl))
  f331 := Try.func136.trans (congrArg some (by kernel_rfl))
  f332 := Try.func137.trans (congrArg some (by kernel_rfl))
  f343 := Try.func142.trans (congrArg some (by kernel_rfl))
  t0 := Try.underlying0
  a0 := Try.isAgg0
  z0 := Try.sizeOf0
  v0 := Try.zeroValue0
  t3 := Try.underlying3
  a3 := Try.isAgg3
  z3 := Try.sizeOf3
  v3 := Try.zeroValue3
  t4 := Try.underlying4
  a4 := Try.isAgg4
  z4 := Try.sizeOf4
  v4 := Try.zeroValue4
  t5 := Try.underlying5
  a5 := Try.isAgg5
  z5 := Try.sizeOf5
  v5 := Try.zeroValue5
  t9 := Try.underlying9
  a9 := Try.isAgg9
  z9 := Try.sizeOf9
  v9 := Try.zeroValue9
  t28 := Try.underlying22
  a28 := Try.isAgg22
  z28 := Try.sizeOf22
  v28 := Try.zeroValue22
  t46 := Try.underlying137
  a46 := Try.isAgg137
  z46 := Try.sizeOf137
  v46 := Try.zeroValue137
  t51 := Try.underlying150
  a51 := Try.isAgg150
  z51 := Try.sizeOf150
  v51 := Try.zeroValue150
  t53 := Try.underlying80
  a53 := Try.isAgg80
  z53 := Try.sizeOf80
  v53 := Try.zeroValue80
  t131 := Try.underlying147
  a131 := Try.isAgg147
  z131 := Try.sizeOf147
  v131 := Try.zeroValue147
  t182 := Try.underlying141
  a182 := Try.isAgg141
  z182 := Try.sizeOf141
  v182 := Try.zeroValue141
  t183 := Try.underlying142
  a183 := Try.isAgg142
  z183 := Try.sizeOf142
  v183 := Try.zeroValue142
  t218 := Try.underlying157
  a218 := Try.isAgg157
  z218 := Try.sizeOf157
  v218 := Try.zeroValue157
  t222 := Try.underlying161
  a222 := Try.isAgg161
  z222 := Try.sizeOf161
  v222 := Try.zeroValue161
  t228 := Try.underlying165
  a228 := Try.isAgg165
  z228 := Try.sizeOf165
  v228 := Try.zeroValue165
  t229 := Try.underlying166
  a229 := Try.isAgg166
  z229 := Try.sizeOf166
  v229 := Try.zeroValue166

def s24 : FSig := ⟨⟨[], [(0, (.rd 3 (.int .i64) [])), (1, (.rd 3 (.int .i64) []))]⟩, [], ⟨[], [(0, (.sc .bool))]⟩, []⟩
noncomputable def S24 : CSum := s24.sum 2 (fun (x : List Int × List Int) => laws_eqIntS x.1 x.2)
noncomputable def c24 : Cfg := ⟨tab, ccOf [], 26, lpOf [(0, ⟨[], [(0, (.rd 3 (.int .i64) [])), (1, (.rd 3 (.int .i64) [])), (5, (.sc (.int .i64)))]⟩)], [], [], []⟩
theorem run24 (k : Nat) (x : List Int × List Int) : runF c24 k s24 Try.f24.results.toList (Try.f24.body.getD .skip) x = laws_eqIntS.g k x.1 x.2 := by kernel_rfl
theorem snd24 : CSnd Try.prog 24 S24 := fn_ok mix (c := c24) tab_ok (ccOf_ok (.nil)) (fn := Try.f24) (cd := Try.f24.body.getD .skip) (by kernel_rfl) (by kernel_rfl) (by kernel_rfl) (by decide) (by kernel_rfl) (by kernel_rfl) (RGok_nil _) rfl (by kernel_rfl) (fuel1 (G := fun k (x : List Int × List Int) => laws_eqIntS.g k x.1 x.2) run24)
def s111 : FSig := ⟨⟨[], [(0, (.agg (.acons (.sc (.int .i64)) (.acons (.sc (.int .i64)) .anil)))), (1, (.agg (.acons (.sc (.int .i64)) (.acons (.sc (.int .i64)) .anil))))]⟩, [], ⟨[], [(0, (.sc .bool))]⟩, []⟩
noncomputable def S111 : CSum := s111.sum 2 (fun (x : Int × Int × Int × Int) => laws_eqHold x.1 x.2.1 x.2.2.1 x.2.2.2)
noncomputable def c111 : Cfg := ⟨tab, ccOf [], 15, lpOf [], [], [], []⟩
theorem run111 (k : Nat) (x : Int × Int × Int × Int) : runF c111 k s111 Try.f111.results.toList (Try.f111.body.getD .skip) x = laws_eqHold x.1 x.2.1 x.2.2.1 x.2.2.2 := by kernel_rfl
theorem snd111 : CSnd Try.prog 111 S111 := fn_ok mix (c := c111) tab_ok (ccOf_ok (.nil)) (fn := Try.f111) (cd := Try.f111.body.getD .skip) (by kernel_rfl) (by kernel_rfl) (by kernel_rfl) (by decide) (by kernel_rfl) (by kernel_rfl) (RGok_nil _) rfl (by kernel_rfl) (fuel0 run111)
def s100 : FSig := ⟨⟨[], [(0, (.rd 74 (.pair (.int .i64) (.int .i64)) [])), (1, (.rd 74 (.pair (.int .i64) (.int .i64)) []))]⟩, [], ⟨[], [(0, (.sc .bool))]⟩, []⟩
noncomputable def S100 : CSum := s100.sum 2 (fun (x : List (Int × Int) × List (Int × Int)) => laws_eqHoldS x.1 x.2)
noncomputable def c100 : Cfg := ⟨tab, ccOf [(111, S111)], 27, lpOf [(0, ⟨[], [(0, (.rd 74 (.pair (.int .i64) (.int .i64)) [])), (1, (.rd 74 (.pair (.int .i64) (.int .i64)) [])), (5, (.sc (.int .i64)))]⟩)], [], [], []⟩
theorem run100 (k : Nat) (x : List (Int × Int) × List (Int × Int)) : runF c100 k s100 Try.f100.results.toList (Try.f100.body.getD .skip) x = laws_eqHoldS.g k x.1 x.2 := by kernel_rfl
theorem snd100 : CSnd Try.prog 100 S100 := fn_ok mix (c := c100) tab_ok (ccOf_ok (.cons snd111 .nil)) (fn := Try.f100) (cd := Try.f100.body.getD .skip) (by kernel_rfl) (by kernel_rfl) (by kernel_rfl) (by decide) (by kernel_rfl) (by kernel_rfl) (RGok_nil _) rfl (by kernel_rfl) (fuel1 (G := fun k (x : List (Int × Int) × List (Int × Int)) => laws_eqHoldS.g k x.1 x.2) run100)
def s81 : FSig := ⟨⟨[], [(0, (.agg (.acons (.rd 3 (.int .i64) []) (.acons (.rd 74 (.pair (.int .i64) (.int .i64)) []) (.acons (.rd 3 (.int .i64) []) .anil))))), (1, (.agg (.acons (.rd 3 (.int .i64) []) (.acons (.rd 74 (.pair (.int .i64) (.int .i64)) []) (.acons (.rd 3 (.int .i64) []) .anil)))))]⟩, [], ⟨[], [(0, (.sc .bool))]⟩, []⟩
noncomputable def S81 : CSum := s81.sum 2 (fun (x : List Int × List (Int × Int) × List Int × List Int × List (Int × Int) × List Int) => laws_eqKeeper x.1 x.2.1 x.2.2.1 x.2.2.2.1 x.2.2.2.2.1 x.2.2.2.2.2)
noncomputable def c81 : Cfg := ⟨tab, ccOf [(24, S24), (100, S100)], 23, lpOf [], [], [], []⟩
theorem run81 (k : Nat) (x : List Int × List (Int × Int) × List Int × List Int × List (Int × Int) × List Int) : runF c81 k s81 Try.f81.results.toList (Try.f81.body.getD .skip) x = laws_eqKeeper x.1 x.2.1 x.2.2.1 x.2.2.2.1 x.2.2.2.2.1 x.2.2.2.2.2 := by kernel_rfl
theorem snd81 : CSnd Try.prog 81 S81 := fn_ok mix (c := c81) tab_ok (ccOf_ok (.cons snd24 (.cons snd100 .nil))) (fn := Try.f81) (cd := Try.f81.body.getD .skip) (by kernel_rfl) (by kernel_rfl) (by kernel_rfl) (by decide) (by kernel_rfl) (by kernel_rfl) (RGok_nil _) rfl (by kernel_rfl) (fuel0 run81)
def s50 : FSig := ⟨⟨[], [(0, (.rd 49 (.pair (.slice 3 (.int .i64)) (.pair (.slice 74 (.pair (.int .i64) (.int .i64))) (.slice 3 (.int .i64)))) [])), (1, (.rd 49 (.pair (.slice 3 (.int .i64)) (.pair (.slice 74 (.pair (.int .i64) (.int .i64))) (.slice 3 (.int .i64)))) []))]⟩, [], ⟨[], [(0, (.sc .bool))]⟩, []⟩
noncomputable def S50 : CSum := s50.sum 2 (fun (x : List (List Int × List (Int × Int) × List Int) × List (List Int × List (Int × Int) × List Int)) => laws_eqKeeperS x.1 x.2)
noncomputable def c50 : Cfg := ⟨tab, ccOf [(81, S81)], 27, lpOf [(0, ⟨[], [(0, (.rd 49 (.pair (.slice 3 (.int .i64)) (.pair (.slice 74 (.pair (.int .i64) (.int .i64))) (.slice 3 (.int .i64)))) [])), (1, (.rd 49 (.pair (.slice 3 (.int .i64)) (.pair (.slice 74 (.pair (.int .i64) (.int .i64))) (.slice 3 (.int .i64)))) [])), (5, (.sc (.int .i64)))]⟩)], [], [], []⟩
theorem run50 (k : Nat) (x : List (List Int × List (Int × Int) × List Int) × List (List Int × List (Int × Int) × List Int)) : runF c50 k s50 Try.f50.results.toList (Try.f50.body.getD .skip) x = laws_eqKeeperS.g k x.1 x.2 := by kernel_rfl
theorem snd50 : CSnd Try.prog 50 S50 := fn_ok mix (c := c50) tab_ok (ccOf_ok (.cons snd81 .nil)) (fn := Try.f50) (cd := Try.f50.body.getD .skip) (by kernel_rfl) (by kernel_rfl) (by kernel_rfl) (by decide) (by kernel_rfl) (by kernel_rfl) (RGok_nil _) rfl (by kernel_rfl) (fuel1 (G := fun k (x : List (List Int × List (Int × Int) × List Int) × List (List Int × List (Int × Int) × List Int)) => laws_eqKeeperS.g k x.1 x.2) run50)
def s82 : FSig := ⟨⟨[], [(0, (.agg (.acons (.sc (.int .i64)) (.acons (.sc (.int .i64)) (.acons (.sc (.int .i64)) (.acons (.sc (.int .i64)) .anil)))))), (1, (.agg (.acons (.sc (.int .i64)) (.acons (.sc (.int .i64)) (.acons (.sc (.int .i64)) (.acons (.sc (.int .i64)) .anil))))))]⟩, [], ⟨[], [(0, (.sc .bool))]⟩, []⟩
noncomputable def S82 : CSum := s82.sum 2 (fun (x : Int × Int × Int × Int × Int × Int × Int × Int) => laws_eqSlip x.1 x.2.1 x.2.2.1 x.2.2.2.1 x.2.2.2.2.1 x.2.2.2.2.2.1 x.2.2.2.2.2.2.1 x.2.2.2.2.2.2.2)
noncomputable def c82 : Cfg := ⟨tab, ccOf [], 25, lpOf [], [], [], []⟩
theorem run82 (k : Nat) (x : Int × Int × Int × Int × Int × Int × Int × Int) : runF c82 k s82 Try.f82.results.toList (Try.f82.body.getD .skip) x = laws_eqSlip x.1 x.2.1 x.2.2.1 x.2.2.2.1 x.2.2.2.2.1 x.2.2.2.2.2.1 x.2.2.2.2.2.2.1 x.2.2.2.2.2.2.2 := by kernel_rfl
theorem snd82 : CSnd Try.prog 82 S82 := fn_ok mix (c := c82) tab_ok (ccOf_ok (.nil)) (fn := Try.f82) (cd := Try.f82.body.getD .skip) (by kernel_rfl) (by kernel_rfl) (by kernel_rfl) (by decide) (by kernel_rfl) (by kernel_rfl) (RGok_nil _) rfl (by kernel_rfl) (fuel0 run82)
def s51 : FSig := ⟨⟨[], [(0, (.rd 68 (.pair (.int .i64) (.pair (.int .i64) (.pair (.int .i64) (.int .i64)))) [])), (1, (.rd 68 (.pair (.int .i64) (.pair (.int .i64) (.pair (.int .i64) (.int .i64)))) []))]⟩, [], ⟨[], [(0, (.sc .bool))]⟩, []⟩
noncomputable def S51 : CSum := s51.sum 2 (fun (x : List (Int × Int × Int × Int) × List (Int × Int × Int × Int)) => laws_eqSlipS x.1 x.2)
noncomputable def c51 : Cfg := ⟨tab, ccOf [(82, S82)], 27, lpOf [(0, ⟨[], [(0, (.rd 68 (.pair (.int .i64) (.pair (.int .i64) (.pair (.int .i64) (.int .i64)))) [])), (1, (.rd 68 (.pair (.int .i64) (.pair (.int .i64) (.pair (.int .i64) (.int .i64)))) [])), (5, (.sc (.int .i64)))]⟩)], [], [], []⟩
theorem run51 (k : Nat) (x : List (Int × Int × Int × Int) × List (Int × Int × Int × Int)) : runF c51 k s51 Try.f51.results.toList (Try.f51.body.getD .skip) x = laws_eqSlipS.g k x.1 x.2 := by kernel_rfl
theorem snd51 : CSnd Try.prog 51 S51 := fn_ok mix (c := c51) tab_ok (ccOf_ok (.cons snd82 .nil)) (fn := Try.f51) (cd := Try.f51.body.getD .skip) (by kernel_rfl) (by kernel_rfl) (by kernel_rfl) (by decide) (by kernel_rfl) (by kernel_rfl) (RGok_nil _) rfl (by kernel_rfl) (fuel1 (G := fun k (x : List (Int × Int × Int × Int) × List (Int × Int × Int × Int)) => laws_eqSlipS.g k x.1 x.2) run51)
def s11 : FSig := ⟨⟨[], [(0, (.agg (.acons (.rd 3 (.int .i64) []) (.acons (.rd 49 (.pair (.slice 3 (.int .i64)) (.pair (.slice 74 (.pair (.int .i64) (.int .i64))) (.slice 3 (.int .i64)))) []) (.acons (.rd 68 (.pair (.int .i64) (.pair (.int .i64) (.pair (.int .i64) (.int .i64)))) []) (.acons (.rd 3 (.int .i64) []) .anil)))))), (1, (.agg (.acons (.rd 3 (.int .i64) []) (.acons (.rd 49 (.pair (.slice 3 (.int .i64)) (.pair (.slice 74 (.pair (.int .i64) (.int .i64))) (.slice 3 (.int .i64)))) []) (.acons (.rd 68 (.pair (.int .i64) (.pair (.int .i64) (.pair (.int .i64) (.int .i64)))) []) (.acons (.rd 3 (.int .i64) []) .anil))))))]⟩, [], ⟨[], [(0, (.sc .bool))]⟩, []⟩
noncomputable def S11 : CSum := s11.sum 2 (fun (x : List Int × List (List Int × List (Int × Int) × List Int) × List (Int × Int × Int × Int) × List Int × List Int × List (List Int × List (Int × Int) × List Int) × List (Int × Int × Int × Int) × List Int) => laws_eqCustody x.1 x.2.1 x.2.2.1 x.2.2.2.1 x.2.2.2.2.1 x.2.2.2.2.2.1 x.2.2.2.2.2.2.1 x.2.2.2.2.2.2.2)
noncomputable def c11 : Cfg := ⟨tab, ccOf [(24, S24), (50, S50), (51, S51)], 29, lpOf [], [], [], []⟩
theorem run11 (k : Nat) (x : List Int × List (List Int × List (Int × Int) × List Int) × List (Int × Int × Int × Int) × List Int × List Int × List (List Int × List (Int × Int) × List Int) × List (Int × Int × Int × Int) × List Int) : runF c11 k s11 Try.f11.results.toList (Try.f11.body.getD .skip) x = laws_eqCustody x.1 x.2.1 x.2.2.1 x.2.2.2.1 x.2.2.2.2.1 x.2.2.2.2.2.1 x.2.2.2.2.2.2.1 x.2.2.2.2.2.2.2 := by kernel_rfl
theorem snd11 : CSnd Try.prog 11 S11 := fn_ok mix (c := c11) tab_ok (ccOf_ok (.cons snd24 (.cons snd50 (.cons snd51 .nil)))) (fn := Try.f11) (cd := Try.f11.body.getD .skip) (by kernel_rfl) (by kernel_rfl) (by kernel_rfl) (by decide) (by kernel_rfl) (by kernel_rfl) (RGok_nil _) rfl (by kernel_rfl) (fuel0 run11)
def s48 : FSig := ⟨⟨[], [(0, (.sc (.int .i64))), (1, (.sc (.int .i64))), (2, (.sc (.int .i64)))]⟩, [], ⟨[], [(0, (.sc .bool))]⟩, []⟩
noncomputable def S48 : CSum := s48.sum 3 (fun (x : Int × Int × Int) => impl_within x.1 x.2.1 x.2.2)
noncomputable def c48 : Cfg := ⟨tab, ccOf [], 15, lpOf [], [], [], []⟩
theorem run48 (k : Nat) (x : Int × Int × Int) : runF c48 k s48 Try.f48.results.toList (Try.f48.body.getD .skip) x = impl_within x.1 x.2.1 x.2.2 := by kernel_rfl
theorem snd48 : CSnd Try.prog 48 S48 := fn_ok mix (c := c48) tab_ok (ccOf_ok (.nil)) (fn := Try.f48) (cd := Try.f48.body.getD .skip) (by kernel_rfl) (by kernel_rfl) (by kernel_rfl) (by decide) (by kernel_rfl) (by kernel_rfl) (RGok_nil _) rfl (by kernel_rfl) (fuel0 run48)
def s43 : FSig := ⟨⟨[], [(0, (.rd 3 (.int .i64) []))]⟩, [], ⟨[], [(0, (.sc .bool))]⟩, []⟩
noncomputable def S43 : CSum := s43.sum 1 (fun (x : List Int) => impl_isTree x)
noncomputable def c43 : Cfg := ⟨tab, ccOf [(48, S48)], 32, lpOf [(0, ⟨[], [(15, (.rd 3 (.int .i64) [])), (16, (.sc (.int .i64))), (17, (.sc (.int .i64)))]⟩)], [], [], []⟩
theorem run43 (k : Nat) (x : List Int) : runF c43 k s43 Try.f43.results.toList (Try.f43.body.getD .skip) x = impl_isTree.g k x := by kernel_rfl
theorem snd43 : CSnd Try.prog 43 S43 := fn_ok mix (c := c43) tab_ok (ccOf_ok (.cons snd48 .nil)) (fn := Try.f43) (cd := Try.f43.body.getD .skip) (by kernel_rfl) (by kernel_rfl) (by kernel_rfl) (by decide) (by kernel_rfl) (by kernel_rfl) (RGok_nil _) rfl (by kernel_rfl) (fuel1 (G := fun k (x : List Int) => impl_isTree.g k x) run43)
noncomputable def S86 : CSum := cloneS 3 (.int .i64) 8
theorem snd86 : CSnd Try.prog 86 S86 := clone_snd (T := 22) (i := { ty := (.slice 3 (.int .i64)), bytes := 8 }) (tokB_ok (by kernel_rfl)) rfl rfl (fun args w => enter_fn (fn := Try.f86) (by kernel_rfl) (by kernel_rfl) (by kernel_rfl) args w)
  (fun n c w => by
    have hq_ : ∀ (w : World) (n c : Nat), (binOp .eql 22 (.slice none n c) (.slice none 0 0)).run Try.prog w = .ok (.bool true) w := fun w n c => run_eq_nil Try.underlying22 _ _ _ _
    go_enter Try.func86, Try.ntmps86
    go_wp2
    go_ret
    exact ⟨rfl, rfl⟩)
  (fun ad n c w w' v' hr => by
    have hq_ : ∀ w, (binOp .eql 22 (.slice (some ad) n c) (.slice none 0 0)).run Try.prog w = .ok (.bool false) w := fun w => run_eq_nil Try.underlying22 _ _ _ _
    go_enter Try.func86, Try.ntmps86
    go_wp2_with ((with_reducible refine gate_builtin (b := .append) (xs := #[.tmp 5, .tmp 6]) rfl ?_); refine Kd.event_run (v := v') (w1 := w') rfl ?hr ?_; (case hr => simp [execOp, resolve, invoke, builtin, Act.eval, hr]))
    go_ret
    exact ⟨rfl, rfl⟩)
def s56 : FSig := ⟨⟨[], [(0, (.rd 3 (.int .i64) []))]⟩, [], ⟨[.row 3 (.int .i64), .row 49 (.pair (.slice 3 (.int .i64)) (.pair (.slice 74 (.pair (.int .i64) (.int .i64))) (.slice 3 (.int .i64))))], [(0, (.tup (.acons (.agg (.acons (.own 0) (.acons (.own 1) (.acons .nil (.acons .nil .anil))))) (.acons (.sc .bool) .anil))))]⟩, []⟩
noncomputable def S56 : CSum := s56.sum 1 (fun (x : List Int) => impl_NewCustody x)
noncomputable def c56 : Cfg := ⟨tab, ccOf [(43, S43), (86, S86)], 14, lpOf [], [], [], []⟩
theorem run56 (k : Nat) (x : List Int) : runF c56 k s56 Try.f56.results.toList (Try.f56.body.getD .skip) x = impl_NewCustody x := by kernel_rfl
theorem snd56 : CSnd Try.prog 56 S56 := fn_ok mix (c := c56) tab_ok (ccOf_ok (.cons snd43 (.cons snd86 .nil))) (fn := Try.f56) (cd := Try.f56.body.getD .skip) (by kernel_rfl) (by kernel_rfl) (by kernel_rfl) (by decide) (by kernel_rfl) (by kernel_rfl) (RGok_nil _) rfl (by kernel_rfl) (fuel0 run56)
def s79 : FSig := ⟨⟨[], [(0, (.rd 3 (.int .i64) [])), (1, (.sc (.int .i64)))]⟩, [], ⟨[], [(0, (.sc (.int .i64)))]⟩, []⟩
noncomputable def S79 : CSum := s79.sum 2 (fun (x : List Int × Int) => slices_Index_int x.1 x.2)
noncomputable def c79 : Cfg := ⟨tab, ccOf [], 19, lpOf [(0, ⟨[], [(0, (.rd 3 (.int .i64) [])), (1, (.sc (.int .i64))), (7, (.sc (.int .i64))), (8, (.sc (.int .i64)))]⟩)], [], [], []⟩
theorem run79 (k : Nat) (x : List Int × Int) : runF c79 k s79 Try.f79.results.toList (Try.f79.body.getD .skip) x = slices_Index_int.g k x.1 x.2 := by kernel_rfl
theorem snd79 : CSnd Try.prog 79 S79 := fn_ok mix (c := c79) tab_ok (ccOf_ok (.nil)) (fn := Try.f79) (cd := Try.f79.body.getD .skip) (by kernel_rfl) (by kernel_rfl) (by kernel_rfl) (by decide) (by kernel_rfl) (by kernel_rfl) (RGok_nil _) rfl (by kernel_rfl) (fuel1 (G := fun k (x : List Int × Int) => slices_Index_int.g k x.1 x.2) run79)
def s47 : FSig := ⟨⟨[], [(0, (.rd 3 (.int .i64) [])), (1, (.sc (.int .i64)))]⟩, [], ⟨[], [(0, (.sc .bool))]⟩, []⟩
noncomputable def S47 : CSum := s47.sum 2 (fun (x : List Int × Int) => slices_Contains_int x.1 x.2)
noncomputable def c47 : Cfg := ⟨tab, ccOf [(79, S79)], 9, lpOf [], [], [], []⟩
theorem run47 (k : Nat) (x : List Int × Int) : runF c47 k s47 Try.f47.results.toList (Try.f47.body.getD .skip) x = slices_Contains_int x.1 x.2 := by kernel_rfl
theorem snd47 : CSnd Try.prog 47 S47 := fn_ok mix (c := c47) tab_ok (ccOf_ok (.cons snd79 .nil)) (fn := Try.f47) (cd := Try.f47.body.getD .skip) (by kernel_rfl) (by kernel_rfl) (by kernel_rfl) (by decide) (by kernel_rfl) (by kernel_rfl) (RGok_nil _) rfl (by kernel_rfl) (fuel0 run47)
def s53 : FSig := ⟨⟨[], [(0, (.sc (.int .i64)))]⟩, [], ⟨[], [(0, (.sc .bool))]⟩, []⟩
noncomputable def S53 : CSum := s53.sum 1 (fun (x : Int) => impl_isId x)
noncomputable def c53 : Cfg := ⟨tab, ccOf [(48, S48)], 5, lpOf [], [], [], []⟩
theorem run53 (k : Nat) (x : Int) : runF c53 k s53 Try.f53.results.toList (Try.f53.body.getD .skip) x = impl_isId x := by kernel_rfl
theorem snd53 : CSnd Try.prog 53 S53 := fn_ok mix (c := c53) tab_ok (ccOf_ok (.cons snd48 .nil)) (fn := Try.f53) (cd := Try.f53.body.getD .skip) (by kernel_rfl) (by kernel_rfl) (by kernel_rfl) (by decide) (by kernel_rfl) (by kernel_rfl) (RGok_nil _) rfl (by kernel_rfl) (fuel0 run53)
def S98 : CSum := sortS 3
theorem snd98 : CSnd Try.prog 98 S98 := sort_snd (ρ := Try.laysSort_ren) Try.laysSort (fun args w => enter_fn (fn := Try.f98) (by kernel_rfl) (by kernel_rfl) (by kernel_rfl) args w)
def s102 : FSig := ⟨⟨[], [(0, (.rd 3 (.int .i64) [])), (1, (.sc (.int .i64)))]⟩, [], ⟨[.row 3 (.int .i64)], [(0, (.own 0))]⟩, []⟩
noncomputable def S102 : CSum := s102.sum 2 (fun (x : List Int × Int) => impl_children x.1 x.2)
noncomputable def c102 : Cfg := ⟨tab, ccOf [], 25, lpOf [(0, ⟨[.row 3 (.int .i64)], [(1, (.sc (.int .i64))), (5, (.own 0)), (9, (.rd 3 (.int .i64) [])), (10, (.sc (.int .i64))), (11, (.sc (.int .i64)))]⟩)], [], [], []⟩
theorem run102 (k : Nat) (x : List Int × Int) : runF c102 k s102 Try.f102.results.toList (Try.f102.body.getD .skip) x = impl_children.g k x.1 x.2 := by kernel_rfl
theorem snd102 : CSnd Try.prog 102 S102 := fn_ok mix (c := c102) tab_ok (ccOf_ok (.nil)) (fn := Try.f102) (cd := Try.f102.body.getD .skip) (by kernel_rfl) (by kernel_rfl) (by kernel_rfl) (by decide) (by kernel_rfl) (by kernel_rfl) (RGok_nil _) rfl (by kernel_rfl) (fuel1 (G := fun k (x : List Int × Int) => impl_children.g k x.1 x.2) run102)
/-! ### slices.SortFunc at a struct of two whole numbers -/
def Try.laysSortFunc_ren : Go.Shelf.Ren := ⟨fun | 6 => 103 | 15 => 110 | 14 => 112 | 28 => 123 | 29 => 124 | 20 => 125 | 21 => 126 | 22 => 127 | 23 => 128 | 24 => 129 | 25 => 130 | 26 => 131 | 27 => 132 | 46 => 139 | 47 => 134 | 48 => 135 | 49 => 140 | 50 => 141 | 57 => 143 | n => n, fun | 22 => 47 | 24 => 74 | 25 => 75 | 3 => 3 | 39 => 137 | 0 => 0 | 53 => 150 | 55 => 80 | 4 => 4 | 46 => 142 | 45 => 141 | 50 => 147 | 5 => 5 | 9 => 9 | 66 => 157 | 70 => 161 | 76 => 165 | 77 => 166 | n => n, fun | n => n⟩
theorem Try.laysSortFunc : Go.Proofs.SlLaysF0.n6 Try.prog Try.laysSortFunc_ren where
  mixed := by kernel_rfl
  f6 := ⟨"slices.SortFunc[[]loop.example/g00315/impl.Hold,loop.example/g00315/impl.Hold]", by decide, Try.func103.trans (congrArg some (by kernel_rfl))⟩
  f14 := ⟨"slices.pdqsortCmpFunc[loop.example/g00315/impl.Hold]", by decide, Try.func112.trans (congrArg some (by kernel_rfl))⟩
  f15 := Try.func110.trans (congrArg some (by kernel_rfl))
  f20 := ⟨"slices.insertionSortCmpFunc[loop.example/g00315/impl.Hold]", by decide, Try.func125.trans (congrArg some (by kernel_rfl))⟩
  f21 := ⟨"slices.heapSortCmpFunc[loop.example/g00315/impl.Hold]", by decide, Try.func126.trans (congrArg some (by kernel_rfl))⟩
  f22 := ⟨"slices.breakPatternsCmpFunc[loop.example/g00315/impl.Hold]", by decide, Try.func127.trans (congrArg some (by kernel_rfl))⟩
  f23 := ⟨"slices.choosePivotCmpFunc[loop.example/g00315/impl.Hold]", by decide, Try.func128.trans (congrArg some (by kernel_rfl))⟩
  f24 := ⟨"slices.reverseRangeCmpFunc[loop.example/g00315/impl.Hold]", by decide, Try.func129.trans (congrArg some (by kernel_rfl))⟩
  f25 := ⟨"slices.partialInsertionSortCmpFunc[loop.example/g00315/impl.Hold]", by decide, Try.func130.trans (congrArg some (by kernel_rfl))⟩
  f26 := ⟨"slices.partitionEqualCmpFunc[loop.example/g00315/impl.Hold]", by decide, Try.func131.trans (congrArg some (by kernel_rfl))⟩
  f27 := ⟨"slices.partitionCmpFunc[loop.example/g00315/impl.Hold]", by decide, Try.func132.trans (congrArg some (by kernel_rfl))⟩
  f28 := Try.func123.trans (congrArg some (by kernel_rfl))
  f29 := Try.func124.trans (congrArg some (by kernel_rfl))
  f46 := ⟨"slices.siftDownCmpFunc[loop.example/g00315/impl.Hold]", by decide, Try.func139.trans (congrArg some (by kernel_rfl))⟩
  f47 := Try.func134.trans (congrArg some (by kernel_rfl))
  f48 := Try.func135.trans (congrArg some (by kernel_rfl))
  f49 := ⟨"slices.medianAdjacentCmpFunc[loop.example/g00315/impl.Hold]", by decide, Try.func140.trans (congrArg some (by kernel_rfl))⟩
  f50 := ⟨"slices.medianCmpFunc[loop.example/g00315/impl.Hold]", by decide, Try.func141.trans (congrArg some (by kernel_rfl))⟩
  f57 := ⟨"slices.order2CmpFunc[loop.example/g00315/impl.Hold]", by decide, Try.func143.trans (congrArg some (by kernel_rfl))⟩
  t0 := Try.underlying0
  a0 := Try.isAgg0
  z0 := Try.sizeOf0
  v0 := Try.zeroValue0
  t3 := Try.underlying3
  a3 := Try.isAgg3
  z3 := Try.sizeOf3
  v3 := Try.zeroValue3
  t4 := Try.underlying4
  a4 := Try.isAgg4
  z4 := Try.sizeOf4
  v4 := Try.zeroValue4
  t5 := Try.underlying5
  a5 := Try.isAgg5
  z5 := Try.sizeOf5
  v5 := Try.zeroValue5
  t9 := Try.underlying9
  a9 := Try.isAgg9
  z9 := Try.sizeOf9
  v9 := Try.zeroValue9
  t22 := Try.underlying47
  a22 := Try.isAgg47
  z22 := Try.sizeOf47
  v22 := Try.zeroValue47
  t25 := Try.underlying75
  a25 := Try.isAgg75
  z25 := Try.sizeOf75
  v25 := Try.zeroValue75
  t39 := Try.underlying137
  a39 := Try.isAgg137
  z39 := Try.sizeOf137
  v39 := Try.zeroValue137
  t45 := Try.underlying141
  a45 := Try.isAgg141
  z45 := Try.sizeOf141
  v45 := Try.zeroValue141
  t46 := Try.underlying142
  a46 := Try.isAgg142
  z46 := Try.sizeOf142
  v46 := Try.zeroValue142
  t50 := Try.underlying147
  a50 := Try.isAgg147
  z50 := Try.sizeOf147
  v50 := Try.zeroValue147
  t53 := Try.underlying150
  a53 := Try.isAgg150
  z53 := Try.sizeOf150
  v53 := Try.zeroValue150
  t55 := Try.underlying80
  a55 := Try.isAgg80
  z55 := Try.sizeOf80
  v55 := Try.zeroValue80
  t66 := Try.underlying157
  a66 := Try.isAgg157
  z66 := Try.sizeOf157
  v66 := Try.zeroValue157
  t70 := Try.underlying161
  a70 := Try.isAgg161
  z70 := Try.sizeOf161
  v70 := Try.zeroValue161
  t76 := Try.underlying165
  a76 := Try.isAgg165
  z76 := Try.sizeOf165
  v76 := Try.zeroValue165
  t77 := Try.underlying166
  a77 := Try.isAgg166
  z77 := Try.sizeOf166
  v77 := Try.zeroValue166

theorem wrapI {n : Int} (h1 : -9223372036854775808 ≤ n) (h2 : n < 9223372036854775808) : IntKind.i64.wrap n = n := by
  simp [IntKind.wrap, IntKind.bits, IntKind.signed]; omega
theorem grow_two (W : World) (o1 o2 : Obj) : (W.alloc o1).alloc o2 = Go.Sort.grow W #[o1, o2] := by
  show World.mk _ _ _ _ _ = World.mk _ _ _ _ _
  congr 1
set_option maxHeartbeats 2000000 in
theorem ordered_walk (x y : HoldA) (W : World) : Calls Try.prog 46 #[.agg (encA x).toArray, .agg (encA y).toArray] W (fun en w' => en = .returned (.int .i64 (cfA x y)) ∧ ∃ os', w' = Go.Sort.grow W os') := by
  obtain ⟨⟨a, b⟩, hx⟩ := x
  obtain ⟨⟨c, d⟩, hy⟩ := y
  unfold okH okI at hx hy
  simp only [Bool.and_eq_true, decide_eq_true_eq] at hx hy
  show Calls Try.prog 46 #[.agg #[.int .i64 a, .int .i64 b], .agg #[.int .i64 c, .int .i64 d]] W (fun en w' => en = .returned (.int .i64 (if a = c then b - d else a - c)) ∧ ∃ os', w' = Go.Sort.grow W os')
  have e1 : IntKind.i64.wrap (a - c) = a - c := wrapI (by omega) (by omega)
  have e2 : IntKind.i64.wrap (b - d) = b - d := wrapI (by omega) (by omega)
  obtain ⟨r, hr⟩ : ∃ r : Int, r = if a = c then b - d else a - c := ⟨_, rfl⟩
  rw [← hr]
  have hr : Aside0 (r = if a = c then b - d else a - c) := ⟨hr⟩
  go_enter Try.func46, Try.ntmps46
  go_wp2
  all_goals
    go_ret
    have hr := hr.out
    simp only [bne_iff_ne, ne_eq, bne_eq_false_iff_eq] at *
    refine ⟨?_, _, grow_two W _ _⟩
    simp_all
noncomputable def S103 : CSum := sortHS 46 74
theorem snd103 : CSnd Try.prog 103 S103 := sortH_snd (ρ := Try.laysSortFunc_ren) Try.laysSortFunc Try.isAgg74 Try.sizeOf74 (fun args w => enter_fn (fn := Try.f103) (by kernel_rfl) (by kernel_rfl) (by kernel_rfl) args w) (fun args w => enter_fn (fn := Try.f46) (by kernel_rfl) (by kernel_rfl) (by kernel_rfl) args w) ordered_walk

def s87 : FSig := ⟨⟨[.box 32 (.acons (.own 1) (.acons (.own 2) (.acons (.own 3) (.acons (.own 4) .anil)))), .row 3 (.int .i64), .row 49 (.pair (.slice 3 (.int .i64)) (.pair (.slice 74 (.pair (.int .i64) (.int .i64))) (.slice 3 (.int .i64)))), .row 68 (.pair (.int .i64) (.pair (.int .i64) (.pair (.int .i64) (.int .i64)))), .row 3 (.int .i64)], [(0, (.ptr 0 0)), (1, (.sc (.int .i64))), (2, (.sc (.int .i64)))]⟩, [0, 1, 2, 3, 4], ⟨[.box 32 (.acons (.own 1) (.acons (.own 2) (.acons (.own 3) (.acons (.own 4) .anil)))), .row 3 (.int .i64), .row 49 (.pair (.slice 3 (.int .i64)) (.pair (.slice 74 (.pair (.int .i64) (.int .i64))) (.slice 3 (.int .i64)))), .row 68 (.pair (.int .i64) (.pair (.int .i64) (.pair (.int .i64) (.int .i64)))), .row 3 (.int .i64)], []⟩, [1, 2, 3, 4]⟩
noncomputable def S87 : CSum := s87.sum 3 (fun (x : Int × Int × List Int × List (List Int × List (Int × Int) × List Int) × List (Int × Int × Int × Int) × List Int) => impl_Custody_see x.1 x.2.1 x.2.2.1 x.2.2.2.1 x.2.2.2.2.1 x.2.2.2.2.2)
noncomputable def c87 : Cfg := ⟨tab, ccOf [(98, subS 0 S98), (102, S102), (103, subS 0 S103)], 69, lpOf [(0, ⟨[.box 32 (.acons (.own 1) (.acons (.own 2) (.acons (.own 3) (.acons (.own 4) .anil)))), .row 3 (.int .i64), .row 49 (.pair (.slice 3 (.int .i64)) (.pair (.slice 74 (.pair (.int .i64) (.int .i64))) (.slice 3 (.int .i64)))), .row 68 (.pair (.int .i64) (.pair (.int .i64) (.pair (.int .i64) (.int .i64)))), .row 3 (.int .i64), .row 3 (.int .i64)], [(2, (.sc (.int .i64))), (6, (.elt 2 0)), (45, (.own 5)), (46, (.sc (.int .i64))), (47, (.sc (.int .i64)))]⟩)], [(0, 0), (1, 1), (2, 2), (3, 3), (4, 4)], [1, 2, 3, 4], []⟩
theorem run87 (k : Nat) (x : Int × Int × List Int × List (List Int × List (Int × Int) × List Int) × List (Int × Int × Int × Int) × List Int) : runF c87 k s87 Try.f87.results.toList (Try.f87.body.getD .skip) x = impl_Custody_see.g k x.1 x.2.1 x.2.2.1 x.2.2.2.1 x.2.2.2.2.1 x.2.2.2.2.2 := by kernel_rfl
theorem snd87 : CSnd Try.prog 87 S87 := fn_ok mix (c := c87) tab_ok (ccOf_ok (.cons (subS_ok 0 snd98) (.cons snd102 (.cons (subS_ok 0 snd103) .nil)))) (fn := Try.f87) (cd := Try.f87.body.getD .skip) (by kernel_rfl) (by kernel_rfl) (by kernel_rfl) (by decide) (by kernel_rfl) (by kernel_rfl) (RGok_nil _) rfl (by kernel_rfl) (fuel1 (G := fun k (x : Int × Int × List Int × List (List Int × List (Int × Int) × List Int) × List (Int × Int × Int × Int) × List Int) => impl_Custody_see.g k x.1 x.2.1 x.2.2.1 x.2.2.2.1 x.2.2.2.2.1 x.2.2.2.2.2) run87)
def s88 : FSig := ⟨⟨[.box 32 (.acons (.own 1) (.acons (.own 2) (.acons (.own 3) (.acons (.own 4) .anil)))), .row 3 (.int .i64), .row 49 (.pair (.slice 3 (.int .i64)) (.pair (.slice 74 (.pair (.int .i64) (.int .i64))) (.slice 3 (.int .i64)))), .row 68 (.pair (.int .i64) (.pair (.int .i64) (.pair (.int .i64) (.int .i64)))), .row 3 (.int .i64)], [(0, (.ptr 0 0)), (1, (.agg (.acons (.sc (.int .i64)) (.acons (.sc (.int .i64)) (.acons (.sc (.int .i64)) (.acons (.sc (.int .i64)) .anil))))))]⟩, [0, 1, 2, 3, 4], ⟨[.box 32 (.acons (.own 1) (.acons (.own 2) (.acons (.own 3) (.acons (.own 4) .anil)))), .row 3 (.int .i64), .row 49 (.pair (.slice 3 (.int .i64)) (.pair (.slice 74 (.pair (.int .i64) (.int .i64))) (.slice 3 (.int .i64)))), .row 68 (.pair (.int .i64) (.pair (.int .i64) (.pair (.int .i64) (.int .i64)))), .row 3 (.int .i64)], [(0, (.sc .bool))]⟩, [1, 2, 4]⟩
noncomputable def S88 : CSum := s88.sum 2 (fun (x : Int × Int × Int × Int × List Int × List (List Int × List (Int × Int) × List Int) × List (Int × Int × Int × Int) × List Int) => impl_Custody_put x.1 x.2.1 x.2.2.1 x.2.2.2.1 x.2.2.2.2.1 x.2.2.2.2.2.1 x.2.2.2.2.2.2.1 x.2.2.2.2.2.2.2)
noncomputable def c88 : Cfg := ⟨tab, ccOf [], 21, lpOf [], [(0, 0), (1, 1), (2, 2), (3, 3), (4, 4)], [1, 2, 4], []⟩
theorem run88 (k : Nat) (x : Int × Int × Int × Int × List Int × List (List Int × List (Int × Int) × List Int) × List (Int × Int × Int × Int) × List Int) : runF c88 k s88 Try.f88.results.toList (Try.f88.body.getD .skip) x = impl_Custody_put x.1 x.2.1 x.2.2.1 x.2.2.2.1 x.2.2.2.2.1 x.2.2.2.2.2.1 x.2.2.2.2.2.2.1 x.2.2.2.2.2.2.2 := by kernel_rfl
theorem snd88 : CSnd Try.prog 88 S88 := fn_ok mix (c := c88) tab_ok (ccOf_ok (.nil)) (fn := Try.f88) (cd := Try.f88.body.getD .skip) (by kernel_rfl) (by kernel_rfl) (by kernel_rfl) (by decide) (by kernel_rfl) (by kernel_rfl) (RGok_nil _) rfl (by kernel_rfl) (fuel0 run88)
noncomputable def S89 : CSum := deleteS 68 (.pair (.int .i64) (.pair (.int .i64) (.pair (.int .i64) (.int .i64))))
def t30 : Ty := (.pair (.int .i64) (.pair (.int .i64) (.pair (.int .i64) (.int .i64))))
theorem tok30 : TOk Try.prog 30 { ty := (.slice 68 (.pair (.int .i64) (.pair (.int .i64) (.pair (.int .i64) (.int .i64))))), bytes := 32 } := tokB_ok (by kernel_rfl)
def segZ30_ : List Value := [.int .i64 0, .int .i64 0, .int .i64 0, .int .i64 0]
/-- clear of the one place behind a row's end. -/
theorem clearSeg30_ {base g m cap c : Nat} {ok : Nat → Prop} {W : World} {xs : List t30.den} (h : Kd.S t30.kd 68 W base ok (.slice (some ⟨g, 0, none⟩) m cap) xs) (ty : TypeId) (hc : m < cap) : (Builtin.clear_ #[30] ty #[.slice (some ⟨g, m * 4, none⟩) 1 c]).run Try.prog W = .ok (.tuple #[]) (W.setCells g (m * 4) segZ30_) := by
  have hst := run_storeCells_cells (P := Try.prog) g (m * 4) segZ30_ 0 W (fun j hj => (S_room h (m * 4 + 0 + j) (by
    have hj' : j < 4 := hj
    show m * 4 + 0 + j < cap * 4
    omega)).1) (fun j hj => (S_room h (m * 4 + 0 + j) (by
    have hj' : j < 4 := hj
    show m * 4 + 0 + j < cap * 4
    omega)).2) (fun v hv => by
    simp only [segZ30_, List.mem_cons, List.not_mem_nil, or_false] at hv
    rcases hv with rfl | rfl | rfl | rfl <;> rfl)
  rw [Nat.add_zero] at hst
  have hz : (zeroValue 68).run Try.prog W = .ok (.agg #[.int .i64 0, .int .i64 0, .int .i64 0, .int .i64 0]) W := by
    go_simp
  have hc : (Builtin.zeroCells (Value.agg #[.int .i64 0, .int .i64 0, .int .i64 0, .int .i64 0]).cells 1).toList = segZ30_ := by
    simp [Builtin.zeroCells, Value.cells, segZ30_]
    rfl
  simp only [Builtin.clear_]
  simp [run_underlying Try.underlying30, hz, hc, hst, Result.andThen]
set_option maxHeartbeats 8000000 in
set_option maxRecDepth 100000 in
theorem delete89_ {base g n cap : Nat} {ok : Nat → Prop} {w0 : World} (xs : List t30.den) (k : Nat) (w : World) (hB : Below base w0 w) (hbs : base ≤ w.heap.size) (hs : Kd.S t30.kd 68 w base ok (.slice (some ⟨g, 0, none⟩) n cap) xs) (h1 : k < n) (hn : n ≤ 1000000) :
    Calls Try.prog 89 #[.slice (some ⟨g, 0, none⟩) n cap, .int .i64 (k : Int), .int .i64 ((k : Int) + 1)] w fun e w' => e = .returned (.slice (some ⟨g, 0, none⟩) (n - 1) cap) ∧ Kd.S t30.kd 68 w' base ok (.slice (some ⟨g, 0, none⟩) (n - 1) cap) (xs.eraseIdx k) ∧ Below base w0 w' ∧ w.grownBy w' (some g) := by
  have HS := Aside0.mk hs
  have HB := Aside0.mk hB
  have HZ := Aside0.mk hbs
  have hroom := (Kd.S_reads' hs).2.1
  have HN := Aside0.mk hn
  have HR := Aside0.mk hroom
  have HK := Aside0.mk h1
  have q1 : (0 : Int) ≤ (k : Int) := by omega
  have q2 : (k : Int) ≤ (k : Int) + 1 := by omega
  have q3 : (k : Int) + 1 ≤ (n : Int) := by omega
  have q4 : (n : Int) ≤ (cap : Int) := by omega
  have q5 : ((k : Int) == (k : Int) + 1) = false := by simp; omega
  have q6 : k ≤ cap := by omega
  clear hs hB hbs hroom hn h1
  go_enter Try.func89, Try.ntmps89
  go_wp2
  refine start_ (n := 8) (S := fun _ => True) (ds := []) #[false, false, false, false, false, false, false, false] (by kernel_rfl) rfl rfl trivial (fun hHeld => ?_)
  have n0_ := Aside0.mk (Kd.S_drew HS.out)
  have n1_ := Aside0.mk (below_drew HB.out)
  have HZ1 := Aside0.mk (show base ≤ w.drew.heap.size from HZ.out)
  have HG := Aside0.mk (show w.grownBy w.drew (some g) from grown_of_below (below_drew (Below.refl _ _)) _)
  clear HS HB HZ
  have HS := n0_
  have HB := n1_
  clear n0_ n1_
  generalize w.drew = w1 at HS HB HZ1 HG hHeld ⊢
  have hr_ := HR.out
  have hk_ := HK.out
  obtain ⟨_, i84, z84, hi84, hsz84, _⟩ := tok30.slc 68 t30 rfl
  have hsz84 : i84.size = 4 := hsz84
  have hcutA := cut_from (P := Try.prog) 30 68 .i64 Try.underlying30 hi84 4 hsz84 (some ⟨g, 0, none⟩) n cap ((k : Int) + 1) (by omega) (by omega)
  rw [show ((k : Int) + 1).toNat = k + 1 by omega] at hcutA
  obtain ⟨A6, hA6⟩ : ∃ A6 : Option Addr, A6 = if cap = k + 1 then some ⟨g, 0, none⟩ else (some (⟨g, 0, none⟩ : Addr)).map (·.add ((k + 1) * 4)) := ⟨_, rfl⟩
  rw [← hA6] at hcutA
  replace hA6 := Aside0.mk hA6
  refine pN_ 0 20 ?_
  refine pN_ 1 21 ?_
  refine pN_ 2 22 ?_
  refine pN_ 3 23 ?_
  refine pN_ 4 24 ?_
  refine pN_ 5 25 ?_
  refine one_ (i := 6) (N := some 26) #[true, true, true, true, true, true, true, false] rfl rfl (by kernel_rfl) (by decide) (fun K hK => ?_)
  refine Kd.S_delete_step t30.kd base (by rfl) (.tmp 22) (.tmp 25) 30 68 rfl Try.underlying30 (by kernel_rfl) (g := g) (n := n) (c := cap) (k := k) (m := n - (k + 1)) (c2 := cap - (k + 1)) (A := A6) (by rfl) (by rfl) hA6.out rfl HS.out HK.out HB.out HZ1.out ?_
  intro w2 hS2 hB2 hg2
  refine hK.out _ _ trivial (fun _ => ?_)
  clear hK K
  have HS2 := Aside0.mk hS2
  have HB2 := Aside0.mk hB2
  have HG2 := Aside0.mk (World.grownBy.trans HG.out hg2)
  have HG12 := Aside0.mk hg2
  clear hS2 hB2 hg2 hcutA
  refine norm_ (a' := ?_) (by simp only [Act.put, List.setIfInBounds_toArray, List.set_cons_zero, List.set_cons_succ, i64_w, i32_w]; rfl) ?_
  refine pN_ 7 0 ?_
  refine done_ (by kernel_rfl) ?_
  have hcap_ : n - 1 < cap := by omega
  have hw_ := S_beyonds segZ30_ ((n - 1) * 4) w2 HS2.out (Nat.le_refl _)
  have hclr_ : (Builtin.clear_ #[30] 0 #[.slice (some ⟨g, (n - 1) * 4, none⟩) (n - (n - 1)) (cap - (n - 1))]).run Try.prog w2 = .ok (.tuple #[]) (w2.setCells g ((n - 1) * 4) segZ30_) := by
    have h_ := clearSeg30_ (c := cap - (n - 1)) HS2.out 0 hcap_
    rw [show n - (n - 1) = 1 by omega]
    exact h_
  generalize w2.setCells g ((n - 1) * 4) segZ30_ = w3 at hw_ hclr_
  have HW := Aside0.mk hw_
  have q7 : ((n - 1 : Nat) : Int) ≤ (n : Int) := by omega
  have q8 : (0 : Int) ≤ ((n - 1 : Nat) : Int) := by omega
  have HB3 := Aside0.mk (HB2.out.grown HW.out.2 (Nat.le_trans HZ1.out HG12.out.size) (fun k e => by cases e; exact Kd.S_base HS2.out _ rfl))
  clear hw_ hcap_ hr_ hk_
  go_wp2
  go_ret
  exact ⟨rfl, HW.out.1, HB3.out, World.grownBy.trans HG2.out HW.out.2⟩

theorem snd89 : CSnd Try.prog 89 S89 := delete_snd (e := 68) (t := t30) (fun args w => enter_fn (fn := Try.f89) (by kernel_rfl) (by kernel_rfl) (by kernel_rfl) args w)
  (fun w xs ok g n cap k hS hk hn => (delete89_ (base := 0) (w0 := w) xs k w (Below.refl 0 w) (Nat.zero_le _) hS hk hn).mono (fun en w' h => ⟨h.1, h.2.1, h.2.2.2⟩))

/-! ### slices.DeleteFunc at a struct of two whole numbers, its function bound to a box -/
def Try.laysIndexFunc_ren : Go.Shelf.Ren := ⟨fun | 6 => 113 | n => n, fun | 22 => 47 | 23 => 74 | 25 => 131 | 3 => 3 | 0 => 0 | 4 => 4 | n => n, fun | n => n⟩
theorem Try.laysIndexFunc : Go.Proofs.SlLaysH0.n6 Try.prog Try.laysIndexFunc_ren where
  mixed := by kernel_rfl
  f6 := ⟨"slices.IndexFunc[[]loop.example/g00315/impl.Hold,loop.example/g00315/impl.Hold]", by decide, Try.func113.trans (congrArg some (by kernel_rfl))⟩
  t0 := Try.underlying0
  a0 := Try.isAgg0
  z0 := Try.sizeOf0
  v0 := Try.zeroValue0
  t3 := Try.underlying3
  a3 := Try.isAgg3
  z3 := Try.sizeOf3
  v3 := Try.zeroValue3
  t4 := Try.underlying4
  a4 := Try.isAgg4
  z4 := Try.sizeOf4
  v4 := Try.zeroValue4
  t22 := Try.underlying47
  a22 := Try.isAgg47
  z22 := Try.sizeOf47
  v22 := Try.zeroValue47
  t25 := Try.underlying131
  a25 := Try.isAgg131
  z25 := Try.sizeOf131
  v25 := Try.zeroValue131

set_option maxHeartbeats 2000000 in
theorem clo_walk (h1 h2 : Int) (b : Nat) (c1 c3 : Int) (W : World) (hbl : b < W.heap.size) (hc1 : W.cell? ⟨b, 1, none⟩ = some (.int .i64 c1)) (hc3 : W.cell? ⟨b, 3, none⟩ = some (.int .i64 c3)) :
    Calls Try.prog 105 #[.agg #[.int .i64 h1, .int .i64 h2], .pointer (some ⟨b, 0, none⟩)] W (fun en w' => en = .returned (.bool ((h1 == c3) && (h2 == c1))) ∧ ∃ o, w' = W.alloc o) := by
  have hd1 : ∀ o, (W.alloc o).cell? ⟨b, 1, none⟩ = some (.int .i64 c1) := fun o => (World.cell?_of_block (w := W) (w' := W.alloc o) (a := ⟨b, 1, none⟩) ((World.grownBy_alloc W o none).block b hbl (by simp))).trans hc1
  have hd3 : ∀ o, (W.alloc o).cell? ⟨b, 3, none⟩ = some (.int .i64 c3) := fun o => (World.cell?_of_block (w := W) (w' := W.alloc o) (a := ⟨b, 3, none⟩) ((World.grownBy_alloc W o none).block b hbl (by simp))).trans hc3
  have he : ∀ (a b c d : Int) (w : World), (binOp .eql 74 (.agg #[.int .i64 a, .int .i64 b]) (.agg #[.int .i64 c, .int .i64 d])).run Try.prog w = .ok (.bool ((a == c) && (b == d))) w :=
    fun a b c d w => eq_two (eqsB_ok (by kernel_rfl)) a b c d w
  go_enter Try.func105, Try.ntmps105
  go_wp2
  go_ret
  exact ⟨rfl, _, rfl⟩
set_option maxHeartbeats 4000000 in
set_option maxRecDepth 100000 in
theorem delf_walk {ok : Nat → Prop} (xs : List (Int × Int)) (g n cap b : Nat) (c1 c3 : Int) (w : World) (hS : Kd.S tyH.kd 74 w 0 ok (.slice (some ⟨g, 0, none⟩) n cap) xs) (hbl : b < w.heap.size) (hbg : b ≠ g) (hc1 : w.cell? ⟨b, 1, none⟩ = some (.int .i64 c1)) (hc3 : w.cell? ⟨b, 3, none⟩ = some (.int .i64 c3)) (hn : n ≤ 1000000000) :
    Calls Try.prog 104 #[.slice (some ⟨g, 0, none⟩) n cap, .func (.func 105) #[] #[.pointer (some ⟨b, 0, none⟩)]] w (fun en w' => en = .returned (.slice (some ⟨g, 0, none⟩) (outH c3 c1 xs).length cap) ∧ Kd.S tyH.kd 74 w' 0 ok (.slice (some ⟨g, 0, none⟩) n cap) (outH c3 c1 xs ++ List.replicate (n - (outH c3 c1 xs).length) ((0, 0) : Int × Int)) ∧ w.grownBy w' (some g)) := by
  have hE := enc_pair (enc_int .i64) (enc_int .i64)
  have hnl : n = xs.length := (Kd.S_reads' hS).1
  have hncap : n ≤ cap := (Kd.S_reads' hS).2.1
  have hgl : g < w.heap.size := Kd.S_lt hS g rfl
  let p : Int × Int → Bool := fun h => (h.1 == c3) && (h.2 == c1)
  have hclo : ∀ (h1 h2 : Int) (W : World), Below w.heap.size w W ∨ w.grownBy W (some g) → Calls Try.prog 105 #[.agg #[.int .i64 h1, .int .i64 h2], .pointer (some ⟨b, 0, none⟩)] W (fun en w' => en = .returned (.bool (p (h1, h2))) ∧ ∃ o, w' = W.alloc o) := fun h1 h2 W hW => by
    have hblk : W.heap[b]? = w.heap[b]? := hW.elim (fun h => h.block b hbl) (fun h => h.block b hbl (by simpa using hbg))
    have hsz : w.heap.size ≤ W.heap.size := hW.elim (fun h => h.size) (fun h => h.size)
    exact clo_walk h1 h2 b c1 c3 W (Nat.lt_of_lt_of_le hbl hsz) ((World.cell?_of_block (w := w) (w' := W) (a := ⟨b, 1, none⟩) hblk).trans hc1) ((World.cell?_of_block (w := w) (w' := W) (a := ⟨b, 3, none⟩) hblk).trans hc3)
  have hIF := AnyQ.slices_IndexFunc (ρ := Try.laysIndexFunc_ren) Try.laysIndexFunc 2 Try.isAgg74 Try.sizeOf74 (fun h : Int × Int => [.int .i64 h.1, .int .i64 h.2]) (fun _ => rfl) p 105 #[.pointer (some ⟨b, 0, none⟩)] (fun args w => enter_fn (fn := Try.f105) (by kernel_rfl) (by kernel_rfl) (by kernel_rfl) args w) g 0 n cap xs w
    (fun W x hW => (hclo x.1 x.2 W (.inl hW)).mono (fun en w' ⟨he, o, hw⟩ => ⟨he, by rw [hw]; exact below_alloc hW o⟩))
    (by omega) (by omega) hgl (fun j hj i v hv => by
      have := (S_at hE hS (j := j) (by omega)).1 i v (by
        rw [getElem!_pos xs j hj] at hv
        rw [List.getD_eq_getElem?_getD, List.getElem?_eq_getElem hj]
        exact hv)
      rw [Nat.zero_add]
      exact this)
  rw [show xs.take n = xs from List.take_of_length_le (by omega)] at hIF
  have hkp : (fun h : Int × Int => !((h.1 == c3) && (h.2 == c1))) = fun h => !p h := rfl
  rcases idx_spec p default xs 0 with ⟨e1, hall⟩ | ⟨k0, hk0, e1, hhit, hall⟩
  · -- nothing is struck
    have e2 : Lib.idxBy (fun _ y => p y) xs default = -1 := e1
    rw [e2] at hIF
    change Calls Try.prog 113 _ _ _ at hIF
    have hout : outH c3 c1 xs = xs := List.filter_eq_self.2 (fun y hy => by
      have := hall y hy
      show (!p y) = true
      rw [this]; rfl)
    have HS := Aside0.mk hS
    have HO := Aside0.mk hout
    have HN := Aside0.mk hnl
    clear hS hout hclo hnl hc1 hc3 e1 e2 hall
    go_enter Try.func104, Try.ntmps104
    go_wp2_with (go_at_call 113; refine hIF.mono ?_; rintro e w' ⟨rfl, hb'⟩)
    go_ret
    rw [HO.out]
    refine ⟨by rw [← HN.out]; rfl, ?_, ?_⟩
    · rw [← HN.out, Nat.sub_self, List.replicate_zero, List.append_nil]
      exact Kd.S_below HS.out hb'
    · exact grown_of_below hb' _
  · have hk0n : k0 < n := by omega
    have e2 : Lib.idxBy (fun _ y => p y) xs default = (k0 : Int) := by unfold Lib.idxBy; rw [e1]; simp
    rw [e2] at hIF
    change Calls Try.prog 113 _ _ _ at hIF
    have hI0 : DfInv (fun h => !p h) xs xs k0 (k0 + 1) := DfInv.start hk0 (fun y hy => by rw [hall y hy]; rfl) (by rw [hhit]; rfl)
    have hne1 : ((k0 : Int) == -1) = false := beq_eq_false_iff_ne.2 (by omega)
    have HC := Aside0.mk hclo
    have HS := Aside0.mk hS
    have HI0 := Aside0.mk hI0
    have HN := Aside0.mk hnl
    have HE := Aside0.mk hE
    have HP : Aside0 (p = fun h => (h.1 == c3) && (h.2 == c1)) := ⟨rfl⟩
    clear_value p
    clear hS hclo hnl hc1 hc3 e1 e2 hall hI0 hhit hkp hE
    go_enter Try.func104, Try.ntmps104
    go_wp2_with (go_at_call 113; refine hIF.mono ?_; rintro e w' ⟨rfl, hb'⟩)
    go_loopg [5, 6, 7] n (fun gg s5 s6 _ wr => ∃ (i j : Nat) (cur : List (Int × Int)), s5 = .int .i64 i ∧ s6 = .int .i64 j ∧ j ≤ n ∧ n - j ≤ gg ∧ Aside0 (DfInv (fun h => !p h) xs cur i j) ∧ Aside0 (Kd.S tyH.kd 74 wr 0 ok (.slice (some ⟨g, 0, none⟩) n cap) cur) ∧ Aside0 (w.grownBy wr (some g)))
    case atStart => exact ⟨k0, k0 + 1, xs, rfl, by go_num, by omega, by omega, HI0, ⟨Kd.S_below HS.out hb'⟩, ⟨grown_of_below hb' _⟩⟩
    case round =>
      obtain ⟨i, j, cur, rfl, rfl, hjn, hgg, HI, HR, HG⟩ := hrel
      have hij := HI.out.lt
      by_cases hlt : j < n
      · have hltz : (j : Int) < (n : Int) := by omega
        have hjx : j < xs.length := by rw [← HN.out]; exact hlt
        have hcell := (S_at HE.out HR.out hlt).1
        rw [HI.out.at hjx] at hcell
        obtain ⟨x, hx⟩ : ∃ x, x = xs[j] := ⟨_, rfl⟩
        rw [← hx] at hcell
        have HX := Aside0.mk hx
        clear hx
        obtain ⟨a, c⟩ := x
        have cj0 : wr.cell? ⟨g, j * 2, none⟩ = some (.int .i64 a) := hcell 0 _ rfl
        have cj1 : wr.cell? ⟨g, j * 2 + 1, none⟩ = some (.int .i64 c) := hcell 1 _ rfl
        clear hcell
        have hcall : ∀ o1, Calls Try.prog 105 #[.agg #[.int .i64 a, .int .i64 c], .pointer (some ⟨b, 0, none⟩)] (wr.alloc o1) (fun en w' => en = .returned (.bool (p (a, c))) ∧ ∃ o, w' = (wr.alloc o1).alloc o) := fun o1 => HC.out a c _ (.inr (HG.out.trans (World.grownBy_alloc _ o1 _)))
        cases hq : p (a, c) with
        | true =>
          rw [hq] at hcall
          go_wp2_with (go_at_call 105; refine (hcall _).mono ?_; rintro e w' ⟨rfl, o, rfl⟩)
          go_roundg (n - (j + 1))
          case measure => omega
          case rel => exact ⟨i, j + 1, cur, rfl, by go_num, by omega, Nat.le_refl _, ⟨HI.out.skip hjx (by rw [← HX.out, hq]; rfl)⟩, ⟨Kd.S_alloc (Kd.S_alloc HR.out _) _⟩, ⟨(HG.out.trans (World.grownBy_alloc _ _ _)).trans (World.grownBy_alloc _ _ _)⟩⟩
        | false =>
          rw [hq] at hcall
          have hin : i < n := by omega
          have hinz : (i : Int) < (n : Int) := by omega
          have hcc : ∀ o1 o, ∃ u0 u1, ((wr.alloc o1).alloc o).cell? ⟨g, i * 2, none⟩ = some u0 ∧ ((wr.alloc o1).alloc o).cell? ⟨g, i * 2 + 1, none⟩ = some u1 ∧ ((wr.alloc o1).alloc o).frozen? ⟨g, i * 2, none⟩ = false ∧ ((wr.alloc o1).alloc o).frozen? ⟨g, i * 2 + 1, none⟩ = false := fun o1 o => by
            obtain ⟨q1, q2⟩ := S_at HE.out (Kd.S_alloc (Kd.S_alloc HR.out o1) o) hin
            exact ⟨_, _, q1 0 _ rfl, q1 1 _ rfl, q2 0, q2 1⟩
          have hput := fun o1 o => S_put (P := Try.prog) HE.out (Kd.S_alloc (Kd.S_alloc HR.out o1) o) hin (a, c)
          have HW := Aside0.mk hput
          clear hput
          go_wp2_with (go_at_call 105; refine (hcall _).mono ?_; rintro e w' ⟨rfl, o, rfl⟩; obtain ⟨u0, u1, k0_, k1_, k2_, k3_⟩ := hcc (Obj.cells #[Value.int IntKind.i64 a, Value.int IntKind.i64 c] 74) o; have k4_ := (World.cell?_setCell_other ((wr.alloc (Obj.cells #[Value.int IntKind.i64 a, Value.int IntKind.i64 c] 74)).alloc o) ⟨g, i * 2, none⟩ ⟨g, i * 2 + 1, none⟩ (.int .i64 a) (fun e_ => by injection e_ with _ e2_; omega)).trans k1_; have k5_ := (World.frozen?_setCell ((wr.alloc (Obj.cells #[Value.int IntKind.i64 a, Value.int IntKind.i64 c] 74)).alloc o) ⟨g, i * 2, none⟩ ⟨g, i * 2 + 1, none⟩ (.int .i64 a)).trans k3_)
          go_roundg (n - (j + 1))
          case measure => omega
          case rel =>
            refine ⟨i + 1, j + 1, cur.set i (a, c), by go_num, by go_num, by omega, Nat.le_refl _, ⟨?_⟩, ⟨(HW.out _ _).1⟩, ⟨((HG.out.trans (World.grownBy_alloc _ _ _)).trans (World.grownBy_alloc _ _ _)).trans (HW.out _ _).2.1⟩⟩
            have hk := HI.out.keep hjx (by rw [← HX.out, hq]; rfl)
            rwa [← HX.out] at hk
      · obtain rfl : j = n := by omega
        have hltz : ¬ (j : Int) < (j : Int) := by omega
        have hij2 : (i : Int) ≤ (j : Int) := by omega
        obtain ⟨w5, hrun, hS5, hg5⟩ := S_clear (P := Try.prog) HE.out (T := 47) (z := .agg #[.int .i64 0, .int .i64 0]) (A := some ⟨g, i * 2, none⟩) (c := cap - i) Try.underlying47 Try.zeroValue74 rfl HR.out (j := i) (by omega) (fun _ => rfl)
        go_wp2
        go_ret
        have hI := HI.out
        have hj := HN.out
        have ho : outH c3 c1 xs = xs.filter (fun h => !p h) := by rw [HP.out]; rfl
        subst hj
        obtain ⟨hd1, hd2⟩ := DfInv.done hI
        rw [ho, hd2, ← hd1]
        refine ⟨rfl, ?_, HG.out.trans hg5⟩
        have hz : (List.replicate (xs.length - i) ((0, 0) : Int × Int)) = List.replicate (xs.length - i) tyH.zero := rfl
        rw [hz]
        exact hS5
set_option maxHeartbeats 2000000 in
theorem indf_nil (fv : Value) (w : World) : Calls Try.prog 113 #[.slice none 0 0, fv] w (fun en w' => en = .returned (.int .i64 (-1)) ∧ w' = w) := by
  go_enter Try.func113, Try.ntmps113
  go_wp2
  go_loopg [5, 8] 0 (fun gg _ s8 wr => s8 = .int .i64 0 ∧ wr = w)
  case atStart => exact ⟨rfl, rfl⟩
  case round =>
    obtain ⟨rfl, rfl⟩ := hrel
    go_wp2
    go_ret
    exact ⟨rfl, rfl⟩
set_option maxHeartbeats 2000000 in
theorem delf_nil (fv : Value) (w : World) : Calls Try.prog 104 #[.slice none 0 0, fv] w (fun en w' => en = .returned (.slice none 0 0) ∧ w' = w) := by
  have hI := indf_nil fv w
  go_enter Try.func104, Try.ntmps104
  go_wp2_with (go_at_call 113; refine hI.mono ?_; rintro e w' ⟨rfl, rfl⟩)
  go_ret
  exact ⟨rfl, rfl⟩
def S104 : CSum := delHS 105 74
theorem snd104 : CSnd Try.prog 104 S104 := delH_snd (fun args w => enter_fn (fn := Try.f104) (by kernel_rfl) (by kernel_rfl) (by kernel_rfl) args w) (fun xs v b c1 c3 ok w hS hbl hbg hc1 hc3 hl => by
  have hE := enc_pair (enc_int .i64) (enc_int .i64)
  obtain ⟨h0, ho⟩ := S_enc hE hS
  rcases ho.2 with ⟨rfl, hn⟩ | ⟨g, cap, cur, rfl, _, hb, h1, h2, h3, h4⟩
  · have hx : xs = [] := List.eq_nil_of_length_eq_zero hn
    subst hx
    refine (delf_nil _ w).mono ?_
    rintro en w' ⟨rfl, rfl⟩
    exact ⟨_, rfl, hS, hS, World.grownBy.refl _ _⟩
  · refine (delf_walk xs g xs.length cap b c1 c3 w hS hbl (fun e => hbg (by rw [e]; rfl)) hc1 hc3 hl).mono ?_
    rintro en w' ⟨rfl, q1, q2⟩
    exact ⟨_, rfl, q1, S_prefix hE rfl q1, q2⟩)

def s90 : FSig := ⟨⟨[.box 32 (.acons (.own 1) (.acons (.own 2) (.acons (.own 3) (.acons (.own 4) .anil)))), .row 3 (.int .i64), .row 49 (.pair (.slice 3 (.int .i64)) (.pair (.slice 74 (.pair (.int .i64) (.int .i64))) (.slice 3 (.int .i64)))), .row 68 (.pair (.int .i64) (.pair (.int .i64) (.pair (.int .i64) (.int .i64)))), .row 3 (.int .i64)], [(0, (.ptr 0 0)), (1, (.agg (.acons (.sc (.int .i64)) (.acons (.sc (.int .i64)) (.acons (.sc (.int .i64)) (.acons (.sc (.int .i64)) .anil))))))]⟩, [0, 1, 2, 3, 4], ⟨[.box 32 (.acons (.own 1) (.acons (.own 2) (.acons (.own 3) (.acons (.own 4) .anil)))), .row 3 (.int .i64), .row 49 (.pair (.slice 3 (.int .i64)) (.pair (.slice 74 (.pair (.int .i64) (.int .i64))) (.slice 3 (.int .i64)))), .row 68 (.pair (.int .i64) (.pair (.int .i64) (.pair (.int .i64) (.int .i64)))), .row 3 (.int .i64)], []⟩, [1, 2, 4]⟩
noncomputable def S90 : CSum := s90.sum 2 (fun (x : Int × Int × Int × Int × List Int × List (List Int × List (Int × Int) × List Int) × List (Int × Int × Int × Int) × List Int) => impl_Custody_take x.1 x.2.1 x.2.2.1 x.2.2.2.1 x.2.2.2.2.1 x.2.2.2.2.2.1 x.2.2.2.2.2.2.1 x.2.2.2.2.2.2.2)
noncomputable def c90 : Cfg := ⟨tab, ccOf [(47, S47), (87, S87), (88, S88), (104, S104)], 52, lpOf [], [(0, 0), (1, 1), (2, 2), (3, 3), (4, 4)], [1, 2, 4], []⟩
theorem run90 (k : Nat) (x : Int × Int × Int × Int × List Int × List (List Int × List (Int × Int) × List Int) × List (Int × Int × Int × Int) × List Int) : runF c90 k s90 Try.f90.results.toList (Try.f90.body.getD .skip) x = impl_Custody_take x.1 x.2.1 x.2.2.1 x.2.2.2.1 x.2.2.2.2.1 x.2.2.2.2.2.1 x.2.2.2.2.2.2.1 x.2.2.2.2.2.2.2 := by kernel_rfl
theorem snd90 : CSnd Try.prog 90 S90 := fn_ok mix (c := c90) tab_ok (ccOf_ok (.cons snd47 (.cons snd87 (.cons snd88 (.cons snd104 .nil))))) (fn := Try.f90) (cd := Try.f90.body.getD .skip) (by kernel_rfl) (by kernel_rfl) (by kernel_rfl) (by decide) (by kernel_rfl) (by kernel_rfl) (RGok_nil _) rfl (by kernel_rfl) (fuel0 run90)
def s57 : FSig := ⟨⟨[.box 32 (.acons (.own 1) (.acons (.own 2) (.acons (.own 3) (.acons (.own 4) .anil)))), .row 3 (.int .i64), .row 49 (.pair (.slice 3 (.int .i64)) (.pair (.slice 74 (.pair (.int .i64) (.int .i64))) (.slice 3 (.int .i64)))), .row 68 (.pair (.int .i64) (.pair (.int .i64) (.pair (.int .i64) (.int .i64)))), .row 3 (.int .i64)], [(0, (.ptr 0 0)), (1, (.agg (.acons (.sc (.int .i64)) (.acons (.sc (.int .i64)) (.acons (.sc (.int .i64)) (.acons (.sc (.int .i64)) .anil))))))]⟩, [0, 1, 2, 3, 4], ⟨[.box 32 (.acons (.own 1) (.acons (.own 2) (.acons (.own 3) (.acons (.own 4) .anil)))), .row 3 (.int .i64), .row 49 (.pair (.slice 3 (.int .i64)) (.pair (.slice 74 (.pair (.int .i64) (.int .i64))) (.slice 3 (.int .i64)))), .row 68 (.pair (.int .i64) (.pair (.int .i64) (.pair (.int .i64) (.int .i64)))), .row 3 (.int .i64)], [(0, (.sc .bool))]⟩, [1, 2]⟩
noncomputable def S57 : CSum := s57.sum 2 (fun (x : Int × Int × Int × Int × List Int × List (List Int × List (Int × Int) × List Int) × List (Int × Int × Int × Int) × List Int) => impl_Custody_step x.1 x.2.1 x.2.2.1 x.2.2.2.1 x.2.2.2.2.1 x.2.2.2.2.2.1 x.2.2.2.2.2.2.1 x.2.2.2.2.2.2.2)
noncomputable def c57 : Cfg := ⟨tab, ccOf [(47, S47), (48, S48), (53, S53), (87, S87), (88, S88), (89, S89), (90, S90)], 140, lpOf [], [(0, 0), (1, 1), (2, 2), (3, 3), (4, 4)], [1, 2], []⟩
theorem run57 (k : Nat) (x : Int × Int × Int × Int × List Int × List (List Int × List (Int × Int) × List Int) × List (Int × Int × Int × Int) × List Int) : runF c57 k s57 Try.f57.results.toList (Try.f57.body.getD .skip) x = impl_Custody_step x.1 x.2.1 x.2.2.1 x.2.2.2.1 x.2.2.2.2.1 x.2.2.2.2.2.1 x.2.2.2.2.2.2.1 x.2.2.2.2.2.2.2 := by kernel_rfl
theorem snd57 : CSnd Try.prog 57 S57 := fn_ok mix (c := c57) tab_ok (ccOf_ok (.cons snd47 (.cons snd48 (.cons snd53 (.cons snd87 (.cons snd88 (.cons snd89 (.cons snd90 .nil)))))))) (fn := Try.f57) (cd := Try.f57.body.getD .skip) (by kernel_rfl) (by kernel_rfl) (by kernel_rfl) (by decide) (by kernel_rfl) (by kernel_rfl) (RGok_nil _) rfl (by kernel_rfl) (fuel0 run57)
def s15 : FSig := ⟨⟨[], [(0, (.rd 3 (.int .i64) [])), (1, (.rd 88 (.pair (.int .i64) (.pair (.int .i64) (.pair (.int .i64) (.int .i64)))) []))]⟩, [], ⟨[.row 3 (.int .i64), .row 49 (.pair (.slice 3 (.int .i64)) (.pair (.slice 74 (.pair (.int .i64) (.int .i64))) (.slice 3 (.int .i64)))), .row 68 (.pair (.int .i64) (.pair (.int .i64) (.pair (.int .i64) (.int .i64)))), .row 3 (.int .i64), .row 4 .bool], [(0, (.tup (.acons (.agg (.acons (.own 0) (.acons (.own 1) (.acons (.own 2) (.acons (.own 3) .anil))))) (.acons (.own 4) (.acons (.sc .bool) .anil)))))]⟩, []⟩
noncomputable def S15 : CSum := s15.sum 2 (fun (x : List Int × List (Int × Int × Int × Int)) => impl_PlayCustody x.1 x.2)
noncomputable def c15 : Cfg := ⟨tab, ccOf [(56, S56), (57, S57)], 40, lpOf [(0, ⟨[.box 32 (.acons .nil (.acons .nil (.acons .nil (.acons .nil .anil)))), .box 32 (.acons (.own 3) (.acons (.own 4) (.acons (.own 5) (.acons (.own 6) .anil)))), .row 4 .bool, .row 3 (.int .i64), .row 49 (.pair (.slice 3 (.int .i64)) (.pair (.slice 74 (.pair (.int .i64) (.int .i64))) (.slice 3 (.int .i64)))), .row 68 (.pair (.int .i64) (.pair (.int .i64) (.pair (.int .i64) (.int .i64)))), .row 3 (.int .i64)], [(4, (.ptr 0 0)), (7, (.ptr 1 0)), (9, (.own 2)), (26, (.rd 88 (.pair (.int .i64) (.pair (.int .i64) (.pair (.int .i64) (.int .i64)))) [])), (27, (.sc (.int .i64))), (28, (.sc (.int .i64)))]⟩)], [], [], []⟩
theorem run15 (k : Nat) (x : List Int × List (Int × Int × Int × Int)) : runF c15 k s15 Try.f15.results.toList (Try.f15.body.getD .skip) x = impl_PlayCustody.g k x.1 x.2 := by kernel_rfl
theorem snd15 : CSnd Try.prog 15 S15 := fn_ok mix (c := c15) tab_ok (ccOf_ok (.cons snd56 (.cons snd57 .nil))) (fn := Try.f15) (cd := Try.f15.body.getD .skip) (by kernel_rfl) (by kernel_rfl) (by kernel_rfl) (by decide) (by kernel_rfl) (by kernel_rfl) (RGok_nil _) rfl (by kernel_rfl) (fuel1 (G := fun k (x : List Int × List (Int × Int × Int × Int)) => impl_PlayCustody.g k x.1 x.2) run15)
def s39 : FSig := ⟨⟨[], [(0, (.sc (.int .i64))), (1, (.sc (.int .i64))), (2, (.sc (.int .i64)))]⟩, [], ⟨[], [(0, (.sc .bool))]⟩, []⟩
noncomputable def S39 : CSum := s39.sum 3 (fun (x : Int × Int × Int) => spec_l1In x.1 x.2.1 x.2.2)
noncomputable def c39 : Cfg := ⟨tab, ccOf [], 15, lpOf [], [], [], []⟩
theorem run39 (k : Nat) (x : Int × Int × Int) : runF c39 k s39 Try.f39.results.toList (Try.f39.body.getD .skip) x = spec_l1In x.1 x.2.1 x.2.2 := by kernel_rfl
theorem snd39 : CSnd Try.prog 39 S39 := fn_ok mix (c := c39) tab_ok (ccOf_ok (.nil)) (fn := Try.f39) (cd := Try.f39.body.getD .skip) (by kernel_rfl) (by kernel_rfl) (by kernel_rfl) (by decide) (by kernel_rfl) (by kernel_rfl) (RGok_nil _) rfl (by kernel_rfl) (fuel0 run39)
def s35 : FSig := ⟨⟨[], [(0, (.rd 3 (.int .i64) []))]⟩, [], ⟨[], [(0, (.sc .bool))]⟩, []⟩
noncomputable def S35 : CSum := s35.sum 1 (fun (x : List Int) => spec_l16Tree x)
noncomputable def c35 : Cfg := ⟨tab, ccOf [(39, S39)], 30, lpOf [(0, ⟨[], [(0, (.rd 3 (.int .i64) [])), (5, (.rd 3 (.int .i64) [])), (6, (.sc (.int .i64))), (7, (.sc (.int .i64)))]⟩)], [], [], []⟩
theorem run35 (k : Nat) (x : List Int) : runF c35 k s35 Try.f35.results.toList (Try.f35.body.getD .skip) x = spec_l16Tree.g k x := by kernel_rfl
theorem snd35 : CSnd Try.prog 35 S35 := fn_ok mix (c := c35) tab_ok (ccOf_ok (.cons snd39 .nil)) (fn := Try.f35) (cd := Try.f35.body.getD .skip) (by kernel_rfl) (by kernel_rfl) (by kernel_rfl) (by decide) (by kernel_rfl) (by kernel_rfl) (RGok_nil _) rfl (by kernel_rfl) (fuel1 (G := fun k (x : List Int) => spec_l16Tree.g k x) run35)
def s58 : FSig := ⟨⟨[], [(0, (.rd 3 (.int .i64) []))]⟩, [], ⟨[.row 3 (.int .i64), .row 49 (.pair (.slice 3 (.int .i64)) (.pair (.slice 74 (.pair (.int .i64) (.int .i64))) (.slice 3 (.int .i64))))], [(0, (.tup (.acons (.agg (.acons (.own 0) (.acons (.own 1) (.acons .nil (.acons .nil .anil))))) (.acons (.sc .bool) .anil))))]⟩, []⟩
noncomputable def S58 : CSum := s58.sum 1 (fun (x : List Int) => spec_NewCustody x)
noncomputable def c58 : Cfg := ⟨tab, ccOf [(35, S35)], 15, lpOf [], [], [], []⟩
theorem run58 (k : Nat) (x : List Int) : runF c58 k s58 Try.f58.results.toList (Try.f58.body.getD .skip) x = spec_NewCustody x := by kernel_rfl
theorem snd58 : CSnd Try.prog 58 S58 := fn_ok mix (c := c58) tab_ok (ccOf_ok (.cons snd35 .nil)) (fn := Try.f58) (cd := Try.f58.body.getD .skip) (by kernel_rfl) (by kernel_rfl) (by kernel_rfl) (by decide) (by kernel_rfl) (by kernel_rfl) (RGok_nil _) rfl (by kernel_rfl) (fuel0 run58)
def s37 : FSig := ⟨⟨[], [(0, (.sc (.int .i64)))]⟩, [], ⟨[], [(0, (.sc .bool))]⟩, []⟩
noncomputable def S37 : CSum := s37.sum 1 (fun (x : Int) => spec_l16Id x)
noncomputable def c37 : Cfg := ⟨tab, ccOf [], 9, lpOf [], [], [], []⟩
theorem run37 (k : Nat) (x : Int) : runF c37 k s37 Try.f37.results.toList (Try.f37.body.getD .skip) x = spec_l16Id x := by kernel_rfl
theorem snd37 : CSnd Try.prog 37 S37 := fn_ok mix (c := c37) tab_ok (ccOf_ok (.nil)) (fn := Try.f37) (cd := Try.f37.body.getD .skip) (by kernel_rfl) (by kernel_rfl) (by kernel_rfl) (by decide) (by kernel_rfl) (by kernel_rfl) (RGok_nil _) rfl (by kernel_rfl) (fuel0 run37)
def s38 : FSig := ⟨⟨[], [(0, (.rd 3 (.int .i64) [])), (1, (.sc (.int .i64)))]⟩, [], ⟨[], [(0, (.sc .bool))]⟩, []⟩
noncomputable def S38 : CSum := s38.sum 2 (fun (x : List Int × Int) => spec_l1Has x.1 x.2)
noncomputable def c38 : Cfg := ⟨tab, ccOf [], 17, lpOf [(0, ⟨[], [(1, (.sc (.int .i64))), (7, (.rd 3 (.int .i64) [])), (8, (.sc (.int .i64))), (9, (.sc (.int .i64)))]⟩)], [], [], []⟩
theorem run38 (k : Nat) (x : List Int × Int) : runF c38 k s38 Try.f38.results.toList (Try.f38.body.getD .skip) x = spec_l1Has.g k x.1 x.2 := by kernel_rfl
theorem snd38 : CSnd Try.prog 38 S38 := fn_ok mix (c := c38) tab_ok (ccOf_ok (.nil)) (fn := Try.f38) (cd := Try.f38.body.getD .skip) (by kernel_rfl) (by kernel_rfl) (by kernel_rfl) (by decide) (by kernel_rfl) (by kernel_rfl) (RGok_nil _) rfl (by kernel_rfl) (fuel1 (G := fun k (x : List Int × Int) => spec_l1Has.g k x.1 x.2) run38)
def s72 : FSig := ⟨⟨[], [(0, (.rd 3 (.int .i64) [])), (1, (.sc (.int .i64)))]⟩, [], ⟨[.row 3 (.int .i64)], [(0, (.own 0))]⟩, []⟩
noncomputable def S72 : CSum := s72.sum 2 (fun (x : List Int × Int) => spec_l16Children x.1 x.2)
noncomputable def c72 : Cfg := ⟨tab, ccOf [], 28, lpOf [(0, ⟨[.row 3 (.int .i64)], [(1, (.sc (.int .i64))), (5, (.own 0)), (8, (.rd 3 (.int .i64) [])), (9, (.sc (.int .i64))), (10, (.sc (.int .i64)))]⟩)], [], [], []⟩
theorem run72 (k : Nat) (x : List Int × Int) : runF c72 k s72 Try.f72.results.toList (Try.f72.body.getD .skip) x = spec_l16Children.g k x.1 x.2 := by kernel_rfl
theorem snd72 : CSnd Try.prog 72 S72 := fn_ok mix (c := c72) tab_ok (ccOf_ok (.nil)) (fn := Try.f72) (cd := Try.f72.body.getD .skip) (by kernel_rfl) (by kernel_rfl) (by kernel_rfl) (by decide) (by kernel_rfl) (by kernel_rfl) (RGok_nil _) rfl (by kernel_rfl) (fuel1 (G := fun k (x : List Int × Int) => spec_l16Children.g k x.1 x.2) run72)
def s73 : FSig := ⟨⟨[], [(0, (.agg (.acons (.sc (.int .i64)) (.acons (.sc (.int .i64)) .anil)))), (1, (.agg (.acons (.sc (.int .i64)) (.acons (.sc (.int .i64)) .anil))))]⟩, [], ⟨[], [(0, (.sc .bool))]⟩, []⟩
noncomputable def S73 : CSum := s73.sum 2 (fun (x : Int × Int × Int × Int) => spec_l16Less x.1 x.2.1 x.2.2.1 x.2.2.2)
noncomputable def c73 : Cfg := ⟨tab, ccOf [], 24, lpOf [], [], [], []⟩
theorem run73 (k : Nat) (x : Int × Int × Int × Int) : runF c73 k s73 Try.f73.results.toList (Try.f73.body.getD .skip) x = spec_l16Less x.1 x.2.1 x.2.2.1 x.2.2.2 := by kernel_rfl
theorem snd73 : CSnd Try.prog 73 S73 := fn_ok mix (c := c73) tab_ok (ccOf_ok (.nil)) (fn := Try.f73) (cd := Try.f73.body.getD .skip) (by kernel_rfl) (by kernel_rfl) (by kernel_rfl) (by decide) (by kernel_rfl) (by kernel_rfl) (RGok_nil _) rfl (by kernel_rfl) (fuel0 run73)
def s106 : FSig := ⟨⟨[.row 3 (.int .i64)], [(0, (.own 0)), (1, (.sc (.int .i64)))]⟩, [], ⟨[.row 3 (.int .i64)], [(0, (.own 0))]⟩, []⟩
noncomputable def S106 : CSum := s106.sum 2 (fun (x : Int × List Int) => spec_l7Put x.1 x.2)
noncomputable def c106 : Cfg := ⟨tab, ccOf [], 48, lpOf [(0, ⟨[.row 3 (.int .i64)], [(0, (.own 0)), (1, (.sc (.int .i64))), (5, (.sc (.int .i64)))]⟩)], [], [], []⟩
theorem run106 (k : Nat) (x : Int × List Int) : runF c106 k s106 Try.f106.results.toList (Try.f106.body.getD .skip) x = spec_l7Put.g k x.1 x.2 := by kernel_rfl
theorem snd106 : CSnd Try.prog 106 S106 := fn_ok mix (c := c106) tab_ok (ccOf_ok (.nil)) (fn := Try.f106) (cd := Try.f106.body.getD .skip) (by kernel_rfl) (by kernel_rfl) (by kernel_rfl) (by decide) (by kernel_rfl) (by kernel_rfl) (RGok_nil _) rfl (by kernel_rfl) (fuel1 (G := fun k (x : Int × List Int) => spec_l7Put.g k x.1 x.2) run106)
def s91 : FSig := ⟨⟨[.row 49 (.pair (.slice 3 (.int .i64)) (.pair (.slice 74 (.pair (.int .i64) (.int .i64))) (.slice 3 (.int .i64)))), .row 68 (.pair (.int .i64) (.pair (.int .i64) (.pair (.int .i64) (.int .i64)))), .row 3 (.int .i64)], [(0, (.agg (.acons (.rd 3 (.int .i64) []) (.acons (.own 0) (.acons (.own 1) (.acons (.own 2) .anil)))))), (1, (.sc (.int .i64))), (2, (.sc (.int .i64)))]⟩, [0, 1, 2], ⟨[.row 49 (.pair (.slice 3 (.int .i64)) (.pair (.slice 74 (.pair (.int .i64) (.int .i64))) (.slice 3 (.int .i64)))), .row 68 (.pair (.int .i64) (.pair (.int .i64) (.pair (.int .i64) (.int .i64)))), .row 3 (.int .i64)], [(0, (.agg (.acons (.rd 3 (.int .i64) []) (.acons (.own 0) (.acons (.own 1) (.acons (.own 2) .anil))))))]⟩, [0, 1, 2]⟩
noncomputable def S91 : CSum := s91.sum 3 (fun (x : List Int × Int × Int × List (List Int × List (Int × Int) × List Int) × List (Int × Int × Int × Int) × List Int) => spec_l16See x.1 x.2.1 x.2.2.1 x.2.2.2.1 x.2.2.2.2.1 x.2.2.2.2.2)
noncomputable def c91 : Cfg := ⟨tabM, ccOf [(72, S72), (73, S73), (106, S106)], 81, lpOf [(0, ⟨[.hole 49 (.pair (.slice 3 (.int .i64)) (.pair (.slice 74 (.pair (.int .i64) (.int .i64))) (.slice 3 (.int .i64)))), .row 68 (.pair (.int .i64) (.pair (.int .i64) (.pair (.int .i64) (.int .i64)))), .row 3 (.int .i64), .box 32 (.acons (.rd 3 (.int .i64) []) (.acons (.own 0) (.acons (.own 1) (.acons (.own 2) .anil)))), .box 32 (.acons .nil (.acons .nil (.acons .nil (.acons .nil .anil)))), .box 49 (.acons (.own 7) (.acons (.own 8) (.acons (.own 9) .anil))), .row 3 (.int .i64), .row 3 (.int .i64), .row 74 (.pair (.int .i64) (.int .i64)), .row 3 (.int .i64)], [(1, (.sc (.int .i64))), (2, (.sc (.int .i64))), (3, (.ptr 3 0)), (6, (.ptr 4 0)), (7, (.ptr 5 0)), (32, (.own 6)), (33, (.sc (.int .i64))), (34, (.sc (.int .i64)))]⟩), (2, ⟨[.hole 49 (.pair (.slice 3 (.int .i64)) (.pair (.slice 74 (.pair (.int .i64) (.int .i64))) (.slice 3 (.int .i64)))), .row 68 (.pair (.int .i64) (.pair (.int .i64) (.pair (.int .i64) (.int .i64)))), .row 3 (.int .i64), .box 32 (.acons (.rd 3 (.int .i64) []) (.acons (.own 0) (.acons (.own 1) (.acons (.own 2) .anil)))), .box 32 (.acons .nil (.acons .nil (.acons .nil (.acons .nil .anil)))), .box 49 (.acons (.own 8) (.acons (.own 9) (.acons (.own 10) .anil))), .box 74 (.acons (.sc (.int .i64)) (.acons (.sc (.int .i64)) .anil)), .row 3 (.int .i64), .row 3 (.int .i64), .row 74 (.pair (.int .i64) (.int .i64)), .row 3 (.int .i64)], [(1, (.sc (.int .i64))), (2, (.sc (.int .i64))), (3, (.ptr 3 0)), (6, (.ptr 4 0)), (7, (.ptr 5 0)), (10, (.ptr 6 0)), (11, (.sc (.int .i64))), (32, (.own 7)), (33, (.sc (.int .i64))), (34, (.sc (.int .i64)))]⟩)], [(0, 0), (1, 1), (2, 2)], [0, 1, 2], []⟩
theorem run91 (k : Nat) (x : List Int × Int × Int × List (List Int × List (Int × Int) × List Int) × List (Int × Int × Int × Int) × List Int) : runF c91 k s91 Try.f91.results.toList (Try.f91.body.getD .skip) x = spec_l16See.g k x.1 x.2.1 x.2.2.1 x.2.2.2.1 x.2.2.2.2.1 x.2.2.2.2.2 := by kernel_rfl
theorem snd91 : CSnd Try.prog 91 S91 := fn_ok mix (c := c91) tabM_ok (ccOf_ok (.cons snd72 (.cons snd73 (.cons snd106 .nil)))) (fn := Try.f91) (cd := Try.f91.body.getD .skip) (by kernel_rfl) (by kernel_rfl) (by kernel_rfl) (by decide) (by kernel_rfl) (by kernel_rfl) (RGok_nil _) rfl (by kernel_rfl) (fuel1 (G := fun k (x : List Int × Int × Int × List (List Int × List (Int × Int) × List Int) × List (Int × Int × Int × Int) × List Int) => spec_l16See.g k x.1 x.2.1 x.2.2.1 x.2.2.2.1 x.2.2.2.2.1 x.2.2.2.2.2) run91)
def s92 : FSig := ⟨⟨[.row 49 (.pair (.slice 3 (.int .i64)) (.pair (.slice 74 (.pair (.int .i64) (.int .i64))) (.slice 3 (.int .i64)))), .row 68 (.pair (.int .i64) (.pair (.int .i64) (.pair (.int .i64) (.int .i64)))), .row 3 (.int .i64)], [(0, (.agg (.acons (.rd 3 (.int .i64) []) (.acons (.own 0) (.acons (.own 1) (.acons (.own 2) .anil)))))), (1, (.agg (.acons (.sc (.int .i64)) (.acons (.sc (.int .i64)) (.acons (.sc (.int .i64)) (.acons (.sc (.int .i64)) .anil))))))]⟩, [0, 1, 2], ⟨[.row 49 (.pair (.slice 3 (.int .i64)) (.pair (.slice 74 (.pair (.int .i64) (.int .i64))) (.slice 3 (.int .i64)))), .row 68 (.pair (.int .i64) (.pair (.int .i64) (.pair (.int .i64) (.int .i64)))), .row 3 (.int .i64)], [(0, (.agg (.acons (.rd 3 (.int .i64) []) (.acons (.own 0) (.acons (.own 1) (.acons (.own 2) .anil))))))]⟩, [0, 2]⟩
noncomputable def S92 : CSum := s92.sum 2 (fun (x : List Int × Int × Int × Int × Int × List (List Int × List (Int × Int) × List Int) × List (Int × Int × Int × Int) × List Int) => spec_l16Come x.1 x.2.1 x.2.2.1 x.2.2.2.1 x.2.2.2.2.1 x.2.2.2.2.2.1 x.2.2.2.2.2.2.1 x.2.2.2.2.2.2.2)
noncomputable def c92 : Cfg := ⟨tab, ccOf [(38, S38), (91, S91)], 82, lpOf [(0, ⟨[.row 49 (.pair (.slice 3 (.int .i64)) (.pair (.slice 74 (.pair (.int .i64) (.int .i64))) (.slice 3 (.int .i64)))), .row 68 (.pair (.int .i64) (.pair (.int .i64) (.pair (.int .i64) (.int .i64)))), .row 3 (.int .i64), .box 32 (.acons (.rd 3 (.int .i64) []) (.acons (.own 0) (.acons (.own 1) (.acons (.own 2) .anil)))), .box 68 (.acons (.sc (.int .i64)) (.acons (.sc (.int .i64)) (.acons (.sc (.int .i64)) (.acons (.sc (.int .i64)) .anil)))), .box 32 (.acons .nil (.acons .nil (.acons .nil (.acons .nil .anil)))), .row 74 (.pair (.int .i64) (.int .i64))], [(2, (.ptr 3 0)), (3, (.ptr 4 0)), (4, (.ptr 5 0)), (5, (.own 6)), (51, (.rd 74 (.pair (.int .i64) (.int .i64)) [(0, 1)])), (52, (.sc (.int .i64))), (53, (.sc (.int .i64)))]⟩)], [(0, 0), (1, 1), (2, 2)], [0, 2], []⟩
theorem run92 (k : Nat) (x : List Int × Int × Int × Int × Int × List (List Int × List (Int × Int) × List Int) × List (Int × Int × Int × Int) × List Int) : runF c92 k s92 Try.f92.results.toList (Try.f92.body.getD .skip) x = spec_l16Come.g k x.1 x.2.1 x.2.2.1 x.2.2.2.1 x.2.2.2.2.1 x.2.2.2.2.2.1 x.2.2.2.2.2.2.1 x.2.2.2.2.2.2.2 := by kernel_rfl
theorem snd92 : CSnd Try.prog 92 S92 := fn_ok mix (c := c92) tab_ok (ccOf_ok (.cons snd38 (.cons snd91 .nil))) (fn := Try.f92) (cd := Try.f92.body.getD .skip) (by kernel_rfl) (by kernel_rfl) (by kernel_rfl) (by decide) (by kernel_rfl) (by kernel_rfl) (RGok_nil _) rfl (by kernel_rfl) (fuel1 (G := fun k (x : List Int × Int × Int × Int × Int × List (List Int × List (Int × Int) × List Int) × List (Int × Int × Int × Int) × List Int) => spec_l16Come.g k x.1 x.2.1 x.2.2.1 x.2.2.2.1 x.2.2.2.2.1 x.2.2.2.2.2.1 x.2.2.2.2.2.2.1 x.2.2.2.2.2.2.2) run92)
def s59 : FSig := ⟨⟨[.row 49 (.pair (.slice 3 (.int .i64)) (.pair (.slice 74 (.pair (.int .i64) (.int .i64))) (.slice 3 (.int .i64)))), .row 68 (.pair (.int .i64) (.pair (.int .i64) (.pair (.int .i64) (.int .i64)))), .row 3 (.int .i64)], [(0, (.agg (.acons (.rd 3 (.int .i64) []) (.acons (.own 0) (.acons (.own 1) (.acons (.own 2) .anil)))))), (1, (.agg (.acons (.sc (.int .i64)) (.acons (.sc (.int .i64)) (.acons (.sc (.int .i64)) (.acons (.sc (.int .i64)) .anil))))))]⟩, [0], ⟨[.row 49 (.pair (.slice 3 (.int .i64)) (.pair (.slice 74 (.pair (.int .i64) (.int .i64))) (.slice 3 (.int .i64)))), .row 68 (.pair (.int .i64) (.pair (.int .i64) (.pair (.int .i64) (.int .i64)))), .row 3 (.int .i64)], [(0, (.tup (.acons (.agg (.acons (.rd 3 (.int .i64) []) (.acons (.own 0) (.acons (.own 1) (.acons (.own 2) .anil))))) (.acons (.sc .bool) .anil))))]⟩, [0]⟩
noncomputable def S59 : CSum := s59.sum 2 (fun (x : List Int × Int × Int × Int × Int × List (List Int × List (Int × Int) × List Int) × List (Int × Int × Int × Int) × List Int) => spec_l16Step x.1 x.2.1 x.2.2.1 x.2.2.2.1 x.2.2.2.2.1 x.2.2.2.2.2.1 x.2.2.2.2.2.2.1 x.2.2.2.2.2.2.2)
noncomputable def c59 : Cfg := ⟨tab, ccOf [(37, S37), (38, S38), (39, S39), (91, S91), (92, S92)], 162, lpOf [], [(0, 0)], [0], []⟩
theorem run59 (k : Nat) (x : List Int × Int × Int × Int × Int × List (List Int × List (Int × Int) × List Int) × List (Int × Int × Int × Int) × List Int) : runF c59 k s59 Try.f59.results.toList (Try.f59.body.getD .skip) x = spec_l16Step x.1 x.2.1 x.2.2.1 x.2.2.2.1 x.2.2.2.2.1 x.2.2.2.2.2.1 x.2.2.2.2.2.2.1 x.2.2.2.2.2.2.2 := by kernel_rfl
theorem snd59 : CSnd Try.prog 59 S59 := fn_ok mix (c := c59) tab_ok (ccOf_ok (.cons snd37 (.cons snd38 (.cons snd39 (.cons snd91 (.cons snd92 .nil)))))) (fn := Try.f59) (cd := Try.f59.body.getD .skip) (by kernel_rfl) (by kernel_rfl) (by kernel_rfl) (by decide) (by kernel_rfl) (by kernel_rfl) (RGok_nil _) rfl (by kernel_rfl) (fuel0 run59)
def s60 : FSig := ⟨⟨[], [(0, (.agg (.acons (.rd 3 (.int .i64) []) (.acons (.rd 49 (.pair (.slice 3 (.int .i64)) (.pair (.slice 74 (.pair (.int .i64) (.int .i64))) (.slice 3 (.int .i64)))) []) (.acons (.rd 68 (.pair (.int .i64) (.pair (.int .i64) (.pair (.int .i64) (.int .i64)))) []) (.acons (.rd 3 (.int .i64) []) .anil))))))]⟩, [], ⟨[.row 3 (.int .i64), .row 49 (.pair (.slice 3 (.int .i64)) (.pair (.slice 74 (.pair (.int .i64) (.int .i64))) (.slice 3 (.int .i64)))), .row 68 (.pair (.int .i64) (.pair (.int .i64) (.pair (.int .i64) (.int .i64)))), .row 3 (.int .i64)], [(0, (.agg (.acons (.own 0) (.acons (.own 1) (.acons (.own 2) (.acons (.own 3) .anil))))))]⟩, []⟩
noncomputable def S60 : CSum := s60.sum 1 (fun (x : List Int × List (List Int × List (Int × Int) × List Int) × List (Int × Int × Int × Int) × List Int) => spec_l16Own x.1 x.2.1 x.2.2.1 x.2.2.2)
noncomputable def c60 : Cfg := ⟨tab, ccOf [], 46, lpOf [(0, ⟨[.box 32 (.acons .nil (.acons .nil (.acons .nil (.acons .nil .anil)))), .box 32 (.acons (.own 2) (.acons (.own 3) (.acons (.own 4) (.acons (.own 5) .anil)))), .row 3 (.int .i64), .row 49 (.pair (.slice 3 (.int .i64)) (.pair (.slice 74 (.pair (.int .i64) (.int .i64))) (.slice 3 (.int .i64)))), .row 68 (.pair (.int .i64) (.pair (.int .i64) (.pair (.int .i64) (.int .i64)))), .row 3 (.int .i64)], [(2, (.ptr 0 0)), (3, (.ptr 1 0)), (20, (.rd 49 (.pair (.slice 3 (.int .i64)) (.pair (.slice 74 (.pair (.int .i64) (.int .i64))) (.slice 3 (.int .i64)))) [])), (21, (.sc (.int .i64))), (22, (.sc (.int .i64)))]⟩)], [], [], []⟩
theorem run60 (k : Nat) (x : List Int × List (List Int × List (Int × Int) × List Int) × List (Int × Int × Int × Int) × List Int) : runF c60 k s60 Try.f60.results.toList (Try.f60.body.getD .skip) x = spec_l16Own.g k x.1 x.2.1 x.2.2.1 x.2.2.2 := by kernel_rfl
theorem snd60 : CSnd Try.prog 60 S60 := fn_ok mix (c := c60) tab_ok (ccOf_ok (.nil)) (fn := Try.f60) (cd := Try.f60.body.getD .skip) (by kernel_rfl) (by kernel_rfl) (by kernel_rfl) (by decide) (by kernel_rfl) (by kernel_rfl) (RGok_nil _) rfl (by kernel_rfl) (fuel1 (G := fun k (x : List Int × List (List Int × List (Int × Int) × List Int) × List (Int × Int × Int × Int) × List Int) => spec_l16Own.g k x.1 x.2.1 x.2.2.1 x.2.2.2) run60)
def s16 : FSig := ⟨⟨[], [(0, (.rd 3 (.int .i64) [])), (1, (.rd 88 (.pair (.int .i64) (.pair (.int .i64) (.pair (.int .i64) (.int .i64)))) []))]⟩, [], ⟨[.row 3 (.int .i64), .row 49 (.pair (.slice 3 (.int .i64)) (.pair (.slice 74 (.pair (.int .i64) (.int .i64))) (.slice 3 (.int .i64)))), .row 68 (.pair (.int .i64) (.pair (.int .i64) (.pair (.int .i64) (.int .i64)))), .row 3 (.int .i64), .row 4 .bool], [(0, (.tup (.acons (.agg (.acons (.own 0) (.acons (.own 1) (.acons (.own 2) (.acons (.own 3) .anil))))) (.acons (.own 4) (.acons (.sc .bool) .anil)))))]⟩, []⟩
noncomputable def S16 : CSum := s16.sum 2 (fun (x : List Int × List (Int × Int × Int × Int)) => spec_PlayCustody x.1 x.2)
noncomputable def c16 : Cfg := ⟨tab, ccOf [(58, S58), (59, S59), (60, S60)], 50, lpOf [(0, ⟨[.box 32 (.acons .nil (.acons .nil (.acons .nil (.acons .nil .anil)))), .box 32 (.acons (.rd 3 (.int .i64) []) (.acons (.own 3) (.acons (.own 4) (.acons (.own 5) .anil)))), .row 4 .bool, .row 49 (.pair (.slice 3 (.int .i64)) (.pair (.slice 74 (.pair (.int .i64) (.int .i64))) (.slice 3 (.int .i64)))), .row 68 (.pair (.int .i64) (.pair (.int .i64) (.pair (.int .i64) (.int .i64)))), .row 3 (.int .i64)], [(4, (.ptr 0 0)), (7, (.ptr 1 0)), (9, (.own 2)), (27, (.rd 88 (.pair (.int .i64) (.pair (.int .i64) (.pair (.int .i64) (.int .i64)))) [])), (28, (.sc (.int .i64))), (29, (.sc (.int .i64)))]⟩)], [], [], []⟩
theorem run16 (k : Nat) (x : List Int × List (Int × Int × Int × Int)) : runF c16 k s16 Try.f16.results.toList (Try.f16.body.getD .skip) x = spec_PlayCustody.g k x.1 x.2 := by kernel_rfl
theorem snd16 : CSnd Try.prog 16 S16 := fn_ok mix (c := c16) tab_ok (ccOf_ok (.cons snd58 (.cons snd59 (.cons snd60 .nil)))) (fn := Try.f16) (cd := Try.f16.body.getD .skip) (by kernel_rfl) (by kernel_rfl) (by kernel_rfl) (by decide) (by kernel_rfl) (by kernel_rfl) (RGok_nil _) rfl (by kernel_rfl) (fuel1 (G := fun k (x : List Int × List (Int × Int × Int × Int)) => spec_PlayCustody.g k x.1 x.2) run16)
def s20 : FSig := ⟨⟨[], [(0, (.rd 94 (.pair (.int .i64) (.pair (.int .i64) (.pair (.int .i64) (.int .i64)))) [])), (1, (.sc (.int .i64)))]⟩, [], ⟨[], [(0, (.sc (.int .i64)))]⟩, []⟩
noncomputable def S20 : CSum := s20.sum 2 (fun (x : List (Int × Int × Int × Int) × Int) => laws_szCusStepS x.1 x.2)
noncomputable def c20 : Cfg := ⟨tab, ccOf [], 12, lpOf [], [], [], []⟩
theorem run20 (k : Nat) (x : List (Int × Int × Int × Int) × Int) : runF c20 k s20 Try.f20.results.toList (Try.f20.body.getD .skip) x = laws_szCusStepS x.1 x.2 := by kernel_rfl
theorem snd20 : CSnd Try.prog 20 S20 := fn_ok mix (c := c20) tab_ok (ccOf_ok (.nil)) (fn := Try.f20) (cd := Try.f20.body.getD .skip) (by kernel_rfl) (by kernel_rfl) (by kernel_rfl) (by decide) (by kernel_rfl) (by kernel_rfl) (RGok_nil _) rfl (by kernel_rfl) (fuel0 run20)
def s21 : FSig := ⟨⟨[], [(0, (.rd 3 (.int .i64) []))]⟩, [], ⟨[.row 3 (.int .i64)], [(0, (.own 0))]⟩, []⟩
noncomputable def S21 : CSum := s21.sum 1 (fun (x : List Int) => laws_toIntS x)
noncomputable def c21 : Cfg := ⟨tab, ccOf [], 22, lpOf [(0, ⟨[.row 3 (.int .i64)], [(0, (.rd 3 (.int .i64) [])), (3, (.own 0)), (4, (.sc (.int .i64)))]⟩)], [], [], []⟩
theorem run21 (k : Nat) (x : List Int) : runF c21 k s21 Try.f21.results.toList (Try.f21.body.getD .skip) x = laws_toIntS.g k x := by kernel_rfl
theorem snd21 : CSnd Try.prog 21 S21 := fn_ok mix (c := c21) tab_ok (ccOf_ok (.nil)) (fn := Try.f21) (cd := Try.f21.body.getD .skip) (by kernel_rfl) (by kernel_rfl) (by kernel_rfl) (by decide) (by kernel_rfl) (by kernel_rfl) (RGok_nil _) rfl (by kernel_rfl) (fuel1 (G := fun k (x : List Int) => laws_toIntS.g k x) run21)
def s63 : FSig := ⟨⟨[], [(0, (.agg (.acons (.sc (.int .i64)) (.acons (.sc (.int .i64)) (.acons (.sc (.int .i64)) (.acons (.sc (.int .i64)) .anil))))))]⟩, [], ⟨[], [(0, (.agg (.acons (.sc (.int .i64)) (.acons (.sc (.int .i64)) (.acons (.sc (.int .i64)) (.acons (.sc (.int .i64)) .anil))))))]⟩, []⟩
noncomputable def S63 : CSum := s63.sum 1 (fun (x : Int × Int × Int × Int) => laws_toCusStep x.1 x.2.1 x.2.2.1 x.2.2.2)
noncomputable def c63 : Cfg := ⟨tab, ccOf [], 17, lpOf [], [], [], []⟩
theorem run63 (k : Nat) (x : Int × Int × Int × Int) : runF c63 k s63 Try.f63.results.toList (Try.f63.body.getD .skip) x = laws_toCusStep x.1 x.2.1 x.2.2.1 x.2.2.2 := by kernel_rfl
theorem snd63 : CSnd Try.prog 63 S63 := fn_ok mix (c := c63) tab_ok (ccOf_ok (.nil)) (fn := Try.f63) (cd := Try.f63.body.getD .skip) (by kernel_rfl) (by kernel_rfl) (by kernel_rfl) (by decide) (by kernel_rfl) (by kernel_rfl) (RGok_nil _) rfl (by kernel_rfl) (fuel0 run63)
def s22 : FSig := ⟨⟨[], [(0, (.rd 94 (.pair (.int .i64) (.pair (.int .i64) (.pair (.int .i64) (.int .i64)))) []))]⟩, [], ⟨[.row 88 (.pair (.int .i64) (.pair (.int .i64) (.pair (.int .i64) (.int .i64))))], [(0, (.own 0))]⟩, []⟩
noncomputable def S22 : CSum := s22.sum 1 (fun (x : List (Int × Int × Int × Int)) => laws_toCusStepS x)
noncomputable def c22 : Cfg := ⟨tab, ccOf [(63, S63)], 23, lpOf [(0, ⟨[.row 88 (.pair (.int .i64) (.pair (.int .i64) (.pair (.int .i64) (.int .i64))))], [(0, (.rd 94 (.pair (.int .i64) (.pair (.int .i64) (.pair (.int .i64) (.int .i64)))) [])), (3, (.own 0)), (4, (.sc (.int .i64)))]⟩)], [], [], []⟩
theorem run22 (k : Nat) (x : List (Int × Int × Int × Int)) : runF c22 k s22 Try.f22.results.toList (Try.f22.body.getD .skip) x = laws_toCusStepS.g k x := by kernel_rfl
theorem snd22 : CSnd Try.prog 22 S22 := fn_ok mix (c := c22) tab_ok (ccOf_ok (.cons snd63 .nil)) (fn := Try.f22) (cd := Try.f22.body.getD .skip) (by kernel_rfl) (by kernel_rfl) (by kernel_rfl) (by decide) (by kernel_rfl) (by kernel_rfl) (RGok_nil _) rfl (by kernel_rfl) (fuel1 (G := fun k (x : List (Int × Int × Int × Int)) => laws_toCusStepS.g k x) run22)
def s23 : FSig := ⟨⟨[], [(0, (.rd 4 .bool [])), (1, (.rd 4 .bool []))]⟩, [], ⟨[], [(0, (.sc .bool))]⟩, []⟩
noncomputable def S23 : CSum := s23.sum 2 (fun (x : List Bool × List Bool) => laws_eqBoolS x.1 x.2)
noncomputable def c23 : Cfg := ⟨tab, ccOf [], 26, lpOf [(0, ⟨[], [(0, (.rd 4 .bool [])), (1, (.rd 4 .bool [])), (5, (.sc (.int .i64)))]⟩)], [], [], []⟩
theorem run23 (k : Nat) (x : List Bool × List Bool) : runF c23 k s23 Try.f23.results.toList (Try.f23.body.getD .skip) x = laws_eqBoolS.g k x.1 x.2 := by kernel_rfl
theorem snd23 : CSnd Try.prog 23 S23 := fn_ok mix (c := c23) tab_ok (ccOf_ok (.nil)) (fn := Try.f23) (cd := Try.f23.body.getD .skip) (by kernel_rfl) (by kernel_rfl) (by kernel_rfl) (by decide) (by kernel_rfl) (by kernel_rfl) (RGok_nil _) rfl (by kernel_rfl) (fuel1 (G := fun k (x : List Bool × List Bool) => laws_eqBoolS.g k x.1 x.2) run23)
def s64 : FSig := ⟨⟨[], [(0, (.agg (.acons (.sc (.int .i64)) (.acons (.sc (.int .i64)) (.acons (.sc (.int .i64)) (.acons (.sc (.int .i64)) .anil)))))), (1, (.agg (.acons (.sc (.int .i64)) (.acons (.sc (.int .i64)) (.acons (.sc (.int .i64)) (.acons (.sc (.int .i64)) .anil))))))]⟩, [], ⟨[], [(0, (.sc .bool))]⟩, []⟩
noncomputable def S64 : CSum := s64.sum 2 (fun (x : Int × Int × Int × Int × Int × Int × Int × Int) => laws_eqCusStep x.1 x.2.1 x.2.2.1 x.2.2.2.1 x.2.2.2.2.1 x.2.2.2.2.2.1 x.2.2.2.2.2.2.1 x.2.2.2.2.2.2.2)
noncomputable def c64 : Cfg := ⟨tab, ccOf [], 25, lpOf [], [], [], []⟩
theorem run64 (k : Nat) (x : Int × Int × Int × Int × Int × Int × Int × Int) : runF c64 k s64 Try.f64.results.toList (Try.f64.body.getD .skip) x = laws_eqCusStep x.1 x.2.1 x.2.2.1 x.2.2.2.1 x.2.2.2.2.1 x.2.2.2.2.2.1 x.2.2.2.2.2.2.1 x.2.2.2.2.2.2.2 := by kernel_rfl
theorem snd64 : CSnd Try.prog 64 S64 := fn_ok mix (c := c64) tab_ok (ccOf_ok (.nil)) (fn := Try.f64) (cd := Try.f64.body.getD .skip) (by kernel_rfl) (by kernel_rfl) (by kernel_rfl) (by decide) (by kernel_rfl) (by kernel_rfl) (RGok_nil _) rfl (by kernel_rfl) (fuel0 run64)
def s25 : FSig := ⟨⟨[], [(0, (.rd 88 (.pair (.int .i64) (.pair (.int .i64) (.pair (.int .i64) (.int .i64)))) [])), (1, (.rd 88 (.pair (.int .i64) (.pair (.int .i64) (.pair (.int .i64) (.int .i64)))) []))]⟩, [], ⟨[], [(0, (.sc .bool))]⟩, []⟩
noncomputable def S25 : CSum := s25.sum 2 (fun (x : List (Int × Int × Int × Int) × List (Int × Int × Int × Int)) => laws_eqCusStepS x.1 x.2)
noncomputable def c25 : Cfg := ⟨tab, ccOf [(64, S64)], 27, lpOf [(0, ⟨[], [(0, (.rd 88 (.pair (.int .i64) (.pair (.int .i64) (.pair (.int .i64) (.int .i64)))) [])), (1, (.rd 88 (.pair (.int .i64) (.pair (.int .i64) (.pair (.int .i64) (.int .i64)))) [])), (5, (.sc (.int .i64)))]⟩)], [], [], []⟩
theorem run25 (k : Nat) (x : List (Int × Int × Int × Int) × List (Int × Int × Int × Int)) : runF c25 k s25 Try.f25.results.toList (Try.f25.body.getD .skip) x = laws_eqCusStepS.g k x.1 x.2 := by kernel_rfl
theorem snd25 : CSnd Try.prog 25 S25 := fn_ok mix (c := c25) tab_ok (ccOf_ok (.cons snd64 .nil)) (fn := Try.f25) (cd := Try.f25.body.getD .skip) (by kernel_rfl) (by kernel_rfl) (by kernel_rfl) (by decide) (by kernel_rfl) (by kernel_rfl) (RGok_nil _) rfl (by kernel_rfl) (fuel1 (G := fun k (x : List (Int × Int × Int × Int) × List (Int × Int × Int × Int)) => laws_eqCusStepS.g k x.1 x.2) run25)
def s26 : FSig := ⟨⟨[.row 3 (.int .i64)], [(0, (.own 0)), (1, (.sc (.int .i64)))]⟩, [0], ⟨[.row 3 (.int .i64)], [(0, (.sc (.int .i64)))]⟩, [0]⟩
noncomputable def S26 : CSum := s26.sum 2 (fun (x : Int × List Int) => laws_markIntS x.1 x.2)
noncomputable def c26 : Cfg := ⟨tab, ccOf [], 19, lpOf [(0, ⟨[.row 3 (.int .i64)], [(0, (.own 0)), (1, (.sc (.int .i64))), (5, (.sc (.int .i64)))]⟩)], [(0, 0)], [0], []⟩
theorem run26 (k : Nat) (x : Int × List Int) : runF c26 k s26 Try.f26.results.toList (Try.f26.body.getD .skip) x = laws_markIntS.g k x.1 x.2 := by kernel_rfl
theorem snd26 : CSnd Try.prog 26 S26 := fn_ok mix (c := c26) tab_ok (ccOf_ok (.nil)) (fn := Try.f26) (cd := Try.f26.body.getD .skip) (by kernel_rfl) (by kernel_rfl) (by kernel_rfl) (by decide) (by kernel_rfl) (by kernel_rfl) (RGok_nil _) rfl (by kernel_rfl) (fuel1 (G := fun k (x : Int × List Int) => laws_markIntS.g k x.1 x.2) run26)
def s27 : FSig := ⟨⟨[.row 88 (.pair (.int .i64) (.pair (.int .i64) (.pair (.int .i64) (.int .i64))))], [(0, (.own 0)), (1, (.sc (.int .i64)))]⟩, [0], ⟨[.row 88 (.pair (.int .i64) (.pair (.int .i64) (.pair (.int .i64) (.int .i64))))], [(0, (.sc (.int .i64)))]⟩, [0]⟩
noncomputable def S27 : CSum := s27.sum 2 (fun (x : Int × List (Int × Int × Int × Int)) => laws_markCusStepS x.1 x.2)
noncomputable def c27 : Cfg := ⟨tab, ccOf [], 41, lpOf [(0, ⟨[.row 88 (.pair (.int .i64) (.pair (.int .i64) (.pair (.int .i64) (.int .i64))))], [(0, (.own 0)), (1, (.sc (.int .i64))), (5, (.sc (.int .i64)))]⟩)], [(0, 0)], [0], []⟩
theorem run27 (k : Nat) (x : Int × List (Int × Int × Int × Int)) : runF c27 k s27 Try.f27.results.toList (Try.f27.body.getD .skip) x = laws_markCusStepS.g k x.1 x.2 := by kernel_rfl
theorem snd27 : CSnd Try.prog 27 S27 := fn_ok mix (c := c27) tab_ok (ccOf_ok (.nil)) (fn := Try.f27) (cd := Try.f27.body.getD .skip) (by kernel_rfl) (by kernel_rfl) (by kernel_rfl) (by decide) (by kernel_rfl) (by kernel_rfl) (RGok_nil _) rfl (by kernel_rfl) (fuel1 (G := fun k (x : Int × List (Int × Int × Int × Int)) => laws_markCusStepS.g k x.1 x.2) run27)
def s93 : FSig := ⟨⟨[.row 74 (.pair (.int .i64) (.int .i64))], [(0, (.own 0)), (1, (.sc (.int .i64)))]⟩, [0], ⟨[.row 74 (.pair (.int .i64) (.int .i64))], [(0, (.sc (.int .i64)))]⟩, [0]⟩
noncomputable def S93 : CSum := s93.sum 2 (fun (x : Int × List (Int × Int)) => laws_markHoldS x.1 x.2)
noncomputable def c93 : Cfg := ⟨tab, ccOf [], 27, lpOf [(0, ⟨[.row 74 (.pair (.int .i64) (.int .i64))], [(0, (.own 0)), (1, (.sc (.int .i64))), (5, (.sc (.int .i64)))]⟩)], [(0, 0)], [0], []⟩
theorem run93 (k : Nat) (x : Int × List (Int × Int)) : runF c93 k s93 Try.f93.results.toList (Try.f93.body.getD .skip) x = laws_markHoldS.g k x.1 x.2 := by kernel_rfl
theorem snd93 : CSnd Try.prog 93 S93 := fn_ok mix (c := c93) tab_ok (ccOf_ok (.nil)) (fn := Try.f93) (cd := Try.f93.body.getD .skip) (by kernel_rfl) (by kernel_rfl) (by kernel_rfl) (by decide) (by kernel_rfl) (by kernel_rfl) (RGok_nil _) rfl (by kernel_rfl) (fuel1 (G := fun k (x : Int × List (Int × Int)) => laws_markHoldS.g k x.1 x.2) run93)
def s65 : FSig := ⟨⟨[.row 49 (.pair (.slice 3 (.int .i64)) (.pair (.slice 74 (.pair (.int .i64) (.int .i64))) (.slice 3 (.int .i64))))], [(0, (.own 0)), (1, (.sc (.int .i64)))]⟩, [0], ⟨[.row 49 (.pair (.slice 3 (.int .i64)) (.pair (.slice 74 (.pair (.int .i64) (.int .i64))) (.slice 3 (.int .i64))))], [(0, (.sc (.int .i64)))]⟩, [0]⟩
noncomputable def S65 : CSum := s65.sum 2 (fun (x : Int × List (List Int × List (Int × Int) × List Int)) => laws_markKeeperS x.1 x.2)
noncomputable def c65 : Cfg := ⟨tab, ccOf [(26, subS 0 S26), (93, subS 0 S93)], 34, lpOf [(0, ⟨[.row 49 (.pair (.slice 3 (.int .i64)) (.pair (.slice 74 (.pair (.int .i64) (.int .i64))) (.slice 3 (.int .i64))))], [(0, (.own 0)), (1, (.sc (.int .i64))), (5, (.sc (.int .i64)))]⟩)], [(0, 0)], [0], []⟩
theorem run65 (k : Nat) (x : Int × List (List Int × List (Int × Int) × List Int)) : runF c65 k s65 Try.f65.results.toList (Try.f65.body.getD .skip) x = laws_markKeeperS.g k x.1 x.2 := by kernel_rfl
theorem snd65 : CSnd Try.prog 65 S65 := fn_ok mix (c := c65) tab_ok (ccOf_ok (.cons (subS_ok 0 snd26) (.cons (subS_ok 0 snd93) .nil))) (fn := Try.f65) (cd := Try.f65.body.getD .skip) (by kernel_rfl) (by kernel_rfl) (by kernel_rfl) (by decide) (by kernel_rfl) (by kernel_rfl) (RGok_nil _) rfl (by kernel_rfl) (fuel1 (G := fun k (x : Int × List (List Int × List (Int × Int) × List Int)) => laws_markKeeperS.g k x.1 x.2) run65)
def s66 : FSig := ⟨⟨[.row 68 (.pair (.int .i64) (.pair (.int .i64) (.pair (.int .i64) (.int .i64))))], [(0, (.own 0)), (1, (.sc (.int .i64)))]⟩, [0], ⟨[.row 68 (.pair (.int .i64) (.pair (.int .i64) (.pair (.int .i64) (.int .i64))))], [(0, (.sc (.int .i64)))]⟩, [0]⟩
noncomputable def S66 : CSum := s66.sum 2 (fun (x : Int × List (Int × Int × Int × Int)) => laws_markSlipS x.1 x.2)
noncomputable def c66 : Cfg := ⟨tab, ccOf [], 41, lpOf [(0, ⟨[.row 68 (.pair (.int .i64) (.pair (.int .i64) (.pair (.int .i64) (.int .i64))))], [(0, (.own 0)), (1, (.sc (.int .i64))), (5, (.sc (.int .i64)))]⟩)], [(0, 0)], [0], []⟩
theorem run66 (k : Nat) (x : Int × List (Int × Int × Int × Int)) : runF c66 k s66 Try.f66.results.toList (Try.f66.body.getD .skip) x = laws_markSlipS.g k x.1 x.2 := by kernel_rfl
theorem snd66 : CSnd Try.prog 66 S66 := fn_ok mix (c := c66) tab_ok (ccOf_ok (.nil)) (fn := Try.f66) (cd := Try.f66.body.getD .skip) (by kernel_rfl) (by kernel_rfl) (by kernel_rfl) (by decide) (by kernel_rfl) (by kernel_rfl) (RGok_nil _) rfl (by kernel_rfl) (fuel1 (G := fun k (x : Int × List (Int × Int × Int × Int)) => laws_markSlipS.g k x.1 x.2) run66)
def s28 : FSig := ⟨⟨[.row 3 (.int .i64), .row 49 (.pair (.slice 3 (.int .i64)) (.pair (.slice 74 (.pair (.int .i64) (.int .i64))) (.slice 3 (.int .i64)))), .row 68 (.pair (.int .i64) (.pair (.int .i64) (.pair (.int .i64) (.int .i64)))), .row 3 (.int .i64)], [(0, (.agg (.acons (.own 0) (.acons (.own 1) (.acons (.own 2) (.acons (.own 3) .anil)))))), (1, (.sc (.int .i64)))]⟩, [0, 1, 2, 3], ⟨[.row 3 (.int .i64), .row 49 (.pair (.slice 3 (.int .i64)) (.pair (.slice 74 (.pair (.int .i64) (.int .i64))) (.slice 3 (.int .i64)))), .row 68 (.pair (.int .i64) (.pair (.int .i64) (.pair (.int .i64) (.int .i64)))), .row 3 (.int .i64)], [(0, (.sc (.int .i64)))]⟩, [0, 1, 2, 3]⟩
noncomputable def S28 : CSum := s28.sum 2 (fun (x : Int × List Int × List (List Int × List (Int × Int) × List Int) × List (Int × Int × Int × Int) × List Int) => laws_markCustody x.1 x.2.1 x.2.2.1 x.2.2.2.1 x.2.2.2.2)
noncomputable def c28 : Cfg := ⟨tab, ccOf [(26, subS 0 S26), (65, S65), (66, S66)], 22, lpOf [], [(0, 0), (1, 1), (2, 2), (3, 3)], [0, 1, 2, 3], []⟩
theorem run28 (k : Nat) (x : Int × List Int × List (List Int × List (Int × Int) × List Int) × List (Int × Int × Int × Int) × List Int) : runF c28 k s28 Try.f28.results.toList (Try.f28.body.getD .skip) x = laws_markCustody x.1 x.2.1 x.2.2.1 x.2.2.2.1 x.2.2.2.2 := by kernel_rfl
theorem snd28 : CSnd Try.prog 28 S28 := fn_ok mix (c := c28) tab_ok (ccOf_ok (.cons (subS_ok 0 snd26) (.cons snd65 (.cons snd66 .nil)))) (fn := Try.f28) (cd := Try.f28.body.getD .skip) (by kernel_rfl) (by kernel_rfl) (by kernel_rfl) (by decide) (by kernel_rfl) (by kernel_rfl) (RGok_nil _) rfl (by kernel_rfl) (fuel0 run28)
def s29 : FSig := ⟨⟨[.row 4 .bool], [(0, (.own 0)), (1, (.sc (.int .i64)))]⟩, [0], ⟨[.row 4 .bool], [(0, (.sc (.int .i64)))]⟩, [0]⟩
noncomputable def S29 : CSum := s29.sum 2 (fun (x : Int × List Bool) => laws_markBoolS x.1 x.2)
noncomputable def c29 : Cfg := ⟨tab, ccOf [], 21, lpOf [(0, ⟨[.row 4 .bool], [(0, (.own 0)), (1, (.sc (.int .i64))), (5, (.sc (.int .i64)))]⟩)], [(0, 0)], [0], []⟩
theorem run29 (k : Nat) (x : Int × List Bool) : runF c29 k s29 Try.f29.results.toList (Try.f29.body.getD .skip) x = laws_markBoolS.g k x.1 x.2 := by kernel_rfl
theorem snd29 : CSnd Try.prog 29 S29 := fn_ok mix (c := c29) tab_ok (ccOf_ok (.nil)) (fn := Try.f29) (cd := Try.f29.body.getD .skip) (by kernel_rfl) (by kernel_rfl) (by kernel_rfl) (by decide) (by kernel_rfl) (by kernel_rfl) (RGok_nil _) rfl (by kernel_rfl) (fuel1 (G := fun k (x : Int × List Bool) => laws_markBoolS.g k x.1 x.2) run29)
def s67 : FSig := ⟨⟨[], [(0, (.rd 3 (.int .i64) [])), (1, (.sc (.int .i64)))]⟩, [], ⟨[], [(0, (.sc (.int .i64)))]⟩, []⟩
noncomputable def S67 : CSum := s67.sum 2 (fun (x : List Int × Int) => laws_heldIntS x.1 x.2)
noncomputable def c67 : Cfg := ⟨tab, ccOf [], 21, lpOf [(0, ⟨[], [(0, (.rd 3 (.int .i64) [])), (1, (.sc (.int .i64))), (5, (.sc (.int .i64)))]⟩)], [], [], []⟩
theorem run67 (k : Nat) (x : List Int × Int) : runF c67 k s67 Try.f67.results.toList (Try.f67.body.getD .skip) x = laws_heldIntS.g k x.1 x.2 := by kernel_rfl
theorem snd67 : CSnd Try.prog 67 S67 := fn_ok mix (c := c67) tab_ok (ccOf_ok (.nil)) (fn := Try.f67) (cd := Try.f67.body.getD .skip) (by kernel_rfl) (by kernel_rfl) (by kernel_rfl) (by decide) (by kernel_rfl) (by kernel_rfl) (RGok_nil _) rfl (by kernel_rfl) (fuel1 (G := fun k (x : List Int × Int) => laws_heldIntS.g k x.1 x.2) run67)
def s94 : FSig := ⟨⟨[], [(0, (.rd 74 (.pair (.int .i64) (.int .i64)) [])), (1, (.sc (.int .i64)))]⟩, [], ⟨[], [(0, (.sc (.int .i64)))]⟩, []⟩
noncomputable def S94 : CSum := s94.sum 2 (fun (x : List (Int × Int) × Int) => laws_heldHoldS x.1 x.2)
noncomputable def c94 : Cfg := ⟨tab, ccOf [], 31, lpOf [(0, ⟨[], [(0, (.rd 74 (.pair (.int .i64) (.int .i64)) [])), (1, (.sc (.int .i64))), (5, (.sc (.int .i64)))]⟩)], [], [], []⟩
theorem run94 (k : Nat) (x : List (Int × Int) × Int) : runF c94 k s94 Try.f94.results.toList (Try.f94.body.getD .skip) x = laws_heldHoldS.g k x.1 x.2 := by kernel_rfl
theorem snd94 : CSnd Try.prog 94 S94 := fn_ok mix (c := c94) tab_ok (ccOf_ok (.nil)) (fn := Try.f94) (cd := Try.f94.body.getD .skip) (by kernel_rfl) (by kernel_rfl) (by kernel_rfl) (by decide) (by kernel_rfl) (by kernel_rfl) (RGok_nil _) rfl (by kernel_rfl) (fuel1 (G := fun k (x : List (Int × Int) × Int) => laws_heldHoldS.g k x.1 x.2) run94)
def s68 : FSig := ⟨⟨[], [(0, (.rd 49 (.pair (.slice 3 (.int .i64)) (.pair (.slice 74 (.pair (.int .i64) (.int .i64))) (.slice 3 (.int .i64)))) [])), (1, (.sc (.int .i64)))]⟩, [], ⟨[], [(0, (.sc (.int .i64)))]⟩, []⟩
noncomputable def S68 : CSum := s68.sum 2 (fun (x : List (List Int × List (Int × Int) × List Int) × Int) => laws_heldKeeperS x.1 x.2)
noncomputable def c68 : Cfg := ⟨tab, ccOf [(67, S67), (94, S94)], 40, lpOf [(0, ⟨[], [(0, (.rd 49 (.pair (.slice 3 (.int .i64)) (.pair (.slice 74 (.pair (.int .i64) (.int .i64))) (.slice 3 (.int .i64)))) [])), (1, (.sc (.int .i64))), (5, (.sc (.int .i64)))]⟩)], [], [], []⟩
theorem run68 (k : Nat) (x : List (List Int × List (Int × Int) × List Int) × Int) : runF c68 k s68 Try.f68.results.toList (Try.f68.body.getD .skip) x = laws_heldKeeperS.g k x.1 x.2 := by kernel_rfl
theorem snd68 : CSnd Try.prog 68 S68 := fn_ok mix (c := c68) tab_ok (ccOf_ok (.cons snd67 (.cons snd94 .nil))) (fn := Try.f68) (cd := Try.f68.body.getD .skip) (by kernel_rfl) (by kernel_rfl) (by kernel_rfl) (by decide) (by kernel_rfl) (by kernel_rfl) (RGok_nil _) rfl (by kernel_rfl) (fuel1 (G := fun k (x : List (List Int × List (Int × Int) × List Int) × Int) => laws_heldKeeperS.g k x.1 x.2) run68)
def s69 : FSig := ⟨⟨[], [(0, (.rd 68 (.pair (.int .i64) (.pair (.int .i64) (.pair (.int .i64) (.int .i64)))) [])), (1, (.sc (.int .i64)))]⟩, [], ⟨[], [(0, (.sc (.int .i64)))]⟩, []⟩
noncomputable def S69 : CSum := s69.sum 2 (fun (x : List (Int × Int × Int × Int) × Int) => laws_heldSlipS x.1 x.2)
noncomputable def c69 : Cfg := ⟨tab, ccOf [], 49, lpOf [(0, ⟨[], [(0, (.rd 68 (.pair (.int .i64) (.pair (.int .i64) (.pair (.int .i64) (.int .i64)))) [])), (1, (.sc (.int .i64))), (5, (.sc (.int .i64)))]⟩)], [], [], []⟩
theorem run69 (k : Nat) (x : List (Int × Int × Int × Int) × Int) : runF c69 k s69 Try.f69.results.toList (Try.f69.body.getD .skip) x = laws_heldSlipS.g k x.1 x.2 := by kernel_rfl
theorem snd69 : CSnd Try.prog 69 S69 := fn_ok mix (c := c69) tab_ok (ccOf_ok (.nil)) (fn := Try.f69) (cd := Try.f69.body.getD .skip) (by kernel_rfl) (by kernel_rfl) (by kernel_rfl) (by decide) (by kernel_rfl) (by kernel_rfl) (RGok_nil _) rfl (by kernel_rfl) (fuel1 (G := fun k (x : List (Int × Int × Int × Int) × Int) => laws_heldSlipS.g k x.1 x.2) run69)
def s30 : FSig := ⟨⟨[], [(0, (.agg (.acons (.rd 3 (.int .i64) []) (.acons (.rd 49 (.pair (.slice 3 (.int .i64)) (.pair (.slice 74 (.pair (.int .i64) (.int .i64))) (.slice 3 (.int .i64)))) []) (.acons (.rd 68 (.pair (.int .i64) (.pair (.int .i64) (.pair (.int .i64) (.int .i64)))) []) (.acons (.rd 3 (.int .i64) []) .anil)))))), (1, (.sc (.int .i64)))]⟩, [], ⟨[], [(0, (.sc (.int .i64)))]⟩, []⟩
noncomputable def S30 : CSum := s30.sum 2 (fun (x : List Int × List (List Int × List (Int × Int) × List Int) × List (Int × Int × Int × Int) × List Int × Int) => laws_heldCustody x.1 x.2.1 x.2.2.1 x.2.2.2.1 x.2.2.2.2)
noncomputable def c30 : Cfg := ⟨tab, ccOf [(67, S67), (68, S68), (69, S69)], 30, lpOf [], [], [], []⟩
theorem run30 (k : Nat) (x : List Int × List (List Int × List (Int × Int) × List Int) × List (Int × Int × Int × Int) × List Int × Int) : runF c30 k s30 Try.f30.results.toList (Try.f30.body.getD .skip) x = laws_heldCustody x.1 x.2.1 x.2.2.1 x.2.2.2.1 x.2.2.2.2 := by kernel_rfl
theorem snd30 : CSnd Try.prog 30 S30 := fn_ok mix (c := c30) tab_ok (ccOf_ok (.cons snd67 (.cons snd68 (.cons snd69 .nil)))) (fn := Try.f30) (cd := Try.f30.body.getD .skip) (by kernel_rfl) (by kernel_rfl) (by kernel_rfl) (by decide) (by kernel_rfl) (by kernel_rfl) (RGok_nil _) rfl (by kernel_rfl) (fuel0 run30)
def s31 : FSig := ⟨⟨[], [(0, (.rd 4 .bool [])), (1, (.sc (.int .i64)))]⟩, [], ⟨[], [(0, (.sc (.int .i64)))]⟩, []⟩
noncomputable def S31 : CSum := s31.sum 2 (fun (x : List Bool × Int) => laws_heldBoolS x.1 x.2)
noncomputable def c31 : Cfg := ⟨tab, ccOf [], 23, lpOf [(0, ⟨[], [(0, (.rd 4 .bool [])), (1, (.sc (.int .i64))), (5, (.sc (.int .i64)))]⟩)], [], [], []⟩
theorem run31 (k : Nat) (x : List Bool × Int) : runF c31 k s31 Try.f31.results.toList (Try.f31.body.getD .skip) x = laws_heldBoolS.g k x.1 x.2 := by kernel_rfl
theorem snd31 : CSnd Try.prog 31 S31 := fn_ok mix (c := c31) tab_ok (ccOf_ok (.nil)) (fn := Try.f31) (cd := Try.f31.body.getD .skip) (by kernel_rfl) (by kernel_rfl) (by kernel_rfl) (by decide) (by kernel_rfl) (by kernel_rfl) (RGok_nil _) rfl (by kernel_rfl) (fuel1 (G := fun k (x : List Bool × Int) => laws_heldBoolS.g k x.1 x.2) run31)
def s6 : FSig := ⟨⟨[], [(0, (.rd 3 (.int .i64) [])), (1, (.rd 94 (.pair (.int .i64) (.pair (.int .i64) (.pair (.int .i64) (.int .i64)))) []))]⟩, [], ⟨[], [(0, (.sc .bool))]⟩, []⟩
noncomputable def S6 : CSum := s6.sum 2 (fun (x : List Int × List (Int × Int × Int × Int)) => laws_FnExactPlayCustody x.1 x.2)
noncomputable def c6 : Cfg := ⟨tab, ccOf [(11, S11), (15, S15), (16, S16), (20, S20), (21, S21), (22, S22), (23, S23), (24, S24), (25, S25), (26, subS 0 S26), (27, S27), (28, S28), (29, S29), (30, S30), (31, S31)], 154, lpOf [], [], [], []⟩
theorem run6 (k : Nat) (x : List Int × List (Int × Int × Int × Int)) : runF c6 k s6 Try.f6.results.toList (Try.f6.body.getD .skip) x = laws_FnExactPlayCustody x.1 x.2 := by kernel_rfl
theorem snd6 : CSnd Try.prog 6 S6 := fn_ok mix (c := c6) tab_ok (ccOf_ok (.cons snd11 (.cons snd15 (.cons snd16 (.cons snd20 (.cons snd21 (.cons snd22 (.cons snd23 (.cons snd24 (.cons snd25 (.cons (subS_ok 0 snd26) (.cons snd27 (.cons snd28 (.cons snd29 (.cons snd30 (.cons snd31 .nil)))))))))))))))) (fn := Try.f6) (cd := Try.f6.body.getD .skip) (by kernel_rfl) (by kernel_rfl) (by kernel_rfl) (by decide) (by kernel_rfl) (by kernel_rfl) (RGok_nil _) rfl (by kernel_rfl) (fuel0 run6)
def s46 : FSig := ⟨⟨[], [(0, (.agg (.acons (.sc (.int .i64)) (.acons (.sc (.int .i64)) .anil)))), (1, (.agg (.acons (.sc (.int .i64)) (.acons (.sc (.int .i64)) .anil))))]⟩, [], ⟨[], [(0, (.sc (.int .i64)))]⟩, []⟩
noncomputable def S46 : CSum := s46.sum 2 (fun (x : Int × Int × Int × Int) => impl_ordered x.1 x.2.1 x.2.2.1 x.2.2.2)
noncomputable def c46 : Cfg := ⟨tab, ccOf [], 20, lpOf [], [], [], []⟩
theorem run46 (k : Nat) (x : Int × Int × Int × Int) : runF c46 k s46 Try.f46.results.toList (Try.f46.body.getD .skip) x = impl_ordered x.1 x.2.1 x.2.2.1 x.2.2.2 := by kernel_rfl
theorem snd46 : CSnd Try.prog 46 S46 := fn_ok mix (c := c46) tab_ok (ccOf_ok (.nil)) (fn := Try.f46) (cd := Try.f46.body.getD .skip) (by kernel_rfl) (by kernel_rfl) (by kernel_rfl) (by decide) (by kernel_rfl) (by kernel_rfl) (RGok_nil _) rfl (by kernel_rfl) (fuel0 run46)
end Go.Eng
