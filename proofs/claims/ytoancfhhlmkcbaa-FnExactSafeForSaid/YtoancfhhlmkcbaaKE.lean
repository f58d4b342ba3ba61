/-
Printed by engpr.py: the functions are what the definitions say.
-/
import Derived.Test.YtoancfhhlmkcbaaKD
import Derived.Test.YtoancfhhlmkcbaaKQ
import Derived.Shelf.Sort.Plain
import Derived.Shelf.Slices.In.SortNone
import Derived.Test.YtoancfhhlmkcbaaProg
import Derived.KernelRfl
set_option linter.unusedVariables false
set_option linter.unusedSimpArgs false
namespace Go.Eng
open Go Go.Proofs Go.RowKit Go.Proofs.YtoancfhhlmkcbaaW.PrintWords Go.Proofs.YtoancfhhlmkcbaaW.PrintLast
def tabl : List (Nat × TInf) := [(3, { ty := (.int .i64) }),
  (4, { ty := .bool }),
  (22, { ty := (.slice 3 (.int .i64)), bytes := 8 }),
  (23, { ty := (.slice 101 (.pair (.slice 3 (.int .i64)) (.pair (.slice 133 (.pair (.int .i64) (.int .i64))) (.slice 3 (.int .i64))))), bytes := 72 }),
  (24, { ty := (.slice 106 (.pair (.int .i64) (.pair (.int .i64) (.pair (.int .i64) (.int .i64))))), bytes := 32 }),
  (26, { ty := (.pair (.slice 3 (.int .i64)) (.pair (.slice 101 (.pair (.slice 3 (.int .i64)) (.pair (.slice 133 (.pair (.int .i64) (.int .i64))) (.slice 3 (.int .i64))))) (.pair (.slice 106 (.pair (.int .i64) (.pair (.int .i64) (.pair (.int .i64) (.int .i64))))) (.slice 3 (.int .i64))))), agg := true, offs := [(0, 1), (1, 1), (2, 1), (3, 1)] }),
  (29, { ty := (.slice 49 (.pair (.slice 3 (.int .i64)) (.pair (.slice 74 (.pair (.int .i64) (.int .i64))) (.slice 3 (.int .i64))))), bytes := 72 }),
  (30, { ty := (.slice 68 (.pair (.int .i64) (.pair (.int .i64) (.pair (.int .i64) (.int .i64))))), bytes := 32 }),
  (32, { ty := (.pair (.slice 3 (.int .i64)) (.pair (.slice 49 (.pair (.slice 3 (.int .i64)) (.pair (.slice 74 (.pair (.int .i64) (.int .i64))) (.slice 3 (.int .i64))))) (.pair (.slice 68 (.pair (.int .i64) (.pair (.int .i64) (.pair (.int .i64) (.int .i64))))) (.slice 3 (.int .i64))))), agg := true, offs := [(0, 1), (1, 1), (2, 1), (3, 1)] }),
  (47, { ty := (.slice 74 (.pair (.int .i64) (.int .i64))), bytes := 16 }),
  (49, { ty := (.pair (.slice 3 (.int .i64)) (.pair (.slice 74 (.pair (.int .i64) (.int .i64))) (.slice 3 (.int .i64)))), agg := true, offs := [(0, 1), (1, 1), (2, 1)] }),
  (68, { ty := (.pair (.int .i64) (.pair (.int .i64) (.pair (.int .i64) (.int .i64)))), agg := true, offs := [(0, 1), (1, 1), (2, 1), (3, 1)] }),
  (74, { ty := (.pair (.int .i64) (.int .i64)), agg := true, offs := [(0, 1), (1, 1)], eqs := [.i64, .i64] }),
  (99, { ty := (.slice 133 (.pair (.int .i64) (.int .i64))), bytes := 16 }),
  (101, { ty := (.pair (.slice 3 (.int .i64)) (.pair (.slice 133 (.pair (.int .i64) (.int .i64))) (.slice 3 (.int .i64)))), agg := true, offs := [(0, 1), (1, 1), (2, 1)] }),
  (106, { ty := (.pair (.int .i64) (.pair (.int .i64) (.pair (.int .i64) (.int .i64)))), agg := true, offs := [(0, 1), (1, 1), (2, 1), (3, 1)] }),
  (133, { ty := (.pair (.int .i64) (.int .i64)), agg := true, offs := [(0, 1), (1, 1)] })]
def tab : Nat → Option TInf := tabOf tabl
theorem tab_ok : TTok Try.prog tab := tabOf_ok (by kernel_rfl)
theorem mix : Try.prog.follows .mixedOrders = true := by kernel_rfl
def s32 : FSig := ⟨⟨[], [(0, (.rd 3 (.int .i64) [])), (1, (.sc (.int .i64)))]⟩, [], ⟨[], [(0, (.sc (.int .i64)))]⟩, []⟩
noncomputable def S32 : CSum := s32.sum 2 (fun (x : List Int × Int) => laws_szIntS x.1 x.2)
noncomputable def c32 : Cfg := ⟨tab, ccOf [], 12, lpOf [], [], [], []⟩
theorem run32 (k : Nat) (x : List Int × Int) : runF c32 k s32 Try.f32.results.toList (Try.f32.body.getD .skip) x = laws_szIntS x.1 x.2 := by kernel_rfl
theorem snd32 : CSnd Try.prog 32 S32 := fn_ok mix (c := c32) tab_ok (ccOf_ok (.nil)) (fn := Try.f32) (cd := Try.f32.body.getD .skip) (by kernel_rfl) (by kernel_rfl) (by kernel_rfl) (by decide) (by kernel_rfl) (by kernel_rfl) (RGok_nil _) rfl (by kernel_rfl) (fuel0 run32)
def s95 : FSig := ⟨⟨[], [(0, (.rd 133 (.pair (.int .i64) (.int .i64)) [])), (1, (.sc (.int .i64)))]⟩, [], ⟨[], [(0, (.sc (.int .i64)))]⟩, []⟩
noncomputable def S95 : CSum := s95.sum 2 (fun (x : List (Int × Int) × Int) => laws_szHoldS x.1 x.2)
noncomputable def c95 : Cfg := ⟨tab, ccOf [], 12, lpOf [], [], [], []⟩
theorem run95 (k : Nat) (x : List (Int × Int) × Int) : runF c95 k s95 Try.f95.results.toList (Try.f95.body.getD .skip) x = laws_szHoldS x.1 x.2 := by kernel_rfl
theorem snd95 : CSnd Try.prog 95 S95 := fn_ok mix (c := c95) tab_ok (ccOf_ok (.nil)) (fn := Try.f95) (cd := Try.f95.body.getD .skip) (by kernel_rfl) (by kernel_rfl) (by kernel_rfl) (by decide) (by kernel_rfl) (by kernel_rfl) (RGok_nil _) rfl (by kernel_rfl) (fuel0 run95)
def s70 : FSig := ⟨⟨[], [(0, (.agg (.acons (.rd 3 (.int .i64) []) (.acons (.rd 133 (.pair (.int .i64) (.int .i64)) []) (.acons (.rd 3 (.int .i64) []) .anil))))), (1, (.sc (.int .i64)))]⟩, [], ⟨[], [(0, (.sc (.int .i64)))]⟩, []⟩
noncomputable def S70 : CSum := s70.sum 2 (fun (x : List Int × List (Int × Int) × List Int × Int) => laws_szKeeper x.1 x.2.1 x.2.2.1 x.2.2.2)
noncomputable def c70 : Cfg := ⟨tab, ccOf [(32, S32), (95, S95)], 24, lpOf [], [], [], []⟩
theorem run70 (k : Nat) (x : List Int × List (Int × Int) × List Int × Int) : runF c70 k s70 Try.f70.results.toList (Try.f70.body.getD .skip) x = laws_szKeeper x.1 x.2.1 x.2.2.1 x.2.2.2 := by kernel_rfl
theorem snd70 : CSnd Try.prog 70 S70 := fn_ok mix (c := c70) tab_ok (ccOf_ok (.cons snd32 (.cons snd95 .nil))) (fn := Try.f70) (cd := Try.f70.body.getD .skip) (by kernel_rfl) (by kernel_rfl) (by kernel_rfl) (by decide) (by kernel_rfl) (by kernel_rfl) (RGok_nil _) rfl (by kernel_rfl) (fuel0 run70)
def s33 : FSig := ⟨⟨[], [(0, (.rd 101 (.pair (.slice 3 (.int .i64)) (.pair (.slice 133 (.pair (.int .i64) (.int .i64))) (.slice 3 (.int .i64)))) [])), (1, (.sc (.int .i64)))]⟩, [], ⟨[], [(0, (.sc (.int .i64)))]⟩, []⟩
noncomputable def S33 : CSum := s33.sum 2 (fun (x : List (List Int × List (Int × Int) × List Int) × Int) => laws_szKeeperS x.1 x.2)
noncomputable def c33 : Cfg := ⟨tab, ccOf [(70, S70)], 27, lpOf [(0, ⟨[], [(0, (.rd 101 (.pair (.slice 3 (.int .i64)) (.pair (.slice 133 (.pair (.int .i64) (.int .i64))) (.slice 3 (.int .i64)))) [])), (1, (.sc (.int .i64))), (5, (.sc (.int .i64)))]⟩)], [], [], []⟩
theorem run33 (k : Nat) (x : List (List Int × List (Int × Int) × List Int) × Int) : runF c33 k s33 Try.f33.results.toList (Try.f33.body.getD .skip) x = laws_szKeeperS.g k x.1 x.2 := by kernel_rfl
theorem snd33 : CSnd Try.prog 33 S33 := fn_ok mix (c := c33) tab_ok (ccOf_ok (.cons snd70 .nil)) (fn := Try.f33) (cd := Try.f33.body.getD .skip) (by kernel_rfl) (by kernel_rfl) (by kernel_rfl) (by decide) (by kernel_rfl) (by kernel_rfl) (RGok_nil _) rfl (by kernel_rfl) (fuel1 (G := fun k (x : List (List Int × List (Int × Int) × List Int) × Int) => laws_szKeeperS.g k x.1 x.2) run33)
def s34 : FSig := ⟨⟨[], [(0, (.rd 106 (.pair (.int .i64) (.pair (.int .i64) (.pair (.int .i64) (.int .i64)))) [])), (1, (.sc (.int .i64)))]⟩, [], ⟨[], [(0, (.sc (.int .i64)))]⟩, []⟩
noncomputable def S34 : CSum := s34.sum 2 (fun (x : List (Int × Int × Int × Int) × Int) => laws_szSlipS x.1 x.2)
noncomputable def c34 : Cfg := ⟨tab, ccOf [], 12, lpOf [], [], [], []⟩
theorem run34 (k : Nat) (x : List (Int × Int × Int × Int) × Int) : runF c34 k s34 Try.f34.results.toList (Try.f34.body.getD .skip) x = laws_szSlipS x.1 x.2 := by kernel_rfl
theorem snd34 : CSnd Try.prog 34 S34 := fn_ok mix (c := c34) tab_ok (ccOf_ok (.nil)) (fn := Try.f34) (cd := Try.f34.body.getD .skip) (by kernel_rfl) (by kernel_rfl) (by kernel_rfl) (by decide) (by kernel_rfl) (by kernel_rfl) (RGok_nil _) rfl (by kernel_rfl) (fuel0 run34)
def s7 : FSig := ⟨⟨[], [(0, (.agg (.acons (.rd 3 (.int .i64) []) (.acons (.rd 101 (.pair (.slice 3 (.int .i64)) (.pair (.slice 133 (.pair (.int .i64) (.int .i64))) (.slice 3 (.int .i64)))) []) (.acons (.rd 106 (.pair (.int .i64) (.pair (.int .i64) (.pair (.int .i64) (.int .i64)))) []) (.acons (.rd 3 (.int .i64) []) .anil)))))), (1, (.sc (.int .i64)))]⟩, [], ⟨[], [(0, (.sc (.int .i64)))]⟩, []⟩
noncomputable def S7 : CSum := s7.sum 2 (fun (x : List Int × List (List Int × List (Int × Int) × List Int) × List (Int × Int × Int × Int) × List Int × Int) => laws_szCustody x.1 x.2.1 x.2.2.1 x.2.2.2.1 x.2.2.2.2)
noncomputable def c7 : Cfg := ⟨tab, ccOf [(32, S32), (33, S33), (34, S34)], 30, lpOf [], [], [], []⟩
theorem run7 (k : Nat) (x : List Int × List (List Int × List (Int × Int) × List Int) × List (Int × Int × Int × Int) × List Int × Int) : runF c7 k s7 Try.f7.results.toList (Try.f7.body.getD .skip) x = laws_szCustody x.1 x.2.1 x.2.2.1 x.2.2.2.1 x.2.2.2.2 := by kernel_rfl
theorem snd7 : CSnd Try.prog 7 S7 := fn_ok mix (c := c7) tab_ok (ccOf_ok (.cons snd32 (.cons snd33 (.cons snd34 .nil)))) (fn := Try.f7) (cd := Try.f7.body.getD .skip) (by kernel_rfl) (by kernel_rfl) (by kernel_rfl) (by decide) (by kernel_rfl) (by kernel_rfl) (RGok_nil _) rfl (by kernel_rfl) (fuel0 run7)
def s39 : FSig := ⟨⟨[], [(0, (.sc (.int .i64))), (1, (.sc (.int .i64))), (2, (.sc (.int .i64)))]⟩, [], ⟨[], [(0, (.sc .bool))]⟩, []⟩
noncomputable def S39 : CSum := s39.sum 3 (fun (x : Int × Int × Int) => spec_l1In x.1 x.2.1 x.2.2)
noncomputable def c39 : Cfg := ⟨tab, ccOf [], 15, lpOf [], [], [], []⟩
theorem run39 (k : Nat) (x : Int × Int × Int) : runF c39 k s39 Try.f39.results.toList (Try.f39.body.getD .skip) x = spec_l1In x.1 x.2.1 x.2.2 := by kernel_rfl
theorem snd39 : CSnd Try.prog 39 S39 := fn_ok mix (c := c39) tab_ok (ccOf_ok (.nil)) (fn := Try.f39) (cd := Try.f39.body.getD .skip) (by kernel_rfl) (by kernel_rfl) (by kernel_rfl) (by decide) (by kernel_rfl) (by kernel_rfl) (RGok_nil _) rfl (by kernel_rfl) (fuel0 run39)
def s35 : FSig := ⟨⟨[], [(0, (.rd 3 (.int .i64) []))]⟩, [], ⟨[], [(0, (.sc .bool))]⟩, []⟩
noncomputable def S35 : CSum := s35.sum 1 (fun (x : List Int) => spec_l16Tree x)
noncomputable def c35 : Cfg := ⟨tab, ccOf [(39, S39)], 30, lpOf [(0, ⟨[], [(0, (.rd 3 (.int .i64) [])), (5, (.rd 3 (.int .i64) [])), (6, (.sc (.int .i64))), (7, (.sc (.int .i64)))]⟩)], [], [], []⟩
theorem run35 (k : Nat) (x : List Int) : runF c35 k s35 Try.f35.results.toList (Try.f35.body.getD .skip) x = spec_l16Tree.g k x := by kernel_rfl
theorem snd35 : CSnd Try.prog 35 S35 := fn_ok mix (c := c35) tab_ok (ccOf_ok (.cons snd39 .nil)) (fn := Try.f35) (cd := Try.f35.body.getD .skip) (by kernel_rfl) (by kernel_rfl) (by kernel_rfl) (by decide) (by kernel_rfl) (by kernel_rfl) (RGok_nil _) rfl (by kernel_rfl) (fuel1 (G := fun k (x : List Int) => spec_l16Tree.g k x) run35)
def s38 : FSig := ⟨⟨[], [(0, (.rd 3 (.int .i64) [])), (1, (.sc (.int .i64)))]⟩, [], ⟨[], [(0, (.sc .bool))]⟩, []⟩
noncomputable def S38 : CSum := s38.sum 2 (fun (x : List Int × Int) => spec_l1Has x.1 x.2)
noncomputable def c38 : Cfg := ⟨tab, ccOf [], 17, lpOf [(0, ⟨[], [(1, (.sc (.int .i64))), (7, (.rd 3 (.int .i64) [])), (8, (.sc (.int .i64))), (9, (.sc (.int .i64)))]⟩)], [], [], []⟩
theorem run38 (k : Nat) (x : List Int × Int) : runF c38 k s38 Try.f38.results.toList (Try.f38.body.getD .skip) x = spec_l1Has.g k x.1 x.2 := by kernel_rfl
theorem snd38 : CSnd Try.prog 38 S38 := fn_ok mix (c := c38) tab_ok (ccOf_ok (.nil)) (fn := Try.f38) (cd := Try.f38.body.getD .skip) (by kernel_rfl) (by kernel_rfl) (by kernel_rfl) (by decide) (by kernel_rfl) (by kernel_rfl) (RGok_nil _) rfl (by kernel_rfl) (fuel1 (G := fun k (x : List Int × Int) => spec_l1Has.g k x.1 x.2) run38)
def s40 : FSig := ⟨⟨[], [(0, (.rd 3 (.int .i64) [])), (1, (.rd 3 (.int .i64) []))]⟩, [], ⟨[], [(0, (.sc .bool))]⟩, []⟩
noncomputable def S40 : CSum := s40.sum 2 (fun (x : List Int × List Int) => spec_l16Same x.1 x.2)
noncomputable def c40 : Cfg := ⟨tab, ccOf [(38, S38)], 31, lpOf [(0, ⟨[], [(0, (.rd 3 (.int .i64) [])), (1, (.rd 3 (.int .i64) [])), (7, (.rd 3 (.int .i64) [])), (8, (.sc (.int .i64))), (9, (.sc (.int .i64)))]⟩)], [], [], []⟩
theorem run40 (k : Nat) (x : List Int × List Int) : runF c40 k s40 Try.f40.results.toList (Try.f40.body.getD .skip) x = spec_l16Same.g k x.1 x.2 := by kernel_rfl
theorem snd40 : CSnd Try.prog 40 S40 := fn_ok mix (c := c40) tab_ok (ccOf_ok (.cons snd38 .nil)) (fn := Try.f40) (cd := Try.f40.body.getD .skip) (by kernel_rfl) (by kernel_rfl) (by kernel_rfl) (by decide) (by kernel_rfl) (by kernel_rfl) (RGok_nil _) rfl (by kernel_rfl) (fuel1 (G := fun k (x : List Int × List Int) => spec_l16Same.g k x.1 x.2) run40)
def s52 : FSig := ⟨⟨[], [(0, (.rd 74 (.pair (.int .i64) (.int .i64)) [])), (1, (.agg (.acons (.sc (.int .i64)) (.acons (.sc (.int .i64)) .anil))))]⟩, [], ⟨[], [(0, (.sc .bool))]⟩, []⟩
noncomputable def S52 : CSum := s52.sum 2 (fun (x : List (Int × Int) × Int × Int) => spec_l16Has x.1 x.2.1 x.2.2)
noncomputable def c52 : Cfg := ⟨tab, ccOf [], 17, lpOf [(0, ⟨[.box 74 (.acons (.sc (.int .i64)) (.acons (.sc (.int .i64)) .anil))], [(3, (.ptr 0 0)), (7, (.rd 74 (.pair (.int .i64) (.int .i64)) [])), (8, (.sc (.int .i64))), (9, (.sc (.int .i64)))]⟩)], [], [], []⟩
theorem run52 (k : Nat) (x : List (Int × Int) × Int × Int) : runF c52 k s52 Try.f52.results.toList (Try.f52.body.getD .skip) x = spec_l16Has.g k x.1 x.2.1 x.2.2 := by kernel_rfl
theorem snd52 : CSnd Try.prog 52 S52 := fn_ok mix (c := c52) tab_ok (ccOf_ok (.nil)) (fn := Try.f52) (cd := Try.f52.body.getD .skip) (by kernel_rfl) (by kernel_rfl) (by kernel_rfl) (by decide) (by kernel_rfl) (by kernel_rfl) (RGok_nil _) rfl (by kernel_rfl) (fuel1 (G := fun k (x : List (Int × Int) × Int × Int) => spec_l16Has.g k x.1 x.2.1 x.2.2) run52)
def s71 : FSig := ⟨⟨[], [(0, (.rd 3 (.int .i64) [])), (1, (.sc (.int .i64)))]⟩, [], ⟨[], [(0, (.sc .bool))]⟩, []⟩
noncomputable def S71 : CSum := s71.sum 2 (fun (x : List Int × Int) => spec_l1Some x.1 x.2)
noncomputable def c71 : Cfg := ⟨tab, ccOf [], 35, lpOf [(0, ⟨[], [(0, (.rd 3 (.int .i64) [])), (1, (.sc (.int .i64))), (7, (.rd 3 (.int .i64) [])), (8, (.sc (.int .i64))), (9, (.sc (.int .i64)))]⟩)], [], [], []⟩
theorem run71 (k : Nat) (x : List Int × Int) : runF c71 k s71 Try.f71.results.toList (Try.f71.body.getD .skip) x = spec_l1Some.g k x.1 x.2 := by kernel_rfl
theorem snd71 : CSnd Try.prog 71 S71 := fn_ok mix (c := c71) tab_ok (ccOf_ok (.nil)) (fn := Try.f71) (cd := Try.f71.body.getD .skip) (by kernel_rfl) (by kernel_rfl) (by kernel_rfl) (by decide) (by kernel_rfl) (by kernel_rfl) (RGok_nil _) rfl (by kernel_rfl) (fuel1 (G := fun k (x : List Int × Int) => spec_l1Some.g k x.1 x.2) run71)
def s72 : FSig := ⟨⟨[], [(0, (.rd 3 (.int .i64) [])), (1, (.sc (.int .i64)))]⟩, [], ⟨[.row 3 (.int .i64)], [(0, (.own 0))]⟩, []⟩
noncomputable def S72 : CSum := s72.sum 2 (fun (x : List Int × Int) => spec_l16Children x.1 x.2)
noncomputable def c72 : Cfg := ⟨tab, ccOf [], 28, lpOf [(0, ⟨[.row 3 (.int .i64)], [(1, (.sc (.int .i64))), (5, (.own 0)), (8, (.rd 3 (.int .i64) [])), (9, (.sc (.int .i64))), (10, (.sc (.int .i64)))]⟩)], [], [], []⟩
theorem run72 (k : Nat) (x : List Int × Int) : runF c72 k s72 Try.f72.results.toList (Try.f72.body.getD .skip) x = spec_l16Children.g k x.1 x.2 := by kernel_rfl
theorem snd72 : CSnd Try.prog 72 S72 := fn_ok mix (c := c72) tab_ok (ccOf_ok (.nil)) (fn := Try.f72) (cd := Try.f72.body.getD .skip) (by kernel_rfl) (by kernel_rfl) (by kernel_rfl) (by decide) (by kernel_rfl) (by kernel_rfl) (RGok_nil _) rfl (by kernel_rfl) (fuel1 (G := fun k (x : List Int × Int) => spec_l16Children.g k x.1 x.2) run72)
def s73 : FSig := ⟨⟨[], [(0, (.agg (.acons (.sc (.int .i64)) (.acons (.sc (.int .i64)) .anil)))), (1, (.agg (.acons (.sc (.int .i64)) (.acons (.sc (.int .i64)) .anil))))]⟩, [], ⟨[], [(0, (.sc .bool))]⟩, []⟩
noncomputable def S73 : CSum := s73.sum 2 (fun (x : Int × Int × Int × Int) => spec_l16Less x.1 x.2.1 x.2.2.1 x.2.2.2)
noncomputable def c73 : Cfg := ⟨tab, ccOf [], 24, lpOf [], [], [], []⟩
theorem run73 (k : Nat) (x : Int × Int × Int × Int) : runF c73 k s73 Try.f73.results.toList (Try.f73.body.getD .skip) x = spec_l16Less x.1 x.2.1 x.2.2.1 x.2.2.2 := by kernel_rfl
theorem snd73 : CSnd Try.prog 73 S73 := fn_ok mix (c := c73) tab_ok (ccOf_ok (.nil)) (fn := Try.f73) (cd := Try.f73.body.getD .skip) (by kernel_rfl) (by kernel_rfl) (by kernel_rfl) (by decide) (by kernel_rfl) (by kernel_rfl) (RGok_nil _) rfl (by kernel_rfl) (fuel0 run73)
def s36 : FSig := ⟨⟨[], [(0, (.agg (.acons (.rd 3 (.int .i64) []) (.acons (.rd 49 (.pair (.slice 3 (.int .i64)) (.pair (.slice 74 (.pair (.int .i64) (.int .i64))) (.slice 3 (.int .i64)))) []) (.acons (.rd 68 (.pair (.int .i64) (.pair (.int .i64) (.pair (.int .i64) (.int .i64)))) []) (.acons (.rd 3 (.int .i64) []) .anil)))))), (1, (.sc (.int .i64)))]⟩, [], ⟨[], [(0, (.sc .bool))]⟩, []⟩
noncomputable def S36 : CSum := s36.sum 2 (fun (x : List Int × List (List Int × List (Int × Int) × List Int) × List (Int × Int × Int × Int) × List Int × Int) => spec_l16Keeper x.1 x.2.1 x.2.2.1 x.2.2.2.1 x.2.2.2.2)
noncomputable def c36 : Cfg := ⟨tab, ccOf [(38, S38), (40, S40), (52, S52), (71, S71), (72, S72), (73, S73)], 131, lpOf [(0, ⟨[.box 32 (.acons (.rd 3 (.int .i64) []) (.acons (.rd 49 (.pair (.slice 3 (.int .i64)) (.pair (.slice 74 (.pair (.int .i64) (.int .i64))) (.slice 3 (.int .i64)))) []) (.acons (.rd 68 (.pair (.int .i64) (.pair (.int .i64) (.pair (.int .i64) (.int .i64)))) []) (.acons (.rd 3 (.int .i64) []) .anil)))), .box 49 (.acons (.rd 3 (.int .i64) []) (.acons (.rd 74 (.pair (.int .i64) (.int .i64)) []) (.acons (.rd 3 (.int .i64) []) .anil)))], [(1, (.sc (.int .i64))), (2, (.ptr 0 0)), (5, (.ptr 1 0)), (33, (.rd 3 (.int .i64) [])), (34, (.sc (.int .i64))), (35, (.sc (.int .i64)))]⟩), (2, ⟨[.box 32 (.acons (.rd 3 (.int .i64) []) (.acons (.rd 49 (.pair (.slice 3 (.int .i64)) (.pair (.slice 74 (.pair (.int .i64) (.int .i64))) (.slice 3 (.int .i64)))) []) (.acons (.rd 68 (.pair (.int .i64) (.pair (.int .i64) (.pair (.int .i64) (.int .i64)))) []) (.acons (.rd 3 (.int .i64) []) .anil)))), .box 49 (.acons (.rd 3 (.int .i64) []) (.acons (.rd 74 (.pair (.int .i64) (.int .i64)) []) (.acons (.rd 3 (.int .i64) []) .anil))), .row 3 (.int .i64)], [(2, (.ptr 0 0)), (5, (.ptr 1 0)), (8, (.own 2)), (62, (.rd 74 (.pair (.int .i64) (.int .i64)) [])), (63, (.sc (.int .i64))), (64, (.sc (.int .i64)))]⟩), (4, ⟨[.box 32 (.acons (.rd 3 (.int .i64) []) (.acons (.rd 49 (.pair (.slice 3 (.int .i64)) (.pair (.slice 74 (.pair (.int .i64) (.int .i64))) (.slice 3 (.int .i64)))) []) (.acons (.rd 68 (.pair (.int .i64) (.pair (.int .i64) (.pair (.int .i64) (.int .i64)))) []) (.acons (.rd 3 (.int .i64) []) .anil)))), .box 49 (.acons (.rd 3 (.int .i64) []) (.acons (.rd 74 (.pair (.int .i64) (.int .i64)) []) (.acons (.rd 3 (.int .i64) []) .anil))), .row 3 (.int .i64)], [(2, (.ptr 0 0)), (5, (.ptr 1 0)), (8, (.own 2)), (99, (.rd 3 (.int .i64) [])), (100, (.sc (.int .i64))), (101, (.sc (.int .i64)))]⟩), (6, ⟨[.box 32 (.acons (.rd 3 (.int .i64) []) (.acons (.rd 49 (.pair (.slice 3 (.int .i64)) (.pair (.slice 74 (.pair (.int .i64) (.int .i64))) (.slice 3 (.int .i64)))) []) (.acons (.rd 68 (.pair (.int .i64) (.pair (.int .i64) (.pair (.int .i64) (.int .i64)))) []) (.acons (.rd 3 (.int .i64) []) .anil)))), .box 49 (.acons (.rd 3 (.int .i64) []) (.acons (.rd 74 (.pair (.int .i64) (.int .i64)) []) (.acons (.rd 3 (.int .i64) []) .anil))), .row 3 (.int .i64)], [(2, (.ptr 0 0)), (5, (.ptr 1 0)), (8, (.own 2)), (12, (.sc (.int .i64))), (99, (.rd 3 (.int .i64) [])), (100, (.sc (.int .i64))), (101, (.sc (.int .i64))), (105, (.own 2)), (106, (.sc (.int .i64))), (107, (.sc (.int .i64)))]⟩)], [], [], []⟩
theorem run36 (k : Nat) (x : List Int × List (List Int × List (Int × Int) × List Int) × List (Int × Int × Int × Int) × List Int × Int) : runF c36 k s36 Try.f36.results.toList (Try.f36.body.getD .skip) x = spec_l16Keeper.g k x.1 x.2.1 x.2.2.1 x.2.2.2.1 x.2.2.2.2 := by kernel_rfl
theorem snd36 : CSnd Try.prog 36 S36 := fn_ok mix (c := c36) tab_ok (ccOf_ok (.cons snd38 (.cons snd40 (.cons snd52 (.cons snd71 (.cons snd72 (.cons snd73 .nil))))))) (fn := Try.f36) (cd := Try.f36.body.getD .skip) (by kernel_rfl) (by kernel_rfl) (by kernel_rfl) (by decide) (by kernel_rfl) (by kernel_rfl) (RGok_nil _) rfl (by kernel_rfl) (fuel1 (G := fun k (x : List Int × List (List Int × List (Int × Int) × List Int) × List (Int × Int × Int × Int) × List Int × Int) => spec_l16Keeper.g k x.1 x.2.1 x.2.2.1 x.2.2.2.1 x.2.2.2.2) run36)
def s37 : FSig := ⟨⟨[], [(0, (.sc (.int .i64)))]⟩, [], ⟨[], [(0, (.sc .bool))]⟩, []⟩
noncomputable def S37 : CSum := s37.sum 1 (fun (x : Int) => spec_l16Id x)
noncomputable def c37 : Cfg := ⟨tab, ccOf [], 9, lpOf [], [], [], []⟩
theorem run37 (k : Nat) (x : Int) : runF c37 k s37 Try.f37.results.toList (Try.f37.body.getD .skip) x = spec_l16Id x := by kernel_rfl
theorem snd37 : CSnd Try.prog 37 S37 := fn_ok mix (c := c37) tab_ok (ccOf_ok (.nil)) (fn := Try.f37) (cd := Try.f37.body.getD .skip) (by kernel_rfl) (by kernel_rfl) (by kernel_rfl) (by decide) (by kernel_rfl) (by kernel_rfl) (RGok_nil _) rfl (by kernel_rfl) (fuel0 run37)
def s8 : FSig := ⟨⟨[], [(0, (.agg (.acons (.rd 3 (.int .i64) []) (.acons (.rd 49 (.pair (.slice 3 (.int .i64)) (.pair (.slice 74 (.pair (.int .i64) (.int .i64))) (.slice 3 (.int .i64)))) []) (.acons (.rd 68 (.pair (.int .i64) (.pair (.int .i64) (.pair (.int .i64) (.int .i64)))) []) (.acons (.rd 3 (.int .i64) []) .anil))))))]⟩, [], ⟨[], [(0, (.sc .bool))]⟩, []⟩
noncomputable def S8 : CSum := s8.sum 1 (fun (x : List Int × List (List Int × List (Int × Int) × List Int) × List (Int × Int × Int × Int) × List Int) => spec_GoodCustody x.1 x.2.1 x.2.2.1 x.2.2.2)
noncomputable def c8 : Cfg := ⟨tab, ccOf [(35, S35), (36, S36), (37, S37), (38, S38), (39, S39), (40, S40)], 131, lpOf [(0, ⟨[.box 32 (.acons (.rd 3 (.int .i64) []) (.acons (.rd 49 (.pair (.slice 3 (.int .i64)) (.pair (.slice 74 (.pair (.int .i64) (.int .i64))) (.slice 3 (.int .i64)))) []) (.acons (.rd 68 (.pair (.int .i64) (.pair (.int .i64) (.pair (.int .i64) (.int .i64)))) []) (.acons (.rd 3 (.int .i64) []) .anil))))], [(1, (.ptr 0 0)), (27, (.sc (.int .i64))), (28, (.sc (.int .i64)))]⟩), (2, ⟨[.box 32 (.acons (.rd 3 (.int .i64) []) (.acons (.rd 49 (.pair (.slice 3 (.int .i64)) (.pair (.slice 74 (.pair (.int .i64) (.int .i64))) (.slice 3 (.int .i64)))) []) (.acons (.rd 68 (.pair (.int .i64) (.pair (.int .i64) (.pair (.int .i64) (.int .i64)))) []) (.acons (.rd 3 (.int .i64) []) .anil))))], [(1, (.ptr 0 0)), (37, (.rd 68 (.pair (.int .i64) (.pair (.int .i64) (.pair (.int .i64) (.int .i64)))) [])), (38, (.sc (.int .i64))), (39, (.sc (.int .i64)))]⟩)], [], [], []⟩
theorem run8 (k : Nat) (x : List Int × List (List Int × List (Int × Int) × List Int) × List (Int × Int × Int × Int) × List Int) : runF c8 k s8 Try.f8.results.toList (Try.f8.body.getD .skip) x = spec_GoodCustody.g k x.1 x.2.1 x.2.2.1 x.2.2.2 := by kernel_rfl
theorem snd8 : CSnd Try.prog 8 S8 := fn_ok mix (c := c8) tab_ok (ccOf_ok (.cons snd35 (.cons snd36 (.cons snd37 (.cons snd38 (.cons snd39 (.cons snd40 .nil))))))) (fn := Try.f8) (cd := Try.f8.body.getD .skip) (by kernel_rfl) (by kernel_rfl) (by kernel_rfl) (by decide) (by kernel_rfl) (by kernel_rfl) (RGok_nil _) rfl (by kernel_rfl) (fuel1 (G := fun k (x : List Int × List (List Int × List (Int × Int) × List Int) × List (Int × Int × Int × Int) × List Int) => spec_GoodCustody.g k x.1 x.2.1 x.2.2.1 x.2.2.2) run8)
def s21 : FSig := ⟨⟨[], [(0, (.rd 3 (.int .i64) []))]⟩, [], ⟨[.row 3 (.int .i64)], [(0, (.own 0))]⟩, []⟩
noncomputable def S21 : CSum := s21.sum 1 (fun (x : List Int) => laws_toIntS x)
noncomputable def c21 : Cfg := ⟨tab, ccOf [], 22, lpOf [(0, ⟨[.row 3 (.int .i64)], [(0, (.rd 3 (.int .i64) [])), (3, (.own 0)), (4, (.sc (.int .i64)))]⟩)], [], [], []⟩
theorem run21 (k : Nat) (x : List Int) : runF c21 k s21 Try.f21.results.toList (Try.f21.body.getD .skip) x = laws_toIntS.g k x := by kernel_rfl
theorem snd21 : CSnd Try.prog 21 S21 := fn_ok mix (c := c21) tab_ok (ccOf_ok (.nil)) (fn := Try.f21) (cd := Try.f21.body.getD .skip) (by kernel_rfl) (by kernel_rfl) (by kernel_rfl) (by decide) (by kernel_rfl) (by kernel_rfl) (RGok_nil _) rfl (by kernel_rfl) (fuel1 (G := fun k (x : List Int) => laws_toIntS.g k x) run21)
def s107 : FSig := ⟨⟨[], [(0, (.agg (.acons (.sc (.int .i64)) (.acons (.sc (.int .i64)) .anil))))]⟩, [], ⟨[], [(0, (.agg (.acons (.sc (.int .i64)) (.acons (.sc (.int .i64)) .anil))))]⟩, []⟩
noncomputable def S107 : CSum := s107.sum 1 (fun (x : Int × Int) => laws_toHold x.1 x.2)
noncomputable def c107 : Cfg := ⟨tab, ccOf [], 11, lpOf [], [], [], []⟩
theorem run107 (k : Nat) (x : Int × Int) : runF c107 k s107 Try.f107.results.toList (Try.f107.body.getD .skip) x = laws_toHold x.1 x.2 := by kernel_rfl
theorem snd107 : CSnd Try.prog 107 S107 := fn_ok mix (c := c107) tab_ok (ccOf_ok (.nil)) (fn := Try.f107) (cd := Try.f107.body.getD .skip) (by kernel_rfl) (by kernel_rfl) (by kernel_rfl) (by decide) (by kernel_rfl) (by kernel_rfl) (RGok_nil _) rfl (by kernel_rfl) (fuel0 run107)
def s96 : FSig := ⟨⟨[], [(0, (.rd 133 (.pair (.int .i64) (.int .i64)) []))]⟩, [], ⟨[.row 74 (.pair (.int .i64) (.int .i64))], [(0, (.own 0))]⟩, []⟩
noncomputable def S96 : CSum := s96.sum 1 (fun (x : List (Int × Int)) => laws_toHoldS x)
noncomputable def c96 : Cfg := ⟨tab, ccOf [(107, S107)], 23, lpOf [(0, ⟨[.row 74 (.pair (.int .i64) (.int .i64))], [(0, (.rd 133 (.pair (.int .i64) (.int .i64)) [])), (3, (.own 0)), (4, (.sc (.int .i64)))]⟩)], [], [], []⟩
theorem run96 (k : Nat) (x : List (Int × Int)) : runF c96 k s96 Try.f96.results.toList (Try.f96.body.getD .skip) x = laws_toHoldS.g k x := by kernel_rfl
theorem snd96 : CSnd Try.prog 96 S96 := fn_ok mix (c := c96) tab_ok (ccOf_ok (.cons snd107 .nil)) (fn := Try.f96) (cd := Try.f96.body.getD .skip) (by kernel_rfl) (by kernel_rfl) (by kernel_rfl) (by decide) (by kernel_rfl) (by kernel_rfl) (RGok_nil _) rfl (by kernel_rfl) (fuel1 (G := fun k (x : List (Int × Int)) => laws_toHoldS.g k x) run96)
def s74 : FSig := ⟨⟨[], [(0, (.agg (.acons (.rd 3 (.int .i64) []) (.acons (.rd 133 (.pair (.int .i64) (.int .i64)) []) (.acons (.rd 3 (.int .i64) []) .anil)))))]⟩, [], ⟨[.row 3 (.int .i64), .row 74 (.pair (.int .i64) (.int .i64)), .row 3 (.int .i64)], [(0, (.agg (.acons (.own 0) (.acons (.own 1) (.acons (.own 2) .anil)))))]⟩, []⟩
noncomputable def S74 : CSum := s74.sum 1 (fun (x : List Int × List (Int × Int) × List Int) => laws_toKeeper x.1 x.2.1 x.2.2)
noncomputable def c74 : Cfg := ⟨tab, ccOf [(21, S21), (96, S96)], 17, lpOf [], [], [], []⟩
theorem run74 (k : Nat) (x : List Int × List (Int × Int) × List Int) : runF c74 k s74 Try.f74.results.toList (Try.f74.body.getD .skip) x = laws_toKeeper x.1 x.2.1 x.2.2 := by kernel_rfl
theorem snd74 : CSnd Try.prog 74 S74 := fn_ok mix (c := c74) tab_ok (ccOf_ok (.cons snd21 (.cons snd96 .nil))) (fn := Try.f74) (cd := Try.f74.body.getD .skip) (by kernel_rfl) (by kernel_rfl) (by kernel_rfl) (by decide) (by kernel_rfl) (by kernel_rfl) (RGok_nil _) rfl (by kernel_rfl) (fuel0 run74)
def s41 : FSig := ⟨⟨[], [(0, (.rd 101 (.pair (.slice 3 (.int .i64)) (.pair (.slice 133 (.pair (.int .i64) (.int .i64))) (.slice 3 (.int .i64)))) []))]⟩, [], ⟨[.row 49 (.pair (.slice 3 (.int .i64)) (.pair (.slice 74 (.pair (.int .i64) (.int .i64))) (.slice 3 (.int .i64))))], [(0, (.own 0))]⟩, []⟩
noncomputable def S41 : CSum := s41.sum 1 (fun (x : List (List Int × List (Int × Int) × List Int)) => laws_toKeeperS x)
noncomputable def c41 : Cfg := ⟨tab, ccOf [(74, S74)], 23, lpOf [(0, ⟨[.row 49 (.pair (.slice 3 (.int .i64)) (.pair (.slice 74 (.pair (.int .i64) (.int .i64))) (.slice 3 (.int .i64))))], [(0, (.rd 101 (.pair (.slice 3 (.int .i64)) (.pair (.slice 133 (.pair (.int .i64) (.int .i64))) (.slice 3 (.int .i64)))) [])), (3, (.own 0)), (4, (.sc (.int .i64)))]⟩)], [], [], []⟩
theorem run41 (k : Nat) (x : List (List Int × List (Int × Int) × List Int)) : runF c41 k s41 Try.f41.results.toList (Try.f41.body.getD .skip) x = laws_toKeeperS.g k x := by kernel_rfl
theorem snd41 : CSnd Try.prog 41 S41 := fn_ok mix (c := c41) tab_ok (ccOf_ok (.cons snd74 .nil)) (fn := Try.f41) (cd := Try.f41.body.getD .skip) (by kernel_rfl) (by kernel_rfl) (by kernel_rfl) (by decide) (by kernel_rfl) (by kernel_rfl) (RGok_nil _) rfl (by kernel_rfl) (fuel1 (G := fun k (x : List (List Int × List (Int × Int) × List Int)) => laws_toKeeperS.g k x) run41)
def s75 : FSig := ⟨⟨[], [(0, (.agg (.acons (.sc (.int .i64)) (.acons (.sc (.int .i64)) (.acons (.sc (.int .i64)) (.acons (.sc (.int .i64)) .anil))))))]⟩, [], ⟨[], [(0, (.agg (.acons (.sc (.int .i64)) (.acons (.sc (.int .i64)) (.acons (.sc (.int .i64)) (.acons (.sc (.int .i64)) .anil))))))]⟩, []⟩
noncomputable def S75 : CSum := s75.sum 1 (fun (x : Int × Int × Int × Int) => laws_toSlip x.1 x.2.1 x.2.2.1 x.2.2.2)
noncomputable def c75 : Cfg := ⟨tab, ccOf [], 17, lpOf [], [], [], []⟩
theorem run75 (k : Nat) (x : Int × Int × Int × Int) : runF c75 k s75 Try.f75.results.toList (Try.f75.body.getD .skip) x = laws_toSlip x.1 x.2.1 x.2.2.1 x.2.2.2 := by kernel_rfl
theorem snd75 : CSnd Try.prog 75 S75 := fn_ok mix (c := c75) tab_ok (ccOf_ok (.nil)) (fn := Try.f75) (cd := Try.f75.body.getD .skip) (by kernel_rfl) (by kernel_rfl) (by kernel_rfl) (by decide) (by kernel_rfl) (by kernel_rfl) (RGok_nil _) rfl (by kernel_rfl) (fuel0 run75)
def s42 : FSig := ⟨⟨[], [(0, (.rd 106 (.pair (.int .i64) (.pair (.int .i64) (.pair (.int .i64) (.int .i64)))) []))]⟩, [], ⟨[.row 68 (.pair (.int .i64) (.pair (.int .i64) (.pair (.int .i64) (.int .i64))))], [(0, (.own 0))]⟩, []⟩
noncomputable def S42 : CSum := s42.sum 1 (fun (x : List (Int × Int × Int × Int)) => laws_toSlipS x)
noncomputable def c42 : Cfg := ⟨tab, ccOf [(75, S75)], 23, lpOf [(0, ⟨[.row 68 (.pair (.int .i64) (.pair (.int .i64) (.pair (.int .i64) (.int .i64))))], [(0, (.rd 106 (.pair (.int .i64) (.pair (.int .i64) (.pair (.int .i64) (.int .i64)))) [])), (3, (.own 0)), (4, (.sc (.int .i64)))]⟩)], [], [], []⟩
theorem run42 (k : Nat) (x : List (Int × Int × Int × Int)) : runF c42 k s42 Try.f42.results.toList (Try.f42.body.getD .skip) x = laws_toSlipS.g k x := by kernel_rfl
theorem snd42 : CSnd Try.prog 42 S42 := fn_ok mix (c := c42) tab_ok (ccOf_ok (.cons snd75 .nil)) (fn := Try.f42) (cd := Try.f42.body.getD .skip) (by kernel_rfl) (by kernel_rfl) (by kernel_rfl) (by decide) (by kernel_rfl) (by kernel_rfl) (RGok_nil _) rfl (by kernel_rfl) (fuel1 (G := fun k (x : List (Int × Int × Int × Int)) => laws_toSlipS.g k x) run42)
def s9 : FSig := ⟨⟨[], [(0, (.agg (.acons (.rd 3 (.int .i64) []) (.acons (.rd 101 (.pair (.slice 3 (.int .i64)) (.pair (.slice 133 (.pair (.int .i64) (.int .i64))) (.slice 3 (.int .i64)))) []) (.acons (.rd 106 (.pair (.int .i64) (.pair (.int .i64) (.pair (.int .i64) (.int .i64)))) []) (.acons (.rd 3 (.int .i64) []) .anil))))))]⟩, [], ⟨[.row 3 (.int .i64), .row 49 (.pair (.slice 3 (.int .i64)) (.pair (.slice 74 (.pair (.int .i64) (.int .i64))) (.slice 3 (.int .i64)))), .row 68 (.pair (.int .i64) (.pair (.int .i64) (.pair (.int .i64) (.int .i64)))), .row 3 (.int .i64)], [(0, (.agg (.acons (.own 0) (.acons (.own 1) (.acons (.own 2) (.acons (.own 3) .anil))))))]⟩, []⟩
noncomputable def S9 : CSum := s9.sum 1 (fun (x : List Int × List (List Int × List (Int × Int) × List Int) × List (Int × Int × Int × Int) × List Int) => laws_toCustody x.1 x.2.1 x.2.2.1 x.2.2.2)
noncomputable def c9 : Cfg := ⟨tab, ccOf [(21, S21), (41, S41), (42, S42)], 21, lpOf [], [], [], []⟩
theorem run9 (k : Nat) (x : List Int × List (List Int × List (Int × Int) × List Int) × List (Int × Int × Int × Int) × List Int) : runF c9 k s9 Try.f9.results.toList (Try.f9.body.getD .skip) x = laws_toCustody x.1 x.2.1 x.2.2.1 x.2.2.2 := by kernel_rfl
theorem snd9 : CSnd Try.prog 9 S9 := fn_ok mix (c := c9) tab_ok (ccOf_ok (.cons snd21 (.cons snd41 (.cons snd42 .nil)))) (fn := Try.f9) (cd := Try.f9.body.getD .skip) (by kernel_rfl) (by kernel_rfl) (by kernel_rfl) (by decide) (by kernel_rfl) (by kernel_rfl) (RGok_nil _) rfl (by kernel_rfl) (fuel0 run9)
def s48 : FSig := ⟨⟨[], [(0, (.sc (.int .i64))), (1, (.sc (.int .i64))), (2, (.sc (.int .i64)))]⟩, [], ⟨[], [(0, (.sc .bool))]⟩, []⟩
noncomputable def S48 : CSum := s48.sum 3 (fun (x : Int × Int × Int) => impl_within x.1 x.2.1 x.2.2)
noncomputable def c48 : Cfg := ⟨tab, ccOf [], 15, lpOf [], [], [], []⟩
theorem run48 (k : Nat) (x : Int × Int × Int) : runF c48 k s48 Try.f48.results.toList (Try.f48.body.getD .skip) x = impl_within x.1 x.2.1 x.2.2 := by kernel_rfl
theorem snd48 : CSnd Try.prog 48 S48 := fn_ok mix (c := c48) tab_ok (ccOf_ok (.nil)) (fn := Try.f48) (cd := Try.f48.body.getD .skip) (by kernel_rfl) (by kernel_rfl) (by kernel_rfl) (by decide) (by kernel_rfl) (by kernel_rfl) (RGok_nil _) rfl (by kernel_rfl) (fuel0 run48)
def s43 : FSig := ⟨⟨[], [(0, (.rd 3 (.int .i64) []))]⟩, [], ⟨[], [(0, (.sc .bool))]⟩, []⟩
noncomputable def S43 : CSum := s43.sum 1 (fun (x : List Int) => impl_isTree x)
noncomputable def c43 : Cfg := ⟨tab, ccOf [(48, S48)], 32, lpOf [(0, ⟨[], [(15, (.rd 3 (.int .i64) [])), (16, (.sc (.int .i64))), (17, (.sc (.int .i64)))]⟩)], [], [], []⟩
theorem run43 (k : Nat) (x : List Int) : runF c43 k s43 Try.f43.results.toList (Try.f43.body.getD .skip) x = impl_isTree.g k x := by kernel_rfl
theorem snd43 : CSnd Try.prog 43 S43 := fn_ok mix (c := c43) tab_ok (ccOf_ok (.cons snd48 .nil)) (fn := Try.f43) (cd := Try.f43.body.getD .skip) (by kernel_rfl) (by kernel_rfl) (by kernel_rfl) (by decide) (by kernel_rfl) (by kernel_rfl) (RGok_nil _) rfl (by kernel_rfl) (fuel1 (G := fun k (x : List Int) => impl_isTree.g k x) run43)
def s76 : FSig := ⟨⟨[], [(0, (.rd 3 (.int .i64) [])), (1, (.rd 3 (.int .i64) []))]⟩, [], ⟨[], [(0, (.sc .bool))]⟩, []⟩
noncomputable def S76 : CSum := s76.sum 2 (fun (x : List Int × List Int) => slices_Equal_int x.1 x.2)
noncomputable def c76 : Cfg := ⟨tab, ccOf [], 26, lpOf [(0, ⟨[], [(0, (.rd 3 (.int .i64) [])), (1, (.rd 3 (.int .i64) [])), (12, (.sc (.int .i64))), (13, (.sc (.int .i64)))]⟩)], [], [], []⟩
theorem run76 (k : Nat) (x : List Int × List Int) : runF c76 k s76 Try.f76.results.toList (Try.f76.body.getD .skip) x = slices_Equal_int.g k x.1 x.2 := by kernel_rfl
theorem snd76 : CSnd Try.prog 76 S76 := fn_ok mix (c := c76) tab_ok (ccOf_ok (.nil)) (fn := Try.f76) (cd := Try.f76.body.getD .skip) (by kernel_rfl) (by kernel_rfl) (by kernel_rfl) (by decide) (by kernel_rfl) (by kernel_rfl) (RGok_nil _) rfl (by kernel_rfl) (fuel1 (G := fun k (x : List Int × List Int) => slices_Equal_int.g k x.1 x.2) run76)
/-! ### what is sorted and held against another row -/
def Try.laysSorted_ren : Go.Shelf.Ren := ⟨fun | 6 => 77 | 8 => 97 | 9 => 98 | 11 => 108 | 13 => 110 | 12 => 109 | 23 => 123 | 24 => 124 | 14 => 114 | 15 => 115 | 16 => 116 | 17 => 117 | 18 => 118 | 19 => 119 | 20 => 120 | 21 => 121 | 22 => 122 | 25 => 133 | 26 => 134 | 27 => 135 | 28 => 136 | 29 => 137 | 30 => 138 | 31 => 142 | n => n, fun | 26 => 3 | 28 => 109 | 24 => 22 | 0 => 0 | 3 => 3 | 37 => 137 | 48 => 150 | 50 => 80 | 4 => 4 | 40 => 142 | 39 => 141 | 45 => 147 | 5 => 5 | 9 => 9 | 51 => 157 | 55 => 161 | 57 => 165 | 58 => 166 | 33 => 69 | n => n, fun | n => n⟩
theorem Try.laysSorted : Go.Proofs.SlLaysZI.n6 Try.prog Try.laysSorted_ren where
  mixed := by kernel_rfl
  f6 := ⟨"slices.Sorted[int]", by decide, Try.func77.trans (congrArg some (by kernel_rfl))⟩
  f8 := ⟨"slices.Collect[int]", by decide, Try.func97.trans (congrArg some (by kernel_rfl))⟩
  f11 := ⟨"slices.AppendSeq[[]int,int]", by decide, Try.func108.trans (congrArg some (by kernel_rfl))⟩
  t0 := Try.underlying0
  a0 := Try.isAgg0
  z0 := Try.sizeOf0
  v0 := Try.zeroValue0
  t24 := Try.underlying22
  a24 := Try.isAgg22
  z24 := Try.sizeOf22
  v24 := Try.zeroValue22
  t26 := Try.underlying3
  a26 := Try.isAgg3
  z26 := Try.sizeOf3
  v26 := Try.zeroValue3
  t28 := Try.underlying109
  a28 := Try.isAgg109
  z28 := Try.sizeOf109
  v28 := Try.zeroValue109
  i26 := by kernel_rfl

def Try.laysSort_ren : Go.Shelf.Ren := ⟨fun | 189 => 98 | 125 => 110 | 257 => 109 | 128 => 123 | 129 => 124 | 294 => 114 | 295 => 115 | 296 => 116 | 297 => 117 | 298 => 118 | 299 => 119 | 216 => 120 | 300 => 121 | 301 => 122 | 328 => 133 | 329 => 134 | 330 => 135 | 331 => 136 | 332 => 137 | 215 => 138 | 343 => 142 | n => n, fun | 28 => 22 | 3 => 3 | 46 => 137 | 0 => 0 | 51 => 150 | 53 => 80 | 4 => 4 | 183 => 142 | 182 => 141 | 131 => 147 | 5 => 5 | 9 => 9 | 218 => 157 | 222 => 161 | 228 => 165 | 229 => 166 | n => n, fun | n => n⟩
theorem Try.laysSort : Go.Proofs.Lays.n189 Try.prog Try.laysSort_ren where
  mixed := by kernel_rfl
  f125 := Try.func110.trans (congrArg some (by kernel_rfl))
  f128 := Try.func123.trans (congrArg some (by kernel_rfl))
  f129 := Try.func124.trans (congrArg some (by kernel_rfl))
  f189 := Try.func98.trans (congrArg some (by kernel_rfl))
  f215 := Try.func138.trans (congrArg some (by kernel_rfl))
  f216 := Try.func120.trans (congrArg some (by kernel_rfl))
  f257 := Try.func109.trans (congrArg some (by kernel_rfl))
  f294 := Try.func114.trans (congrArg some (by kernel_rfl))
  f295 := Try.func115.trans (congrArg some (by kernel_rfl))
  f296 := Try.func116.trans (congrArg some (by kernel_rfl))
  f297 := Try.func117.trans (congrArg some (by kernel_rfl))
  f298 := Try.func118.trans (congrArg some (by kernel_rfl))
  f299 := Try.func119.trans (congrArg some (by kernel_rfl))
  f300 := Try.func121.trans (congrArg some (by kernel_rfl))
  f301 := Try.func122.trans (congrArg some (by kernel_rfl))
  f328 := Try.func133.trans (congrArg some (by kernel_rfl))
  f329 := Try.func134.trans (congrArg some (by kernel_rfl))
  f330 := Try.func135.trans (congrArg some (by kernel_rfl))
  f331 := Try.func136.trans (congrArg some (by kernel_rfl))
  f332 := Try.func137.trans (congrArg some (by kernel_rfl))
  f343 := Try.func142.trans (congrArg some (by kernel_rfl))
  t0 := Try.underlying0
  a0 := Try.isAgg0
  z0 := Try.sizeOf0
  v0 := Try.zeroValue0
  t3 := Try.underlying3
  a3 := Try.isAgg3
  z3 := Try.sizeOf3
  v3 := Try.zeroValue3
  t4 := Try.underlying4
  a4 := Try.isAgg4
  z4 := Try.sizeOf4
  v4 := Try.zeroValue4
  t5 := Try.underlying5
  a5 := Try.isAgg5
  z5 := Try.sizeOf5
  v5 := Try.zeroValue5
  t9 := Try.underlying9
  a9 := Try.isAgg9
  z9 := Try.sizeOf9
  v9 := Try.zeroValue9
  t28 := Try.underlying22
  a28 := Try.isAgg22
  z28 := Try.sizeOf22
  v28 := Try.zeroValue22
  t46 := Try.underlying137
  a46 := Try.isAgg137
  z46 := Try.sizeOf137
  v46 := Try.zeroValue137
  t51 := Try.underlying150
  a51 := Try.isAgg150
  z51 := Try.sizeOf150
  v51 := Try.zeroValue150
  t53 := Try.underlying80
  a53 := Try.isAgg80
  z53 := Try.sizeOf80
  v53 := Try.zeroValue80
  t131 := Try.underlying147
  a131 := Try.isAgg147
  z131 := Try.sizeOf147
  v131 := Try.zeroValue147
  t182 := Try.underlying141
  a182 := Try.isAgg141
  z182 := Try.sizeOf141
  v182 := Try.zeroValue141
  t183 := Try.underlying142
  a183 := Try.isAgg142
  z183 := Try.sizeOf142
  v183 := Try.zeroValue142
  t218 := Try.underlying157
  a218 := Try.isAgg157
  z218 := Try.sizeOf157
  v218 := Try.zeroValue157
  t222 := Try.underlying161
  a222 := Try.isAgg161
  z222 := Try.sizeOf161
  v222 := Try.zeroValue161
  t228 := Try.underlying165
  a228 := Try.isAgg165
  z228 := Try.sizeOf165
  v228 := Try.zeroValue165
  t229 := Try.underlying166
  a229 := Try.isAgg166
  z229 := Try.sizeOf166
  v229 := Try.zeroValue166

theorem sameB_sorts (m : Nat) : Go.Proofs.AnyZI.SortsIn Try.prog Try.laysSorted_ren Fence.wide m :=
  ⟨fun blk off cap ss W hH hblk hsz => callsIn_wide.2 (Go.Proofs.Any.slices_Sort_int Try.laysSort blk off cap ss W hH hblk hsz),
   fun p cap W => callsIn_wide.2 (Go.Proofs.Any.slices_Sort_int_none Try.laysSort p cap W)⟩
set_option maxRecDepth 100000 in
set_option maxHeartbeats 4000000 in
theorem sameB_values1 (n : Nat) (hn : 1 ≤ n) (l Bs n₀ len cap : Nat) (A : Option Addr) (zs : List Int) (hl : zs.length = len) (hreach : len ≤ 10000000) (J : List Int → World → Prop)
    (hY : ∀ pre x W, J pre W → pre.length < len → YieldAt Fence.wide (n - 1) Try.prog l #[.int .i64 x] W fun e W' => e = .returned (.bool true) ∧ J (pre ++ [x]) W' ∧ KeepsWalks W W')
    (W : World) (hJB : ∀ pre W1, J pre W1 → ∀ k, k < n₀ → W1.heap[k]? = W.heap[k]?) (hBs : W.cell? ⟨Bs, 0, none⟩ = some (.slice A len cap)) (hc : ∀ j, j < len → ∃ a, A = some a ∧ a.block < n₀ ∧ W.cell? (a.add j) = some (.int .i64 (zs[j]?.getD 0))) (h0 : J [] W) :
    CallsIn Fence.wide n Try.prog 99 #[.func (.yield l) #[] #[], .pointer (some ⟨Bs, 0, none⟩)] W fun e W' => (∃ v, e = .returned v) ∧ ∃ xs, xs = zs ∧ J xs W' := by
  refine callsIn_of_wp Try.func99 rfl trivial ?_ rfl
  simp only [Try.ntmps99, List.size_toArray, List.length_cons, List.length_nil, Nat.reduceAdd, Nat.reduceSub, Array.replicate_succ, Array.replicate_zero, List.push_toArray, List.append_toArray, List.nil_append, List.cons_append]
  gi_wp2
  gi_loopw [7] (fun i wr => ∃ k : Nat, k ≤ len ∧ i = .int .i64 k ∧ J (zs.take k) wr ∧ ∀ k, k < n₀ → wr.heap[k]? = W.heap[k]?)
    (fun i _ => len - (sqI i).toNat)
  case atStart => exact ⟨0, Nat.zero_le _, rfl, h0, fun _ _ => rfl⟩
  case round =>
    obtain ⟨k, hk, rfl, hJs, hnx⟩ := hrel
    by_cases hlt : k < len
    · obtain ⟨a, rfl, hb, hck⟩ := hc k hlt
      have hcx' : wr.cell? (a.add k) = some (.int .i64 (zs[k]?.getD 0)) := (World.cell?_of_block (w := W) (by rw [add_block]; exact hnx _ hb)).trans hck
      have htk : zs.take k ++ [zs[k]?.getD 0] = zs.take (k + 1) := by
        have hk2 : k < zs.length := by omega
        rw [List.take_succ_eq_append_getElem hk2, List.getElem?_eq_getElem hk2]
        rfl
      generalize zs[k]?.getD 0 = x at hcx' htk
      clear hck
      obtain ⟨fn, tmps, assign, body, hy, hR⟩ := hY _ x wr hJs (by rw [List.length_take]; omega)
      gi_wp2
      refine hR.mono ?_
      rintro e W3 ⟨rfl, hJ3, hk3⟩
      rw [htk] at hJ3
      gi_wp2
      go_roundw
      case rel => exact ⟨k + 1, by omega, by simp, hJ3, hJB _ _ hJ3⟩
      case measure => simp [sqI]; omega
    · obtain rfl : k = len := by omega
      gi_wp2
      go_end0
      rw [List.take_of_length_le (by omega)] at hJs
      exact ⟨⟨_, rfl⟩, _, rfl, hJs⟩
set_option maxHeartbeats 1000000 in
theorem sameB_values (n : Nat) (a : Option Addr) (len cap : Nat) (w : World) :
    CallsIn Fence.wide n Try.prog 78 #[.slice a len cap] w fun e w' => e = .returned (.func (.func 99) #[] #[.pointer (some ⟨w.heap.size, 0, none⟩)]) ∧ w' = w.alloc (.cells #[.slice a len cap] 22) := by
  refine callsIn_of_wp Try.func78 rfl trivial ?_ rfl
  simp only [Try.ntmps78, List.size_toArray, List.length_cons, List.length_nil, Nat.reduceAdd, Nat.reduceSub, Array.replicate_succ, Array.replicate_zero, List.push_toArray, List.append_toArray, List.nil_append, List.cons_append]
  gi_wp2
  go_ret
  exact ⟨rfl, rfl⟩
theorem sameB_eqrun {xs ys : List Int} (K : Nat) (hl : xs.length = ys.length) (hb : xs.length ≤ 10000000) : ∀ (n i : Nat), i ≤ xs.length → xs.length - i < n → iter (slices_Equal_int.s0 K) n (xs, ys, (xs.length : Int), (i : Int)) = some (xs.drop i == ys.drop i)
  | 0, i, _, h => absurd h (Nat.not_lt_zero _)
  | n + 1, i, hi, h => by
    rw [iter]
    have ih' := fun h1 h2 => sameB_eqrun K hl hb n (i + 1) h1 h2
    generalize iter (slices_Equal_int.s0 K) n = rec at ih' ⊢
    unfold slices_Equal_int.s0
    simp only []
    by_cases hlt : i < xs.length
    · have hd : decide ((i : Int) < (xs.length : Int)) = true := decide_eq_true (by omega)
      have h0 : decide (0 ≤ (i : Int)) = true := decide_eq_true (by omega)
      have hd2 : decide ((i : Int) < (ys.length : Int)) = true := decide_eq_true (by omega)
      have e1 : rdOf 0 xs (i : Int) = xs[i] := by unfold rdOf; rw [List.getD_eq_getElem?_getD, Int.toNat_natCast, List.getElem?_eq_getElem hlt]; rfl
      have e2 : rdOf 0 ys (i : Int) = ys[i] := by unfold rdOf; rw [List.getD_eq_getElem?_getD, Int.toNat_natCast, List.getElem?_eq_getElem (by omega)]; rfl
      have e3 : w64 ((i : Int) + 1) = ((i + 1 : Nat) : Int) := by
        show IntKind.i64.wrap _ = _
        rw [IntKind.wrap_i64]
        omega
      have ih := ih' (by omega) (by omega)
      rw [List.drop_eq_getElem_cons hlt, List.drop_eq_getElem_cons (show i < ys.length by omega)]
      simp only [hd, hd2, h0, e1, e2, e3, ih, cond_true, grd]
      cases he : (xs[i] == ys[i]) with
      | true =>
        have : (xs[i] != ys[i]) = false := by unfold bne; rw [he]; rfl
        rw [this, cond_false, List.cons_beq_cons, he, Bool.true_and]
      | false =>
        have : (xs[i] != ys[i]) = true := by unfold bne; rw [he]; rfl
        rw [this, cond_true, List.cons_beq_cons, he, Bool.false_and]
    · have hd : decide ((i : Int) < (xs.length : Int)) = false := decide_eq_false (by omega)
      rw [hd, cond_false, List.drop_of_length_le (by omega), List.drop_of_length_le (by omega)]
      rfl
theorem sameB_eq (xs ys : List Int) (hb : xs.length ≤ 10000000) : slices_Equal_int xs ys = some (xs == ys) := by
  refine lim_eq (xs.length + 1) fun k hk => ?_
  unfold slices_Equal_int.g
  by_cases hl : xs.length = ys.length
  · have : ((xs.length : Int) != (ys.length : Int)) = false := by rw [hl]; simp
    rw [this, cond_false]
    exact sameB_eqrun k hl hb k 0 (Nat.zero_le _) (by omega)
  · have h1 : ((xs.length : Int) != (ys.length : Int)) = true := by
      have : (xs.length : Int) ≠ ys.length := by omega
      simpa using this
    have h2 : (xs == ys) = false := by
      cases hx : (xs == ys) with
      | false => rfl
      | true => exact absurd (congrArg List.length (eq_of_beq hx)) hl
    rw [h1, cond_true, h2]
theorem sameB_equal (A B : Option Addr) (c d : Nat) (xs ys : List Int) (w : World) (hb : xs.length ≤ 10000000) (h1 : (Ty.int .i64).kd.C w A xs.length xs) (h2 : (Ty.int .i64).kd.C w B ys.length ys) (hc : xs.length ≤ c) (hd : ys.length ≤ d) :
    Calls Try.prog 76 #[.slice A xs.length c, .slice B ys.length d] w fun e w' => e = .returned (.bool (xs == ys)) ∧ Below w.heap.size w w' := by
  have hh : Kd.Heap (Ty.int .i64).kd := Kd.heap_scalar (h1 := fun _ => rfl)
  have hv : vsAll sqE sqL w [.rd 3 (.int .i64) xs [], .rd 3 (.int .i64) ys []] [.slice A xs.length c, .slice B ys.length d] := ⟨_, _, rfl, sq_rd hh h1 hc, _, _, rfl, sq_rd hh h2 hd, rfl⟩
  refine (sq_sum (s := s76) snd76 hv (xs, ys) (xs == ys) (av := .sc .bool (xs == ys)) (ups := []) (by kernel_rfl) (by kernel_rfl) (by kernel_rfl) (sameB_eq xs ys hb)).mono ?_
  rintro en w' ⟨v, E', rfl, ht, hv', _, g1, g2, g3⟩
  unfold vOk at hv'
  have hv' : v = .bool (xs == ys) := hv'
  exact ⟨by rw [hv'], ⟨g1, g2, g3, ht.size, fun k hk => (ht.froz k hk rfl).2.1⟩⟩
set_option maxRecDepth 100000 in
set_option maxHeartbeats 4000000 in
theorem same44_walk (A B : Option Addr) (c d : Nat) (xs ys : List Int) (ok ok' : Nat → Prop) (w : World) (hl : xs.length ≤ 10000000) (hc : xs.length ≤ c) (hd : ys.length ≤ d) (hF : Kd.F (Ty.int .i64).kd w ok A xs.length xs) (hG : Kd.F (Ty.int .i64).kd w ok' B ys.length ys) :
    Calls Try.prog 44 #[.slice A xs.length c, .slice B ys.length d] w (fun en w' => en = .returned (.bool (sortI xs == ys)) ∧ w.grownBy w' none) := by
  refine (callsIn_wide (n := 8)).1 ?_
  have hF1 := Kd.F_alloc hF (.cells #[.slice A xs.length c] 22)
  have hseq : SeqB Fence.wide 4 Try.prog 99 #[.pointer (some ⟨w.heap.size, 0, none⟩)] xs xs.length (w.alloc (.cells #[.slice A xs.length c] 22)) := by
    intro l J W hW hA hJB hY h0
    refine sameB_values1 4 (by omega) l w.heap.size (w.alloc (.cells #[.slice A xs.length c] 22)).heap.size xs.length c A xs rfl hl J (fun pre x W1 hJ hlen => hY pre x W1 hJ hlen) W (fun pre W1 hJ => ?_) ?_ (fun j hj => ?_) h0
    · have h2 := hJB pre W1 hJ
      have h3 := hJB [] W h0
      exact fun k hk => (h2.block k hk).trans (h3.block k hk).symm
    · rw [hW.cell (p := ⟨w.heap.size, 0, none⟩) (by simp)]
      simp
    · obtain ⟨a, cs, ea, hcl, hK, hcc, _⟩ := Kd.F_get hF1 0 (j : Int) (by omega) (by omega)
      have hK0 : cs = [.int .i64 (xs.getD (j : Int).toNat 0)] := Kd.FK_now hK
      have h4 := hcc 0 _ (by rw [hK0]; rfl)
      have h5 : (w.alloc (.cells #[.slice A xs.length c] 22)).cell? (a.add j) = some (.int .i64 (xs[j]?.getD 0)) := by
        rw [Int.toNat_natCast, List.getD_eq_getElem?_getD] at h4
        simpa [Ty.kd, Kd.int, Kd.scalar] using h4
      have h6 := World.block_lt_of_cell? _ _ h5
      rw [add_block] at h6
      exact ⟨a, ea, h6, (hW.cell (p := a.add j) (by rw [add_block]; exact h6)).trans h5⟩
  have cV := sameB_values 7 A xs.length c w
  have cS := sortedB Try.laysSorted Fence.wide 7 trivial trivial trivial trivial rfl (by omega) (sameB_sorts _) (enters_of Try.func98 (by kernel_rfl) rfl) 99 #[.pointer (some ⟨w.heap.size, 0, none⟩)] trivial (enters_of Try.func99 (by kernel_rfl) rfl) xs xs.length (Nat.le_refl _) (by simp only [maxLen]; omega) (by omega) _ hseq
  change CallsIn _ _ Try.prog 77 _ _ _ at cS
  have cS2 : CallsIn Fence.wide 7 Try.prog 77 #[.func (.func 99) #[] #[.pointer (some ⟨w.heap.size, 0, none⟩)]] (w.alloc (.cells #[.slice A xs.length c] 22)) (fun e w' => ∃ (ms : List Int) (A2 : Option Addr) (c2 : Nat), e = .returned (.slice A2 ms.length c2) ∧ sortI xs = ms ∧ ms.length = xs.length ∧ ms.length ≤ c2 ∧ (Ty.int .i64).kd.C w' A2 ms.length ms ∧ Below (w.alloc (.cells #[.slice A xs.length c] 22)).heap.size (w.alloc (.cells #[.slice A xs.length c] 22)) w') := by
    refine cS.mono ?_
    rintro e w1 ⟨v, ss, rfl, hss, hrow, hnil, hb⟩
    rw [hss] at hrow
    obtain ⟨ms, hms⟩ : ∃ ms, xs.mergeSort (fun x y => decide (x ≤ y)) = ms := ⟨_, rfl⟩
    have hlen : ms.length = xs.length := by rw [← hms]; exact List.length_mergeSort _
    rw [hms] at hrow
    have hR : (Ty.int .i64).kd.R 3 w1 (w.alloc (.cells #[.slice A xs.length c] 22)).heap.size (fun _ => True) v ms := Kd.R_of_own (h1 := fun _ => rfl) (by rw [hlen]; exact hrow) (fun _ _ => trivial)
    obtain ⟨A2, c2, rfl, hc2, hC2⟩ := Kd.R_reads hR
    exact ⟨ms, A2, c2, rfl, hms, hlen, hc2, hC2, hb⟩
  have hG1 := Kd.F_alloc hG (.cells #[.slice A xs.length c] 22)
  have HG := Aside0.mk hG1
  have HL := Aside0.mk hl
  have HD := Aside0.mk hd
  clear cS hseq hF1 hG1 hF hG hl hd hc
  have hf1 : Fence.wide.fn 78 := trivial
  have hf2 : Fence.wide.fn 77 := trivial
  have hf3 : Fence.wide.fn 76 := trivial
  refine callsIn_of_wp Try.func44 rfl trivial ?_ rfl
  simp only [Try.ntmps44, List.size_toArray, List.length_cons, List.length_nil, Nat.reduceAdd, Nat.reduceSub, Array.replicate_succ, Array.replicate_zero, List.push_toArray, List.append_toArray, List.nil_append, List.cons_append]
  gi_wp2_with (first
    | (gi_at_call 78; refine cV.mono ?_; rintro e w' ⟨rfl, rfl⟩)
    | (gi_at_call 77; go_loud (refine cS2.mono ?_; rintro e w1 ⟨ms, A2, c2, rfl, hms, hlen, hc2, hC2, hb⟩; have cE := (callsIn_wide (n := 7)).2 (sameB_equal A2 B c2 d ms ys w1 (by rw [hlen]; exact HL.out) hC2 (Kd.F_now (Kd.F_below HG.out hb)) hc2 HD.out); have HMS := Aside0.mk hms; have HB := Aside0.mk hb; clear hms hlen hc2 hC2 hb cS2))
    | (gi_at_call 76; go_loud (refine cE.mono ?_; rintro e w2 ⟨rfl, hb2⟩)))
  go_ret
  have h0 : Below w.heap.size w w2 := (((Below.refl _ w).alloc (Nat.le_refl _) _).trans (HB.out.mono (by simp))).trans (hb2.mono (by have := HB.out.size; simp at this; omega))
  exact ⟨by have h9 := HMS.out; subst h9; rfl, h0.os, h0.tape, h0.output, h0.size, fun k hk _ => h0.block k hk⟩
noncomputable def S44 : CSum := sameS 3
theorem snd44 : CSnd Try.prog 44 S44 := same_snd (fun args w => enter_fn (fn := Try.f44) (by kernel_rfl) (by kernel_rfl) (by kernel_rfl) args w) same44_walk

def s45 : FSig := ⟨⟨[], [(0, (.rd 3 (.int .i64) [])), (1, (.sc (.int .i64)))]⟩, [], ⟨[], [(0, (.sc .bool))]⟩, []⟩
noncomputable def S45 : CSum := s45.sum 2 (fun (x : List Int × Int) => impl_rise x.1 x.2)
noncomputable def c45 : Cfg := ⟨tab, ccOf [], 35, lpOf [(0, ⟨[], [(0, (.rd 3 (.int .i64) [])), (1, (.sc (.int .i64))), (7, (.rd 3 (.int .i64) [])), (8, (.sc (.int .i64))), (9, (.sc (.int .i64)))]⟩)], [], [], []⟩
theorem run45 (k : Nat) (x : List Int × Int) : runF c45 k s45 Try.f45.results.toList (Try.f45.body.getD .skip) x = impl_rise.g k x.1 x.2 := by kernel_rfl
theorem snd45 : CSnd Try.prog 45 S45 := fn_ok mix (c := c45) tab_ok (ccOf_ok (.nil)) (fn := Try.f45) (cd := Try.f45.body.getD .skip) (by kernel_rfl) (by kernel_rfl) (by kernel_rfl) (by decide) (by kernel_rfl) (by kernel_rfl) (RGok_nil _) rfl (by kernel_rfl) (fuel1 (G := fun k (x : List Int × Int) => impl_rise.g k x.1 x.2) run45)
def s46 : FSig := ⟨⟨[], [(0, (.agg (.acons (.sc (.int .i64)) (.acons (.sc (.int .i64)) .anil)))), (1, (.agg (.acons (.sc (.int .i64)) (.acons (.sc (.int .i64)) .anil))))]⟩, [], ⟨[], [(0, (.sc (.int .i64)))]⟩, []⟩
noncomputable def S46 : CSum := s46.sum 2 (fun (x : Int × Int × Int × Int) => impl_ordered x.1 x.2.1 x.2.2.1 x.2.2.2)
noncomputable def c46 : Cfg := ⟨tab, ccOf [], 20, lpOf [], [], [], []⟩
theorem run46 (k : Nat) (x : Int × Int × Int × Int) : runF c46 k s46 Try.f46.results.toList (Try.f46.body.getD .skip) x = impl_ordered x.1 x.2.1 x.2.2.1 x.2.2.2 := by kernel_rfl
theorem snd46 : CSnd Try.prog 46 S46 := fn_ok mix (c := c46) tab_ok (ccOf_ok (.nil)) (fn := Try.f46) (cd := Try.f46.body.getD .skip) (by kernel_rfl) (by kernel_rfl) (by kernel_rfl) (by decide) (by kernel_rfl) (by kernel_rfl) (RGok_nil _) rfl (by kernel_rfl) (fuel0 run46)
def s79 : FSig := ⟨⟨[], [(0, (.rd 3 (.int .i64) [])), (1, (.sc (.int .i64)))]⟩, [], ⟨[], [(0, (.sc (.int .i64)))]⟩, []⟩
noncomputable def S79 : CSum := s79.sum 2 (fun (x : List Int × Int) => slices_Index_int x.1 x.2)
noncomputable def c79 : Cfg := ⟨tab, ccOf [], 19, lpOf [(0, ⟨[], [(0, (.rd 3 (.int .i64) [])), (1, (.sc (.int .i64))), (7, (.sc (.int .i64))), (8, (.sc (.int .i64)))]⟩)], [], [], []⟩
theorem run79 (k : Nat) (x : List Int × Int) : runF c79 k s79 Try.f79.results.toList (Try.f79.body.getD .skip) x = slices_Index_int.g k x.1 x.2 := by kernel_rfl
theorem snd79 : CSnd Try.prog 79 S79 := fn_ok mix (c := c79) tab_ok (ccOf_ok (.nil)) (fn := Try.f79) (cd := Try.f79.body.getD .skip) (by kernel_rfl) (by kernel_rfl) (by kernel_rfl) (by decide) (by kernel_rfl) (by kernel_rfl) (RGok_nil _) rfl (by kernel_rfl) (fuel1 (G := fun k (x : List Int × Int) => slices_Index_int.g k x.1 x.2) run79)
def s47 : FSig := ⟨⟨[], [(0, (.rd 3 (.int .i64) [])), (1, (.sc (.int .i64)))]⟩, [], ⟨[], [(0, (.sc .bool))]⟩, []⟩
noncomputable def S47 : CSum := s47.sum 2 (fun (x : List Int × Int) => slices_Contains_int x.1 x.2)
noncomputable def c47 : Cfg := ⟨tab, ccOf [(79, S79)], 9, lpOf [], [], [], []⟩
theorem run47 (k : Nat) (x : List Int × Int) : runF c47 k s47 Try.f47.results.toList (Try.f47.body.getD .skip) x = slices_Contains_int x.1 x.2 := by kernel_rfl
theorem snd47 : CSnd Try.prog 47 S47 := fn_ok mix (c := c47) tab_ok (ccOf_ok (.cons snd79 .nil)) (fn := Try.f47) (cd := Try.f47.body.getD .skip) (by kernel_rfl) (by kernel_rfl) (by kernel_rfl) (by decide) (by kernel_rfl) (by kernel_rfl) (RGok_nil _) rfl (by kernel_rfl) (fuel0 run47)
def s80 : FSig := ⟨⟨[], [(0, (.rd 74 (.pair (.int .i64) (.int .i64)) [])), (1, (.agg (.acons (.sc (.int .i64)) (.acons (.sc (.int .i64)) .anil))))]⟩, [], ⟨[], [(0, (.sc (.int .i64)))]⟩, []⟩
noncomputable def S80 : CSum := s80.sum 2 (fun (x : List (Int × Int) × Int × Int) => slices_Index_Hold x.1 x.2.1 x.2.2)
noncomputable def c80 : Cfg := ⟨tab, ccOf [], 19, lpOf [(0, ⟨[.box 74 (.acons (.sc (.int .i64)) (.acons (.sc (.int .i64)) .anil))], [(0, (.rd 74 (.pair (.int .i64) (.int .i64)) [])), (3, (.ptr 0 0)), (7, (.sc (.int .i64))), (8, (.sc (.int .i64)))]⟩)], [], [], []⟩
theorem run80 (k : Nat) (x : List (Int × Int) × Int × Int) : runF c80 k s80 Try.f80.results.toList (Try.f80.body.getD .skip) x = slices_Index_Hold.g k x.1 x.2.1 x.2.2 := by kernel_rfl
theorem snd80 : CSnd Try.prog 80 S80 := fn_ok mix (c := c80) tab_ok (ccOf_ok (.nil)) (fn := Try.f80) (cd := Try.f80.body.getD .skip) (by kernel_rfl) (by kernel_rfl) (by kernel_rfl) (by decide) (by kernel_rfl) (by kernel_rfl) (RGok_nil _) rfl (by kernel_rfl) (fuel1 (G := fun k (x : List (Int × Int) × Int × Int) => slices_Index_Hold.g k x.1 x.2.1 x.2.2) run80)
def s49 : FSig := ⟨⟨[], [(0, (.rd 74 (.pair (.int .i64) (.int .i64)) [])), (1, (.agg (.acons (.sc (.int .i64)) (.acons (.sc (.int .i64)) .anil))))]⟩, [], ⟨[], [(0, (.sc .bool))]⟩, []⟩
noncomputable def S49 : CSum := s49.sum 2 (fun (x : List (Int × Int) × Int × Int) => slices_Contains_Hold x.1 x.2.1 x.2.2)
noncomputable def c49 : Cfg := ⟨tab, ccOf [(80, S80)], 9, lpOf [], [], [], []⟩
theorem run49 (k : Nat) (x : List (Int × Int) × Int × Int) : runF c49 k s49 Try.f49.results.toList (Try.f49.body.getD .skip) x = slices_Contains_Hold x.1 x.2.1 x.2.2 := by kernel_rfl
theorem snd49 : CSnd Try.prog 49 S49 := fn_ok mix (c := c49) tab_ok (ccOf_ok (.cons snd80 .nil)) (fn := Try.f49) (cd := Try.f49.body.getD .skip) (by kernel_rfl) (by kernel_rfl) (by kernel_rfl) (by decide) (by kernel_rfl) (by kernel_rfl) (RGok_nil _) rfl (by kernel_rfl) (fuel0 run49)
def s10 : FSig := ⟨⟨[], [(0, (.agg (.acons (.rd 3 (.int .i64) []) (.acons (.rd 49 (.pair (.slice 3 (.int .i64)) (.pair (.slice 74 (.pair (.int .i64) (.int .i64))) (.slice 3 (.int .i64)))) []) (.acons (.rd 68 (.pair (.int .i64) (.pair (.int .i64) (.pair (.int .i64) (.int .i64)))) []) (.acons (.rd 3 (.int .i64) []) .anil))))))]⟩, [], ⟨[], [(0, (.sc .bool))]⟩, []⟩
noncomputable def S10 : CSum := s10.sum 1 (fun (x : List Int × List (List Int × List (Int × Int) × List Int) × List (Int × Int × Int × Int) × List Int) => impl_GoodCustody x.1 x.2.1 x.2.2.1 x.2.2.2)
noncomputable def c10 : Cfg := ⟨tab, ccOf [(43, S43), (44, S44), (45, S45), (46, S46), (47, S47), (48, S48), (49, S49)], 224, lpOf [(0, ⟨[.box 32 (.acons (.rd 3 (.int .i64) []) (.acons (.rd 49 (.pair (.slice 3 (.int .i64)) (.pair (.slice 74 (.pair (.int .i64) (.int .i64))) (.slice 3 (.int .i64)))) []) (.acons (.rd 68 (.pair (.int .i64) (.pair (.int .i64) (.pair (.int .i64) (.int .i64)))) []) (.acons (.rd 3 (.int .i64) []) .anil))))], [(1, (.ptr 0 0)), (45, (.rd 49 (.pair (.slice 3 (.int .i64)) (.pair (.slice 74 (.pair (.int .i64) (.int .i64))) (.slice 3 (.int .i64)))) [])), (46, (.sc (.int .i64))), (47, (.sc (.int .i64)))]⟩), (2, ⟨[.box 32 (.acons (.rd 3 (.int .i64) []) (.acons (.rd 49 (.pair (.slice 3 (.int .i64)) (.pair (.slice 74 (.pair (.int .i64) (.int .i64))) (.slice 3 (.int .i64)))) []) (.acons (.rd 68 (.pair (.int .i64) (.pair (.int .i64) (.pair (.int .i64) (.int .i64)))) []) (.acons (.rd 3 (.int .i64) []) .anil)))), .box 49 (.acons (.rd 3 (.int .i64) []) (.acons (.rd 74 (.pair (.int .i64) (.int .i64)) []) (.acons (.rd 3 (.int .i64) []) .anil)))], [(1, (.ptr 0 0)), (3, (.sc (.int .i64))), (4, (.ptr 1 0)), (45, (.rd 49 (.pair (.slice 3 (.int .i64)) (.pair (.slice 74 (.pair (.int .i64) (.int .i64))) (.slice 3 (.int .i64)))) [])), (46, (.sc (.int .i64))), (47, (.sc (.int .i64))), (57, (.ptr 1 2)), (58, (.rd 3 (.int .i64) [])), (59, (.ptr 1 0)), (60, (.rd 3 (.int .i64) [])), (61, (.sc .bool)), (62, (.sc .bool)), (65, (.rd 74 (.pair (.int .i64) (.int .i64)) [])), (66, (.sc (.int .i64))), (67, (.sc (.int .i64)))]⟩), (4, ⟨[.box 32 (.acons (.rd 3 (.int .i64) []) (.acons (.rd 49 (.pair (.slice 3 (.int .i64)) (.pair (.slice 74 (.pair (.int .i64) (.int .i64))) (.slice 3 (.int .i64)))) []) (.acons (.rd 68 (.pair (.int .i64) (.pair (.int .i64) (.pair (.int .i64) (.int .i64)))) []) (.acons (.rd 3 (.int .i64) []) .anil)))), .box 49 (.acons (.rd 3 (.int .i64) []) (.acons (.rd 74 (.pair (.int .i64) (.int .i64)) []) (.acons (.rd 3 (.int .i64) []) .anil))), .box 49 (.acons (.rd 3 (.int .i64) []) (.acons (.rd 74 (.pair (.int .i64) (.int .i64)) []) (.acons (.rd 3 (.int .i64) []) .anil)))], [(1, (.ptr 0 0)), (3, (.sc (.int .i64))), (4, (.ptr 1 0)), (7, (.ptr 2 0)), (45, (.rd 49 (.pair (.slice 3 (.int .i64)) (.pair (.slice 74 (.pair (.int .i64) (.int .i64))) (.slice 3 (.int .i64)))) [])), (46, (.sc (.int .i64))), (47, (.sc (.int .i64))), (57, (.ptr 1 2)), (58, (.rd 3 (.int .i64) [])), (59, (.ptr 1 0)), (60, (.rd 3 (.int .i64) [])), (61, (.sc .bool)), (62, (.sc .bool)), (126, (.rd 3 (.int .i64) [])), (127, (.sc (.int .i64))), (128, (.sc (.int .i64)))]⟩), (6, ⟨[.box 32 (.acons (.rd 3 (.int .i64) []) (.acons (.rd 49 (.pair (.slice 3 (.int .i64)) (.pair (.slice 74 (.pair (.int .i64) (.int .i64))) (.slice 3 (.int .i64)))) []) (.acons (.rd 68 (.pair (.int .i64) (.pair (.int .i64) (.pair (.int .i64) (.int .i64)))) []) (.acons (.rd 3 (.int .i64) []) .anil)))), .box 49 (.acons (.rd 3 (.int .i64) []) (.acons (.rd 74 (.pair (.int .i64) (.int .i64)) []) (.acons (.rd 3 (.int .i64) []) .anil))), .box 49 (.acons (.rd 3 (.int .i64) []) (.acons (.rd 74 (.pair (.int .i64) (.int .i64)) []) (.acons (.rd 3 (.int .i64) []) .anil)))], [(1, (.ptr 0 0)), (3, (.sc (.int .i64))), (4, (.ptr 1 0)), (7, (.ptr 2 0)), (45, (.rd 49 (.pair (.slice 3 (.int .i64)) (.pair (.slice 74 (.pair (.int .i64) (.int .i64))) (.slice 3 (.int .i64)))) [])), (46, (.sc (.int .i64))), (47, (.sc (.int .i64))), (57, (.ptr 1 2)), (58, (.rd 3 (.int .i64) [])), (59, (.ptr 1 0)), (60, (.rd 3 (.int .i64) [])), (61, (.sc .bool)), (62, (.sc .bool)), (139, (.rd 3 (.int .i64) [])), (140, (.sc (.int .i64))), (141, (.sc (.int .i64)))]⟩), (8, ⟨[.box 32 (.acons (.rd 3 (.int .i64) []) (.acons (.rd 49 (.pair (.slice 3 (.int .i64)) (.pair (.slice 74 (.pair (.int .i64) (.int .i64))) (.slice 3 (.int .i64)))) []) (.acons (.rd 68 (.pair (.int .i64) (.pair (.int .i64) (.pair (.int .i64) (.int .i64)))) []) (.acons (.rd 3 (.int .i64) []) .anil))))], [(1, (.ptr 0 0)), (162, (.rd 68 (.pair (.int .i64) (.pair (.int .i64) (.pair (.int .i64) (.int .i64)))) [])), (163, (.sc (.int .i64))), (164, (.sc (.int .i64)))]⟩)], [], [], []⟩
theorem run10 (k : Nat) (x : List Int × List (List Int × List (Int × Int) × List Int) × List (Int × Int × Int × Int) × List Int) : runF c10 k s10 Try.f10.results.toList (Try.f10.body.getD .skip) x = impl_GoodCustody.g k x.1 x.2.1 x.2.2.1 x.2.2.2 := by kernel_rfl
theorem snd10 : CSnd Try.prog 10 S10 := fn_ok mix (c := c10) tab_ok (ccOf_ok (.cons snd43 (.cons snd44 (.cons snd45 (.cons snd46 (.cons snd47 (.cons snd48 (.cons snd49 .nil)))))))) (fn := Try.f10) (cd := Try.f10.body.getD .skip) (by kernel_rfl) (by kernel_rfl) (by kernel_rfl) (by decide) (by kernel_rfl) (by kernel_rfl) (RGok_nil _) rfl (by kernel_rfl) (fuel1 (G := fun k (x : List Int × List (List Int × List (Int × Int) × List Int) × List (Int × Int × Int × Int) × List Int) => impl_GoodCustody.g k x.1 x.2.1 x.2.2.1 x.2.2.2) run10)
def s24 : FSig := ⟨⟨[], [(0, (.rd 3 (.int .i64) [])), (1, (.rd 3 (.int .i64) []))]⟩, [], ⟨[], [(0, (.sc .bool))]⟩, []⟩
noncomputable def S24 : CSum := s24.sum 2 (fun (x : List Int × List Int) => laws_eqIntS x.1 x.2)
noncomputable def c24 : Cfg := ⟨tab, ccOf [], 26, lpOf [(0, ⟨[], [(0, (.rd 3 (.int .i64) [])), (1, (.rd 3 (.int .i64) [])), (5, (.sc (.int .i64)))]⟩)], [], [], []⟩
theorem run24 (k : Nat) (x : List Int × List Int) : runF c24 k s24 Try.f24.results.toList (Try.f24.body.getD .skip) x = laws_eqIntS.g k x.1 x.2 := by kernel_rfl
theorem snd24 : CSnd Try.prog 24 S24 := fn_ok mix (c := c24) tab_ok (ccOf_ok (.nil)) (fn := Try.f24) (cd := Try.f24.body.getD .skip) (by kernel_rfl) (by kernel_rfl) (by kernel_rfl) (by decide) (by kernel_rfl) (by kernel_rfl) (RGok_nil _) rfl (by kernel_rfl) (fuel1 (G := fun k (x : List Int × List Int) => laws_eqIntS.g k x.1 x.2) run24)
def s111 : FSig := ⟨⟨[], [(0, (.agg (.acons (.sc (.int .i64)) (.acons (.sc (.int .i64)) .anil)))), (1, (.agg (.acons (.sc (.int .i64)) (.acons (.sc (.int .i64)) .anil))))]⟩, [], ⟨[], [(0, (.sc .bool))]⟩, []⟩
noncomputable def S111 : CSum := s111.sum 2 (fun (x : Int × Int × Int × Int) => laws_eqHold x.1 x.2.1 x.2.2.1 x.2.2.2)
noncomputable def c111 : Cfg := ⟨tab, ccOf [], 15, lpOf [], [], [], []⟩
theorem run111 (k : Nat) (x : Int × Int × Int × Int) : runF c111 k s111 Try.f111.results.toList (Try.f111.body.getD .skip) x = laws_eqHold x.1 x.2.1 x.2.2.1 x.2.2.2 := by kernel_rfl
theorem snd111 : CSnd Try.prog 111 S111 := fn_ok mix (c := c111) tab_ok (ccOf_ok (.nil)) (fn := Try.f111) (cd := Try.f111.body.getD .skip) (by kernel_rfl) (by kernel_rfl) (by kernel_rfl) (by decide) (by kernel_rfl) (by kernel_rfl) (RGok_nil _) rfl (by kernel_rfl) (fuel0 run111)
def s100 : FSig := ⟨⟨[], [(0, (.rd 74 (.pair (.int .i64) (.int .i64)) [])), (1, (.rd 74 (.pair (.int .i64) (.int .i64)) []))]⟩, [], ⟨[], [(0, (.sc .bool))]⟩, []⟩
noncomputable def S100 : CSum := s100.sum 2 (fun (x : List (Int × Int) × List (Int × Int)) => laws_eqHoldS x.1 x.2)
noncomputable def c100 : Cfg := ⟨tab, ccOf [(111, S111)], 27, lpOf [(0, ⟨[], [(0, (.rd 74 (.pair (.int .i64) (.int .i64)) [])), (1, (.rd 74 (.pair (.int .i64) (.int .i64)) [])), (5, (.sc (.int .i64)))]⟩)], [], [], []⟩
theorem run100 (k : Nat) (x : List (Int × Int) × List (Int × Int)) : runF c100 k s100 Try.f100.results.toList (Try.f100.body.getD .skip) x = laws_eqHoldS.g k x.1 x.2 := by kernel_rfl
theorem snd100 : CSnd Try.prog 100 S100 := fn_ok mix (c := c100) tab_ok (ccOf_ok (.cons snd111 .nil)) (fn := Try.f100) (cd := Try.f100.body.getD .skip) (by kernel_rfl) (by kernel_rfl) (by kernel_rfl) (by decide) (by kernel_rfl) (by kernel_rfl) (RGok_nil _) rfl (by kernel_rfl) (fuel1 (G := fun k (x : List (Int × Int) × List (Int × Int)) => laws_eqHoldS.g k x.1 x.2) run100)
def s81 : FSig := ⟨⟨[], [(0, (.agg (.acons (.rd 3 (.int .i64) []) (.acons (.rd 74 (.pair (.int .i64) (.int .i64)) []) (.acons (.rd 3 (.int .i64) []) .anil))))), (1, (.agg (.acons (.rd 3 (.int .i64) []) (.acons (.rd 74 (.pair (.int .i64) (.int .i64)) []) (.acons (.rd 3 (.int .i64) []) .anil)))))]⟩, [], ⟨[], [(0, (.sc .bool))]⟩, []⟩
noncomputable def S81 : CSum := s81.sum 2 (fun (x : List Int × List (Int × Int) × List Int × List Int × List (Int × Int) × List Int) => laws_eqKeeper x.1 x.2.1 x.2.2.1 x.2.2.2.1 x.2.2.2.2.1 x.2.2.2.2.2)
noncomputable def c81 : Cfg := ⟨tab, ccOf [(24, S24), (100, S100)], 23, lpOf [], [], [], []⟩
theorem run81 (k : Nat) (x : List Int × List (Int × Int) × List Int × List Int × List (Int × Int) × List Int) : runF c81 k s81 Try.f81.results.toList (Try.f81.body.getD .skip) x = laws_eqKeeper x.1 x.2.1 x.2.2.1 x.2.2.2.1 x.2.2.2.2.1 x.2.2.2.2.2 := by kernel_rfl
theorem snd81 : CSnd Try.prog 81 S81 := fn_ok mix (c := c81) tab_ok (ccOf_ok (.cons snd24 (.cons snd100 .nil))) (fn := Try.f81) (cd := Try.f81.body.getD .skip) (by kernel_rfl) (by kernel_rfl) (by kernel_rfl) (by decide) (by kernel_rfl) (by kernel_rfl) (RGok_nil _) rfl (by kernel_rfl) (fuel0 run81)
def s50 : FSig := ⟨⟨[], [(0, (.rd 49 (.pair (.slice 3 (.int .i64)) (.pair (.slice 74 (.pair (.int .i64) (.int .i64))) (.slice 3 (.int .i64)))) [])), (1, (.rd 49 (.pair (.slice 3 (.int .i64)) (.pair (.slice 74 (.pair (.int .i64) (.int .i64))) (.slice 3 (.int .i64)))) []))]⟩, [], ⟨[], [(0, (.sc .bool))]⟩, []⟩
noncomputable def S50 : CSum := s50.sum 2 (fun (x : List (List Int × List (Int × Int) × List Int) × List (List Int × List (Int × Int) × List Int)) => laws_eqKeeperS x.1 x.2)
noncomputable def c50 : Cfg := ⟨tab, ccOf [(81, S81)], 27, lpOf [(0, ⟨[], [(0, (.rd 49 (.pair (.slice 3 (.int .i64)) (.pair (.slice 74 (.pair (.int .i64) (.int .i64))) (.slice 3 (.int .i64)))) [])), (1, (.rd 49 (.pair (.slice 3 (.int .i64)) (.pair (.slice 74 (.pair (.int .i64) (.int .i64))) (.slice 3 (.int .i64)))) [])), (5, (.sc (.int .i64)))]⟩)], [], [], []⟩
theorem run50 (k : Nat) (x : List (List Int × List (Int × Int) × List Int) × List (List Int × List (Int × Int) × List Int)) : runF c50 k s50 Try.f50.results.toList (Try.f50.body.getD .skip) x = laws_eqKeeperS.g k x.1 x.2 := by kernel_rfl
theorem snd50 : CSnd Try.prog 50 S50 := fn_ok mix (c := c50) tab_ok (ccOf_ok (.cons snd81 .nil)) (fn := Try.f50) (cd := Try.f50.body.getD .skip) (by kernel_rfl) (by kernel_rfl) (by kernel_rfl) (by decide) (by kernel_rfl) (by kernel_rfl) (RGok_nil _) rfl (by kernel_rfl) (fuel1 (G := fun k (x : List (List Int × List (Int × Int) × List Int) × List (List Int × List (Int × Int) × List Int)) => laws_eqKeeperS.g k x.1 x.2) run50)
def s82 : FSig := ⟨⟨[], [(0, (.agg (.acons (.sc (.int .i64)) (.acons (.sc (.int .i64)) (.acons (.sc (.int .i64)) (.acons (.sc (.int .i64)) .anil)))))), (1, (.agg (.acons (.sc (.int .i64)) (.acons (.sc (.int .i64)) (.acons (.sc (.int .i64)) (.acons (.sc (.int .i64)) .anil))))))]⟩, [], ⟨[], [(0, (.sc .bool))]⟩, []⟩
noncomputable def S82 : CSum := s82.sum 2 (fun (x : Int × Int × Int × Int × Int × Int × Int × Int) => laws_eqSlip x.1 x.2.1 x.2.2.1 x.2.2.2.1 x.2.2.2.2.1 x.2.2.2.2.2.1 x.2.2.2.2.2.2.1 x.2.2.2.2.2.2.2)
noncomputable def c82 : Cfg := ⟨tab, ccOf [], 25, lpOf [], [], [], []⟩
theorem run82 (k : Nat) (x : Int × Int × Int × Int × Int × Int × Int × Int) : runF c82 k s82 Try.f82.results.toList (Try.f82.body.getD .skip) x = laws_eqSlip x.1 x.2.1 x.2.2.1 x.2.2.2.1 x.2.2.2.2.1 x.2.2.2.2.2.1 x.2.2.2.2.2.2.1 x.2.2.2.2.2.2.2 := by kernel_rfl
theorem snd82 : CSnd Try.prog 82 S82 := fn_ok mix (c := c82) tab_ok (ccOf_ok (.nil)) (fn := Try.f82) (cd := Try.f82.body.getD .skip) (by kernel_rfl) (by kernel_rfl) (by kernel_rfl) (by decide) (by kernel_rfl) (by kernel_rfl) (RGok_nil _) rfl (by kernel_rfl) (fuel0 run82)
def s51 : FSig := ⟨⟨[], [(0, (.rd 68 (.pair (.int .i64) (.pair (.int .i64) (.pair (.int .i64) (.int .i64)))) [])), (1, (.rd 68 (.pair (.int .i64) (.pair (.int .i64) (.pair (.int .i64) (.int .i64)))) []))]⟩, [], ⟨[], [(0, (.sc .bool))]⟩, []⟩
noncomputable def S51 : CSum := s51.sum 2 (fun (x : List (Int × Int × Int × Int) × List (Int × Int × Int × Int)) => laws_eqSlipS x.1 x.2)
noncomputable def c51 : Cfg := ⟨tab, ccOf [(82, S82)], 27, lpOf [(0, ⟨[], [(0, (.rd 68 (.pair (.int .i64) (.pair (.int .i64) (.pair (.int .i64) (.int .i64)))) [])), (1, (.rd 68 (.pair (.int .i64) (.pair (.int .i64) (.pair (.int .i64) (.int .i64)))) [])), (5, (.sc (.int .i64)))]⟩)], [], [], []⟩
theorem run51 (k : Nat) (x : List (Int × Int × Int × Int) × List (Int × Int × Int × Int)) : runF c51 k s51 Try.f51.results.toList (Try.f51.body.getD .skip) x = laws_eqSlipS.g k x.1 x.2 := by kernel_rfl
theorem snd51 : CSnd Try.prog 51 S51 := fn_ok mix (c := c51) tab_ok (ccOf_ok (.cons snd82 .nil)) (fn := Try.f51) (cd := Try.f51.body.getD .skip) (by kernel_rfl) (by kernel_rfl) (by kernel_rfl) (by decide) (by kernel_rfl) (by kernel_rfl) (RGok_nil _) rfl (by kernel_rfl) (fuel1 (G := fun k (x : List (Int × Int × Int × Int) × List (Int × Int × Int × Int)) => laws_eqSlipS.g k x.1 x.2) run51)
def s11 : FSig := ⟨⟨[], [(0, (.agg (.acons (.rd 3 (.int .i64) []) (.acons (.rd 49 (.pair (.slice 3 (.int .i64)) (.pair (.slice 74 (.pair (.int .i64) (.int .i64))) (.slice 3 (.int .i64)))) []) (.acons (.rd 68 (.pair (.int .i64) (.pair (.int .i64) (.pair (.int .i64) (.int .i64)))) []) (.acons (.rd 3 (.int .i64) []) .anil)))))), (1, (.agg (.acons (.rd 3 (.int .i64) []) (.acons (.rd 49 (.pair (.slice 3 (.int .i64)) (.pair (.slice 74 (.pair (.int .i64) (.int .i64))) (.slice 3 (.int .i64)))) []) (.acons (.rd 68 (.pair (.int .i64) (.pair (.int .i64) (.pair (.int .i64) (.int .i64)))) []) (.acons (.rd 3 (.int .i64) []) .anil))))))]⟩, [], ⟨[], [(0, (.sc .bool))]⟩, []⟩
noncomputable def S11 : CSum := s11.sum 2 (fun (x : List Int × List (List Int × List (Int × Int) × List Int) × List (Int × Int × Int × Int) × List Int × List Int × List (List Int × List (Int × Int) × List Int) × List (Int × Int × Int × Int) × List Int) => laws_eqCustody x.1 x.2.1 x.2.2.1 x.2.2.2.1 x.2.2.2.2.1 x.2.2.2.2.2.1 x.2.2.2.2.2.2.1 x.2.2.2.2.2.2.2)
noncomputable def c11 : Cfg := ⟨tab, ccOf [(24, S24), (50, S50), (51, S51)], 29, lpOf [], [], [], []⟩
theorem run11 (k : Nat) (x : List Int × List (List Int × List (Int × Int) × List Int) × List (Int × Int × Int × Int) × List Int × List Int × List (List Int × List (Int × Int) × List Int) × List (Int × Int × Int × Int) × List Int) : runF c11 k s11 Try.f11.results.toList (Try.f11.body.getD .skip) x = laws_eqCustody x.1 x.2.1 x.2.2.1 x.2.2.2.1 x.2.2.2.2.1 x.2.2.2.2.2.1 x.2.2.2.2.2.2.1 x.2.2.2.2.2.2.2 := by kernel_rfl
theorem snd11 : CSnd Try.prog 11 S11 := fn_ok mix (c := c11) tab_ok (ccOf_ok (.cons snd24 (.cons snd50 (.cons snd51 .nil)))) (fn := Try.f11) (cd := Try.f11.body.getD .skip) (by kernel_rfl) (by kernel_rfl) (by kernel_rfl) (by decide) (by kernel_rfl) (by kernel_rfl) (RGok_nil _) rfl (by kernel_rfl) (fuel0 run11)
def s3 : FSig := ⟨⟨[], [(0, (.agg (.acons (.rd 3 (.int .i64) []) (.acons (.rd 101 (.pair (.slice 3 (.int .i64)) (.pair (.slice 133 (.pair (.int .i64) (.int .i64))) (.slice 3 (.int .i64)))) []) (.acons (.rd 106 (.pair (.int .i64) (.pair (.int .i64) (.pair (.int .i64) (.int .i64)))) []) (.acons (.rd 3 (.int .i64) []) .anil))))))]⟩, [], ⟨[], [(0, (.sc .bool))]⟩, []⟩
noncomputable def S3 : CSum := s3.sum 1 (fun (x : List Int × List (List Int × List (Int × Int) × List Int) × List (Int × Int × Int × Int) × List Int) => laws_FnExactGoodCustody x.1 x.2.1 x.2.2.1 x.2.2.2)
noncomputable def c3 : Cfg := ⟨tab, ccOf [(7, S7), (8, S8), (9, S9), (10, S10), (11, S11)], 27, lpOf [], [], [], []⟩
theorem run3 (k : Nat) (x : List Int × List (List Int × List (Int × Int) × List Int) × List (Int × Int × Int × Int) × List Int) : runF c3 k s3 Try.f3.results.toList (Try.f3.body.getD .skip) x = laws_FnExactGoodCustody x.1 x.2.1 x.2.2.1 x.2.2.2 := by kernel_rfl
theorem snd3 : CSnd Try.prog 3 S3 := fn_ok mix (c := c3) tab_ok (ccOf_ok (.cons snd7 (.cons snd8 (.cons snd9 (.cons snd10 (.cons snd11 .nil)))))) (fn := Try.f3) (cd := Try.f3.body.getD .skip) (by kernel_rfl) (by kernel_rfl) (by kernel_rfl) (by decide) (by kernel_rfl) (by kernel_rfl) (RGok_nil _) rfl (by kernel_rfl) (fuel0 run3)
def s12 : FSig := ⟨⟨[], [(0, (.agg (.acons (.rd 3 (.int .i64) []) (.acons (.rd 49 (.pair (.slice 3 (.int .i64)) (.pair (.slice 74 (.pair (.int .i64) (.int .i64))) (.slice 3 (.int .i64)))) []) (.acons (.rd 68 (.pair (.int .i64) (.pair (.int .i64) (.pair (.int .i64) (.int .i64)))) []) (.acons (.rd 3 (.int .i64) []) .anil)))))), (1, (.sc (.int .i64))), (2, (.sc (.int .i64)))]⟩, [], ⟨[], [(0, (.tup (.acons (.sc .bool) (.acons (.sc .bool) .anil))))]⟩, []⟩
noncomputable def S12 : CSum := s12.sum 3 (fun (x : List Int × List (List Int × List (Int × Int) × List Int) × List (Int × Int × Int × Int) × List Int × Int × Int) => spec_SafeFor x.1 x.2.1 x.2.2.1 x.2.2.2.1 x.2.2.2.2.1 x.2.2.2.2.2)
noncomputable def c12 : Cfg := ⟨tab, ccOf [(8, S8), (37, S37), (38, S38), (52, S52)], 58, lpOf [(0, ⟨[.box 32 (.acons (.rd 3 (.int .i64) []) (.acons (.rd 49 (.pair (.slice 3 (.int .i64)) (.pair (.slice 74 (.pair (.int .i64) (.int .i64))) (.slice 3 (.int .i64)))) []) (.acons (.rd 68 (.pair (.int .i64) (.pair (.int .i64) (.pair (.int .i64) (.int .i64)))) []) (.acons (.rd 3 (.int .i64) []) .anil))))], [(2, (.sc (.int .i64))), (3, (.ptr 0 0)), (8, (.sc (.int .i64)))]⟩)], [], [], []⟩
theorem run12 (k : Nat) (x : List Int × List (List Int × List (Int × Int) × List Int) × List (Int × Int × Int × Int) × List Int × Int × Int) : runF c12 k s12 Try.f12.results.toList (Try.f12.body.getD .skip) x = spec_SafeFor.g k x.1 x.2.1 x.2.2.1 x.2.2.2.1 x.2.2.2.2.1 x.2.2.2.2.2 := by kernel_rfl
theorem snd12 : CSnd Try.prog 12 S12 := fn_ok mix (c := c12) tab_ok (ccOf_ok (.cons snd8 (.cons snd37 (.cons snd38 (.cons snd52 .nil))))) (fn := Try.f12) (cd := Try.f12.body.getD .skip) (by kernel_rfl) (by kernel_rfl) (by kernel_rfl) (by decide) (by kernel_rfl) (by kernel_rfl) (RGok_nil _) rfl (by kernel_rfl) (fuel1 (G := fun k (x : List Int × List (List Int × List (Int × Int) × List Int) × List (Int × Int × Int × Int) × List Int × Int × Int) => spec_SafeFor.g k x.1 x.2.1 x.2.2.1 x.2.2.2.1 x.2.2.2.2.1 x.2.2.2.2.2) run12)
def s53 : FSig := ⟨⟨[], [(0, (.sc (.int .i64)))]⟩, [], ⟨[], [(0, (.sc .bool))]⟩, []⟩
noncomputable def S53 : CSum := s53.sum 1 (fun (x : Int) => impl_isId x)
noncomputable def c53 : Cfg := ⟨tab, ccOf [(48, S48)], 5, lpOf [], [], [], []⟩
theorem run53 (k : Nat) (x : Int) : runF c53 k s53 Try.f53.results.toList (Try.f53.body.getD .skip) x = impl_isId x := by kernel_rfl
theorem snd53 : CSnd Try.prog 53 S53 := fn_ok mix (c := c53) tab_ok (ccOf_ok (.cons snd48 .nil)) (fn := Try.f53) (cd := Try.f53.body.getD .skip) (by kernel_rfl) (by kernel_rfl) (by kernel_rfl) (by decide) (by kernel_rfl) (by kernel_rfl) (RGok_nil _) rfl (by kernel_rfl) (fuel0 run53)
def s13 : FSig := ⟨⟨[], [(0, (.agg (.acons (.rd 3 (.int .i64) []) (.acons (.rd 49 (.pair (.slice 3 (.int .i64)) (.pair (.slice 74 (.pair (.int .i64) (.int .i64))) (.slice 3 (.int .i64)))) []) (.acons (.rd 68 (.pair (.int .i64) (.pair (.int .i64) (.pair (.int .i64) (.int .i64)))) []) (.acons (.rd 3 (.int .i64) []) .anil)))))), (1, (.sc (.int .i64))), (2, (.sc (.int .i64)))]⟩, [], ⟨[], [(0, (.tup (.acons (.sc .bool) (.acons (.sc .bool) .anil))))]⟩, []⟩
noncomputable def S13 : CSum := s13.sum 3 (fun (x : List Int × List (List Int × List (Int × Int) × List Int) × List (Int × Int × Int × Int) × List Int × Int × Int) => impl_SafeFor x.1 x.2.1 x.2.2.1 x.2.2.2.1 x.2.2.2.2.1 x.2.2.2.2.2)
noncomputable def c13 : Cfg := ⟨tab, ccOf [(10, S10), (47, S47), (48, S48), (49, S49), (53, S53)], 56, lpOf [(0, ⟨[.box 32 (.acons (.rd 3 (.int .i64) []) (.acons (.rd 49 (.pair (.slice 3 (.int .i64)) (.pair (.slice 74 (.pair (.int .i64) (.int .i64))) (.slice 3 (.int .i64)))) []) (.acons (.rd 68 (.pair (.int .i64) (.pair (.int .i64) (.pair (.int .i64) (.int .i64)))) []) (.acons (.rd 3 (.int .i64) []) .anil))))], [(2, (.sc (.int .i64))), (3, (.ptr 0 0)), (8, (.sc (.int .i64)))]⟩)], [], [], []⟩
theorem run13 (k : Nat) (x : List Int × List (List Int × List (Int × Int) × List Int) × List (Int × Int × Int × Int) × List Int × Int × Int) : runF c13 k s13 Try.f13.results.toList (Try.f13.body.getD .skip) x = impl_SafeFor.g k x.1 x.2.1 x.2.2.1 x.2.2.2.1 x.2.2.2.2.1 x.2.2.2.2.2 := by kernel_rfl
theorem snd13 : CSnd Try.prog 13 S13 := fn_ok mix (c := c13) tab_ok (ccOf_ok (.cons snd10 (.cons snd47 (.cons snd48 (.cons snd49 (.cons snd53 .nil)))))) (fn := Try.f13) (cd := Try.f13.body.getD .skip) (by kernel_rfl) (by kernel_rfl) (by kernel_rfl) (by decide) (by kernel_rfl) (by kernel_rfl) (RGok_nil _) rfl (by kernel_rfl) (fuel1 (G := fun k (x : List Int × List (List Int × List (Int × Int) × List Int) × List (Int × Int × Int × Int) × List Int × Int × Int) => impl_SafeFor.g k x.1 x.2.1 x.2.2.1 x.2.2.2.1 x.2.2.2.2.1 x.2.2.2.2.2) run13)
def s4 : FSig := ⟨⟨[], [(0, (.agg (.acons (.rd 3 (.int .i64) []) (.acons (.rd 101 (.pair (.slice 3 (.int .i64)) (.pair (.slice 133 (.pair (.int .i64) (.int .i64))) (.slice 3 (.int .i64)))) []) (.acons (.rd 106 (.pair (.int .i64) (.pair (.int .i64) (.pair (.int .i64) (.int .i64)))) []) (.acons (.rd 3 (.int .i64) []) .anil)))))), (1, (.sc (.int .i64))), (2, (.sc (.int .i64)))]⟩, [], ⟨[], [(0, (.sc .bool))]⟩, []⟩
noncomputable def S4 : CSum := s4.sum 3 (fun (x : List Int × List (List Int × List (Int × Int) × List Int) × List (Int × Int × Int × Int) × List Int × Int × Int) => laws_FnExactSafeFor x.1 x.2.1 x.2.2.1 x.2.2.2.1 x.2.2.2.2.1 x.2.2.2.2.2)
noncomputable def c4 : Cfg := ⟨tab, ccOf [(7, S7), (9, S9), (11, S11), (12, S12), (13, S13)], 48, lpOf [], [], [], []⟩
theorem run4 (k : Nat) (x : List Int × List (List Int × List (Int × Int) × List Int) × List (Int × Int × Int × Int) × List Int × Int × Int) : runF c4 k s4 Try.f4.results.toList (Try.f4.body.getD .skip) x = laws_FnExactSafeFor x.1 x.2.1 x.2.2.1 x.2.2.2.1 x.2.2.2.2.1 x.2.2.2.2.2 := by kernel_rfl
theorem snd4 : CSnd Try.prog 4 S4 := fn_ok mix (c := c4) tab_ok (ccOf_ok (.cons snd7 (.cons snd9 (.cons snd11 (.cons snd12 (.cons snd13 .nil)))))) (fn := Try.f4) (cd := Try.f4.body.getD .skip) (by kernel_rfl) (by kernel_rfl) (by kernel_rfl) (by decide) (by kernel_rfl) (by kernel_rfl) (RGok_nil _) rfl (by kernel_rfl) (fuel0 run4)
end Go.Eng
