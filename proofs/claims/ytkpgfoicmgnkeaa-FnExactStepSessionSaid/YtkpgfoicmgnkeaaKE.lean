/-
Printed by engpr.py: the functions are what the definitions say.
-/
import Derived.Test.YtkpgfoicmgnkeaaKD
import Derived.Test.YtkpgfoicmgnkeaaProg
import Derived.KernelRfl
set_option linter.unusedVariables false
set_option linter.unusedSimpArgs false
namespace Go.Eng
open Go Go.Proofs Go.RowKit Go.Proofs.YtkpgfoicmgnkeaaW.PrintWords Go.Proofs.YtkpgfoicmgnkeaaW.PrintLast
def tabl : List (Nat × TInf) := [(3, { ty := (.int .i64) }),
  (4, { ty := .bool }),
  (5, { ty := (.int .u8) }),
  (9, { ty := .str }),
  (22, { ty := (.slice 5 (.int .u8)), bytes := 1 }),
  (23, { ty := (.slice 41 (.pair (.int .i64) (.pair .bool (.int .i64)))), bytes := 24 }),
  (26, { ty := (.slice 4 .bool), bytes := 1 }),
  (27, { ty := (.slice 84 (.pair (.int .i64) (.pair (.int .i64) (.pair .str (.pair .bool (.slice 4 .bool)))))), bytes := 64 }),
  (29, { ty := (.pair .str (.pair (.slice 4 .bool) (.pair (.slice 4 .bool) (.pair .str (.pair .bool (.pair (.slice 84 (.pair (.int .i64) (.pair (.int .i64) (.pair .str (.pair .bool (.slice 4 .bool)))))) (.slice 84 (.pair (.int .i64) (.pair (.int .i64) (.pair .str (.pair .bool (.slice 4 .bool)))))))))))), agg := true, offs := [(0, 1), (1, 1), (2, 1), (3, 1), (4, 1), (5, 1), (6, 1)] }),
  (41, { ty := (.pair (.int .i64) (.pair .bool (.int .i64))), agg := true, offs := [(0, 1), (1, 1), (2, 1)] }),
  (47, { ty := (.slice 3 (.int .i64)), bytes := 8 }),
  (54, { ty := (.slice 65 (.pair (.int .i64) (.pair .bool (.int .i64)))), bytes := 24 }),
  (62, { ty := (.slice 117 (.pair (.int .i64) (.pair (.int .i64) (.pair .str (.pair .bool (.slice 4 .bool)))))), bytes := 64 }),
  (64, { ty := (.pair .str (.pair (.slice 4 .bool) (.pair (.slice 4 .bool) (.pair .str (.pair .bool (.pair (.slice 117 (.pair (.int .i64) (.pair (.int .i64) (.pair .str (.pair .bool (.slice 4 .bool)))))) (.slice 117 (.pair (.int .i64) (.pair (.int .i64) (.pair .str (.pair .bool (.slice 4 .bool)))))))))))), agg := true, offs := [(0, 1), (1, 1), (2, 1), (3, 1), (4, 1), (5, 1), (6, 1)] }),
  (65, { ty := (.pair (.int .i64) (.pair .bool (.int .i64))), agg := true, offs := [(0, 1), (1, 1), (2, 1)] }),
  (72, { ty := (.int .u64) }),
  (74, { ty := (.pair (.slice 5 (.int .u8)) (.pair (.int .i64) (.int .u64))), agg := true, offs := [(0, 1), (1, 1), (2, 1)] }),
  (84, { ty := (.pair (.int .i64) (.pair (.int .i64) (.pair .str (.pair .bool (.slice 4 .bool))))), agg := true, offs := [(0, 1), (1, 1), (2, 1), (3, 1), (4, 1)] }),
  (101, { ty := (.slice 9 .str), bytes := 16 }),
  (117, { ty := (.pair (.int .i64) (.pair (.int .i64) (.pair .str (.pair .bool (.slice 4 .bool))))), agg := true, offs := [(0, 1), (1, 1), (2, 1), (3, 1), (4, 1)] })]
def tab : Nat → Option TInf := tabOf tabl
theorem tab_ok : TTok Try.prog tab := tabOf_ok (by kernel_rfl)
theorem mix : Try.prog.follows .mixedOrders = true := by kernel_rfl
def s52 : FSig := ⟨⟨[], [(0, (.sc (.int .i64))), (1, (.sc (.int .i64))), (2, (.sc (.int .i64)))]⟩, [], ⟨[], [(0, (.sc .bool))]⟩, []⟩
noncomputable def S52 : CSum := s52.sum 3 (fun (x : Int × Int × Int) => impl_within x.1 x.2.1 x.2.2)
noncomputable def c52 : Cfg := ⟨tab, ccOf [], 15, lpOf [], [], [], []⟩
theorem run52 (k : Nat) (x : Int × Int × Int) : runF c52 k s52 Try.f52.results.toList (Try.f52.body.getD .skip) x = impl_within x.1 x.2.1 x.2.2 := by kernel_rfl
theorem snd52 : CSnd Try.prog 52 S52 := fn_ok mix (c := c52) tab_ok (ccOf_ok (.nil)) (fn := Try.f52) (cd := Try.f52.body.getD .skip) (by kernel_rfl) (by kernel_rfl) (by kernel_rfl) (by decide) (by kernel_rfl) (by kernel_rfl) (RGok_nil _) rfl (by kernel_rfl) (fuel0 run52)
def s48 : FSig := ⟨⟨[], [(0, (.sc .str))]⟩, [], ⟨[], [(0, (.sc .bool))]⟩, []⟩
noncomputable def S48 : CSum := s48.sum 1 (fun (x : ByteArray) => impl_isBlock x)
noncomputable def c48 : Cfg := ⟨tab, ccOf [(52, S52)], 6, lpOf [], [], [], []⟩
theorem run48 (k : Nat) (x : ByteArray) : runF c48 k s48 Try.f48.results.toList (Try.f48.body.getD .skip) x = impl_isBlock x := by kernel_rfl
theorem snd48 : CSnd Try.prog 48 S48 := fn_ok mix (c := c48) tab_ok (ccOf_ok (.cons snd52 .nil)) (fn := Try.f48) (cd := Try.f48.body.getD .skip) (by kernel_rfl) (by kernel_rfl) (by kernel_rfl) (by decide) (by kernel_rfl) (by kernel_rfl) (RGok_nil _) rfl (by kernel_rfl) (fuel0 run48)
def s49 : FSig := ⟨⟨[], [(0, (.sc .str))]⟩, [], ⟨[], [(0, (.sc (.int .i64)))]⟩, []⟩
noncomputable def S49 : CSum := s49.sum 1 (fun (x : ByteArray) => impl_many x)
noncomputable def c49 : Cfg := ⟨tab, ccOf [], 8, lpOf [], [], [], []⟩
theorem run49 (k : Nat) (x : ByteArray) : runF c49 k s49 Try.f49.results.toList (Try.f49.body.getD .skip) x = impl_many x := by kernel_rfl
theorem snd49 : CSnd Try.prog 49 S49 := fn_ok mix (c := c49) tab_ok (ccOf_ok (.nil)) (fn := Try.f49) (cd := Try.f49.body.getD .skip) (by kernel_rfl) (by kernel_rfl) (by kernel_rfl) (by decide) (by kernel_rfl) (by kernel_rfl) (RGok_nil _) rfl (by kernel_rfl) (fuel0 run49)
def s24 : FSig := ⟨⟨[], [(0, (.sc .str))]⟩, [], ⟨[.row 4 .bool, .row 4 .bool], [(0, (.tup (.acons (.agg (.acons (.sc .str) (.acons (.own 0) (.acons (.own 1) (.acons (.sc .str) (.acons (.sc .bool) (.acons .nil (.acons .nil .anil)))))))) (.acons (.sc .bool) .anil))))]⟩, []⟩
noncomputable def S24 : CSum := s24.sum 1 (fun (x : ByteArray) => impl_NewSession x)
noncomputable def c24 : Cfg := ⟨tab, ccOf [(48, S48), (49, S49)], 21, lpOf [], [], [], []⟩
theorem run24 (k : Nat) (x : ByteArray) : runF c24 k s24 Try.f24.results.toList (Try.f24.body.getD .skip) x = impl_NewSession x := by kernel_rfl
theorem snd24 : CSnd Try.prog 24 S24 := fn_ok mix (c := c24) tab_ok (ccOf_ok (.cons snd48 (.cons snd49 .nil))) (fn := Try.f24) (cd := Try.f24.body.getD .skip) (by kernel_rfl) (by kernel_rfl) (by kernel_rfl) (by decide) (by kernel_rfl) (by kernel_rfl) (RGok_nil _) rfl (by kernel_rfl) (fuel0 run24)
def s53 : FSig := ⟨⟨[], [(0, (.sc .str)), (1, (.sc (.int .i64)))]⟩, [], ⟨[], [(0, (.sc .str))]⟩, []⟩
noncomputable def S53 : CSum := s53.sum 2 (fun (x : ByteArray × Int) => impl_segment x.1 x.2)
noncomputable def c53 : Cfg := ⟨tab, ccOf [], 15, lpOf [], [], [], []⟩
theorem run53 (k : Nat) (x : ByteArray × Int) : runF c53 k s53 Try.f53.results.toList (Try.f53.body.getD .skip) x = impl_segment x.1 x.2 := by kernel_rfl
theorem snd53 : CSnd Try.prog 53 S53 := fn_ok mix (c := c53) tab_ok (ccOf_ok (.nil)) (fn := Try.f53) (cd := Try.f53.body.getD .skip) (by kernel_rfl) (by kernel_rfl) (by kernel_rfl) (by decide) (by kernel_rfl) (by kernel_rfl) (RGok_nil _) rfl (by kernel_rfl) (fuel0 run53)
def s65 : FSig := ⟨⟨[], [(0, (.agg (.acons (.sc .str) (.acons (.rd 4 .bool []) (.acons (.rd 4 .bool []) (.acons (.sc .str) (.acons (.sc .bool) (.acons (.rd 84 (.pair (.int .i64) (.pair (.int .i64) (.pair .str (.pair .bool (.slice 4 .bool))))) []) (.acons (.rd 84 (.pair (.int .i64) (.pair (.int .i64) (.pair .str (.pair .bool (.slice 4 .bool))))) []) .anil)))))))))]⟩, [], ⟨[.row 3 (.int .i64)], [(0, (.own 0))]⟩, []⟩
noncomputable def S65 : CSum := s65.sum 1 (fun (x : ByteArray × List Bool × List Bool × ByteArray × Bool × List (Int × Int × ByteArray × Bool × List Bool) × List (Int × Int × ByteArray × Bool × List Bool)) => impl_Session_left x.1 x.2.1 x.2.2.1 x.2.2.2.1 x.2.2.2.2.1 x.2.2.2.2.2.1 x.2.2.2.2.2.2)
noncomputable def c65 : Cfg := ⟨tab, ccOf [], 23, lpOf [(0, ⟨[.row 3 (.int .i64)], [(3, (.own 0)), (8, (.rd 4 .bool [])), (9, (.sc (.int .i64))), (10, (.sc (.int .i64)))]⟩)], [], [], []⟩
theorem run65 (k : Nat) (x : ByteArray × List Bool × List Bool × ByteArray × Bool × List (Int × Int × ByteArray × Bool × List Bool) × List (Int × Int × ByteArray × Bool × List Bool)) : runF c65 k s65 Try.f65.results.toList (Try.f65.body.getD .skip) x = impl_Session_left.g k x.1 x.2.1 x.2.2.1 x.2.2.2.1 x.2.2.2.2.1 x.2.2.2.2.2.1 x.2.2.2.2.2.2 := by kernel_rfl
theorem snd65 : CSnd Try.prog 65 S65 := fn_ok mix (c := c65) tab_ok (ccOf_ok (.nil)) (fn := Try.f65) (cd := Try.f65.body.getD .skip) (by kernel_rfl) (by kernel_rfl) (by kernel_rfl) (by decide) (by kernel_rfl) (by kernel_rfl) (RGok_nil _) rfl (by kernel_rfl) (fuel1 (G := fun k (x : ByteArray × List Bool × List Bool × ByteArray × Bool × List (Int × Int × ByteArray × Bool × List Bool) × List (Int × Int × ByteArray × Bool × List Bool)) => impl_Session_left.g k x.1 x.2.1 x.2.2.1 x.2.2.2.1 x.2.2.2.2.1 x.2.2.2.2.2.1 x.2.2.2.2.2.2) run65)
noncomputable def S86 : CSum := cloneS 4 .bool 1
theorem snd86 : CSnd Try.prog 86 S86 := clone_snd (T := 26) (i := { ty := (.slice 4 .bool), bytes := 1 }) (tokB_ok (by kernel_rfl)) rfl rfl (fun args w => enter_fn (fn := Try.f86) (by kernel_rfl) (by kernel_rfl) (by kernel_rfl) args w)
  (fun n c w => by
    have hq_ : ∀ (w : World) (n c : Nat), (binOp .eql 26 (.slice none n c) (.slice none 0 0)).run Try.prog w = .ok (.bool true) w := fun w n c => run_eq_nil Try.underlying26 _ _ _ _
    go_enter Try.func86, Try.ntmps86
    go_wp2
    go_ret
    exact ⟨rfl, rfl⟩)
  (fun ad n c w w' v' hr => by
    have hq_ : ∀ w, (binOp .eql 26 (.slice (some ad) n c) (.slice none 0 0)).run Try.prog w = .ok (.bool false) w := fun w => run_eq_nil Try.underlying26 _ _ _ _
    go_enter Try.func86, Try.ntmps86
    go_wp2_with ((with_reducible refine gate_builtin (b := .append) (xs := #[.tmp 5, .tmp 6]) rfl ?_); refine Kd.event_run (v := v') (w1 := w') rfl ?hr ?_; (case hr => simp [execOp, resolve, invoke, builtin, Act.eval, hr]))
    go_ret
    exact ⟨rfl, rfl⟩)
def s78 : FSig := ⟨⟨[], [(0, (.agg (.acons (.sc (.int .i64)) (.acons (.sc (.int .i64)) (.acons (.sc .str) (.acons (.sc .bool) (.acons (.rd 4 .bool []) .anil)))))))]⟩, [], ⟨[.row 4 .bool], [(0, (.agg (.acons (.sc (.int .i64)) (.acons (.sc (.int .i64)) (.acons (.sc .str) (.acons (.sc .bool) (.acons (.own 0) .anil)))))))]⟩, []⟩
noncomputable def S78 : CSum := s78.sum 1 (fun (x : Int × Int × ByteArray × Bool × List Bool) => impl_Segment_copied x.1 x.2.1 x.2.2.1 x.2.2.2.1 x.2.2.2.2)
noncomputable def c78 : Cfg := ⟨tab, ccOf [(86, S86)], 8, lpOf [], [], [], []⟩
theorem run78 (k : Nat) (x : Int × Int × ByteArray × Bool × List Bool) : runF c78 k s78 Try.f78.results.toList (Try.f78.body.getD .skip) x = impl_Segment_copied x.1 x.2.1 x.2.2.1 x.2.2.2.1 x.2.2.2.2 := by kernel_rfl
theorem snd78 : CSnd Try.prog 78 S78 := fn_ok mix (c := c78) tab_ok (ccOf_ok (.cons snd86 .nil)) (fn := Try.f78) (cd := Try.f78.body.getD .skip) (by kernel_rfl) (by kernel_rfl) (by kernel_rfl) (by decide) (by kernel_rfl) (by kernel_rfl) (RGok_nil _) rfl (by kernel_rfl) (fuel0 run78)
noncomputable def S79 : CSum := deleteS 84 (.pair (.int .i64) (.pair (.int .i64) (.pair .str (.pair .bool (.slice 4 .bool)))))
def t27 : Ty := (.pair (.int .i64) (.pair (.int .i64) (.pair .str (.pair .bool (.slice 4 .bool)))))
theorem tok27 : TOk Try.prog 27 { ty := (.slice 84 (.pair (.int .i64) (.pair (.int .i64) (.pair .str (.pair .bool (.slice 4 .bool)))))), bytes := 64 } := tokB_ok (by kernel_rfl)
def segZ27_ : List Value := [.int .i64 0, .int .i64 0, .string ⟨#[]⟩, .bool false, .slice none 0 0]
/-- clear of the one place behind a row's end. -/
theorem clearSeg27_ {base g m cap c : Nat} {ok : Nat → Prop} {W : World} {xs : List t27.den} (h : Kd.S t27.kd 84 W base ok (.slice (some ⟨g, 0, none⟩) m cap) xs) (ty : TypeId) (hc : m < cap) : (Builtin.clear_ #[27] ty #[.slice (some ⟨g, m * 5, none⟩) 1 c]).run Try.prog W = .ok (.tuple #[]) (W.setCells g (m * 5) segZ27_) := by
  have hst := run_storeCells_cells (P := Try.prog) g (m * 5) segZ27_ 0 W (fun j hj => (S_room h (m * 5 + 0 + j) (by
    have hj' : j < 5 := hj
    show m * 5 + 0 + j < cap * 5
    omega)).1) (fun j hj => (S_room h (m * 5 + 0 + j) (by
    have hj' : j < 5 := hj
    show m * 5 + 0 + j < cap * 5
    omega)).2) (fun v hv => by
    simp only [segZ27_, List.mem_cons, List.not_mem_nil, or_false] at hv
    rcases hv with rfl | rfl | rfl | rfl | rfl <;> rfl)
  rw [Nat.add_zero] at hst
  have hz : (zeroValue 84).run Try.prog W = .ok (.agg #[.int .i64 0, .int .i64 0, .string ⟨#[]⟩, .bool false, .slice none 0 0]) W := by
    go_simp
  have hc : (Builtin.zeroCells (Value.agg #[.int .i64 0, .int .i64 0, .string ⟨#[]⟩, .bool false, .slice none 0 0]).cells 1).toList = segZ27_ := by
    simp [Builtin.zeroCells, Value.cells, segZ27_]
    rfl
  simp only [Builtin.clear_]
  simp [run_underlying Try.underlying27, hz, hc, hst, Result.andThen]
set_option maxHeartbeats 8000000 in
set_option maxRecDepth 100000 in
theorem delete79_ {base g n cap : Nat} {ok : Nat → Prop} {w0 : World} (xs : List t27.den) (k : Nat) (w : World) (hB : Below base w0 w) (hbs : base ≤ w.heap.size) (hs : Kd.S t27.kd 84 w base ok (.slice (some ⟨g, 0, none⟩) n cap) xs) (h1 : k < n) (hn : n ≤ 1000000) :
    Calls Try.prog 79 #[.slice (some ⟨g, 0, none⟩) n cap, .int .i64 (k : Int), .int .i64 ((k : Int) + 1)] w fun e w' => e = .returned (.slice (some ⟨g, 0, none⟩) (n - 1) cap) ∧ Kd.S t27.kd 84 w' base ok (.slice (some ⟨g, 0, none⟩) (n - 1) cap) (xs.eraseIdx k) ∧ Below base w0 w' ∧ w.grownBy w' (some g) := by
  have HS := Aside0.mk hs
  have HB := Aside0.mk hB
  have HZ := Aside0.mk hbs
  have hroom := (Kd.S_reads' hs).2.1
  have HN := Aside0.mk hn
  have HR := Aside0.mk hroom
  have HK := Aside0.mk h1
  have q1 : (0 : Int) ≤ (k : Int) := by omega
  have q2 : (k : Int) ≤ (k : Int) + 1 := by omega
  have q3 : (k : Int) + 1 ≤ (n : Int) := by omega
  have q4 : (n : Int) ≤ (cap : Int) := by omega
  have q5 : ((k : Int) == (k : Int) + 1) = false := by simp; omega
  have q6 : k ≤ cap := by omega
  clear hs hB hbs hroom hn h1
  go_enter Try.func79, Try.ntmps79
  go_wp2
  refine start_ (n := 8) (S := fun _ => True) (ds := []) #[false, false, false, false, false, false, false, false] (by kernel_rfl) rfl rfl trivial (fun hHeld => ?_)
  have n0_ := Aside0.mk (Kd.S_drew HS.out)
  have n1_ := Aside0.mk (below_drew HB.out)
  have HZ1 := Aside0.mk (show base ≤ w.drew.heap.size from HZ.out)
  have HG := Aside0.mk (show w.grownBy w.drew (some g) from grown_of_below (below_drew (Below.refl _ _)) _)
  clear HS HB HZ
  have HS := n0_
  have HB := n1_
  clear n0_ n1_
  generalize w.drew = w1 at HS HB HZ1 HG hHeld ⊢
  have hr_ := HR.out
  have hk_ := HK.out
  obtain ⟨_, i84, z84, hi84, hsz84, _⟩ := tok27.slc 84 t27 rfl
  have hsz84 : i84.size = 5 := hsz84
  have hcutA := cut_from (P := Try.prog) 27 84 .i64 Try.underlying27 hi84 5 hsz84 (some ⟨g, 0, none⟩) n cap ((k : Int) + 1) (by omega) (by omega)
  rw [show ((k : Int) + 1).toNat = k + 1 by omega] at hcutA
  obtain ⟨A6, hA6⟩ : ∃ A6 : Option Addr, A6 = if cap = k + 1 then some ⟨g, 0, none⟩ else (some (⟨g, 0, none⟩ : Addr)).map (·.add ((k + 1) * 5)) := ⟨_, rfl⟩
  rw [← hA6] at hcutA
  replace hA6 := Aside0.mk hA6
  refine pN_ 0 20 ?_
  refine pN_ 1 21 ?_
  refine pN_ 2 22 ?_
  refine pN_ 3 23 ?_
  refine pN_ 4 24 ?_
  refine pN_ 5 25 ?_
  refine one_ (i := 6) (N := some 26) #[true, true, true, true, true, true, true, false] rfl rfl (by kernel_rfl) (by decide) (fun K hK => ?_)
  refine Kd.S_delete_step t27.kd base (by rfl) (.tmp 22) (.tmp 25) 27 84 rfl Try.underlying27 (by kernel_rfl) (g := g) (n := n) (c := cap) (k := k) (m := n - (k + 1)) (c2 := cap - (k + 1)) (A := A6) (by rfl) (by rfl) hA6.out rfl HS.out HK.out HB.out HZ1.out ?_
  intro w2 hS2 hB2 hg2
  refine hK.out _ _ trivial (fun _ => ?_)
  clear hK K
  have HS2 := Aside0.mk hS2
  have HB2 := Aside0.mk hB2
  have HG2 := Aside0.mk (World.grownBy.trans HG.out hg2)
  have HG12 := Aside0.mk hg2
  clear hS2 hB2 hg2 hcutA
  refine norm_ (a' := ?_) (by simp only [Act.put, List.setIfInBounds_toArray, List.set_cons_zero, List.set_cons_succ, i64_w, i32_w]; rfl) ?_
  refine pN_ 7 0 ?_
  refine done_ (by kernel_rfl) ?_
  have hcap_ : n - 1 < cap := by omega
  have hw_ := S_beyonds segZ27_ ((n - 1) * 5) w2 HS2.out (Nat.le_refl _)
  have hclr_ : (Builtin.clear_ #[27] 0 #[.slice (some ⟨g, (n - 1) * 5, none⟩) (n - (n - 1)) (cap - (n - 1))]).run Try.prog w2 = .ok (.tuple #[]) (w2.setCells g ((n - 1) * 5) segZ27_) := by
    have h_ := clearSeg27_ (c := cap - (n - 1)) HS2.out 0 hcap_
    rw [show n - (n - 1) = 1 by omega]
    exact h_
  generalize w2.setCells g ((n - 1) * 5) segZ27_ = w3 at hw_ hclr_
  have HW := Aside0.mk hw_
  have q7 : ((n - 1 : Nat) : Int) ≤ (n : Int) := by omega
  have q8 : (0 : Int) ≤ ((n - 1 : Nat) : Int) := by omega
  have HB3 := Aside0.mk (HB2.out.grown HW.out.2 (Nat.le_trans HZ1.out HG12.out.size) (fun k e => by cases e; exact Kd.S_base HS2.out _ rfl))
  clear hw_ hcap_ hr_ hk_
  go_wp2
  go_ret
  exact ⟨rfl, HW.out.1, HB3.out, World.grownBy.trans HG2.out HW.out.2⟩

theorem snd79 : CSnd Try.prog 79 S79 := delete_snd (e := 84) (t := t27) (fun args w => enter_fn (fn := Try.f79) (by kernel_rfl) (by kernel_rfl) (by kernel_rfl) args w)
  (fun w xs ok g n cap k hS hk hn => (delete79_ (base := 0) (w0 := w) xs k w (Below.refl 0 w) (Nat.zero_le _) hS hk hn).mono (fun en w' h => ⟨h.1, h.2.1, h.2.2.2⟩))

def s92 : FSig := ⟨⟨[], [(0, (.rd 4 .bool [])), (1, (.sc .bool))]⟩, [], ⟨[], [(0, (.sc (.int .i64)))]⟩, []⟩
noncomputable def S92 : CSum := s92.sum 2 (fun (x : List Bool × Bool) => slices_Index_bool x.1 x.2)
noncomputable def c92 : Cfg := ⟨tab, ccOf [], 19, lpOf [(0, ⟨[], [(0, (.rd 4 .bool [])), (1, (.sc .bool)), (7, (.sc (.int .i64))), (8, (.sc (.int .i64)))]⟩)], [], [], []⟩
theorem run92 (k : Nat) (x : List Bool × Bool) : runF c92 k s92 Try.f92.results.toList (Try.f92.body.getD .skip) x = slices_Index_bool.g k x.1 x.2 := by kernel_rfl
theorem snd92 : CSnd Try.prog 92 S92 := fn_ok mix (c := c92) tab_ok (ccOf_ok (.nil)) (fn := Try.f92) (cd := Try.f92.body.getD .skip) (by kernel_rfl) (by kernel_rfl) (by kernel_rfl) (by decide) (by kernel_rfl) (by kernel_rfl) (RGok_nil _) rfl (by kernel_rfl) (fuel1 (G := fun k (x : List Bool × Bool) => slices_Index_bool.g k x.1 x.2) run92)
def s85 : FSig := ⟨⟨[], [(0, (.rd 4 .bool [])), (1, (.sc .bool))]⟩, [], ⟨[], [(0, (.sc .bool))]⟩, []⟩
noncomputable def S85 : CSum := s85.sum 2 (fun (x : List Bool × Bool) => slices_Contains_bool x.1 x.2)
noncomputable def c85 : Cfg := ⟨tab, ccOf [(92, S92)], 9, lpOf [], [], [], []⟩
theorem run85 (k : Nat) (x : List Bool × Bool) : runF c85 k s85 Try.f85.results.toList (Try.f85.body.getD .skip) x = slices_Contains_bool x.1 x.2 := by kernel_rfl
theorem snd85 : CSnd Try.prog 85 S85 := fn_ok mix (c := c85) tab_ok (ccOf_ok (.cons snd92 .nil)) (fn := Try.f85) (cd := Try.f85.body.getD .skip) (by kernel_rfl) (by kernel_rfl) (by kernel_rfl) (by decide) (by kernel_rfl) (by kernel_rfl) (RGok_nil _) rfl (by kernel_rfl) (fuel0 run85)
def s47 : FSig := ⟨⟨[], [(0, (.rd 4 .bool []))]⟩, [], ⟨[], [(0, (.sc .bool))]⟩, []⟩
noncomputable def S47 : CSum := s47.sum 1 (fun (x : List Bool) => impl_isAll x)
noncomputable def c47 : Cfg := ⟨tab, ccOf [(85, S85)], 6, lpOf [], [], [], []⟩
theorem run47 (k : Nat) (x : List Bool) : runF c47 k s47 Try.f47.results.toList (Try.f47.body.getD .skip) x = impl_isAll x := by kernel_rfl
theorem snd47 : CSnd Try.prog 47 S47 := fn_ok mix (c := c47) tab_ok (ccOf_ok (.cons snd85 .nil)) (fn := Try.f47) (cd := Try.f47.body.getD .skip) (by kernel_rfl) (by kernel_rfl) (by kernel_rfl) (by decide) (by kernel_rfl) (by kernel_rfl) (RGok_nil _) rfl (by kernel_rfl) (fuel0 run47)
def s51 : FSig := ⟨⟨[], [(0, (.agg (.acons (.sc .str) (.acons (.rd 4 .bool []) (.acons (.rd 4 .bool []) (.acons (.sc .str) (.acons (.sc .bool) (.acons (.rd 84 (.pair (.int .i64) (.pair (.int .i64) (.pair .str (.pair .bool (.slice 4 .bool))))) []) (.acons (.rd 84 (.pair (.int .i64) (.pair (.int .i64) (.pair .str (.pair .bool (.slice 4 .bool))))) []) .anil)))))))))]⟩, [], ⟨[], [(0, (.sc .str))]⟩, []⟩
noncomputable def S51 : CSum := s51.sum 1 (fun (x : ByteArray × List Bool × List Bool × ByteArray × Bool × List (Int × Int × ByteArray × Bool × List Bool) × List (Int × Int × ByteArray × Bool × List Bool)) => impl_Session_bytes x.1 x.2.1 x.2.2.1 x.2.2.2.1 x.2.2.2.2.1 x.2.2.2.2.2.1 x.2.2.2.2.2.2)
noncomputable def c51 : Cfg := ⟨tab, ccOf [(53, S53)], 31, lpOf [(0, ⟨[.box 29 (.acons (.sc .str) (.acons (.rd 4 .bool []) (.acons (.rd 4 .bool []) (.acons (.sc .str) (.acons (.sc .bool) (.acons (.rd 84 (.pair (.int .i64) (.pair (.int .i64) (.pair .str (.pair .bool (.slice 4 .bool))))) []) (.acons (.rd 84 (.pair (.int .i64) (.pair (.int .i64) (.pair .str (.pair .bool (.slice 4 .bool))))) []) .anil))))))), .row 5 (.int .u8)], [(1, (.ptr 0 0)), (3, (.own 1)), (11, (.rd 4 .bool [])), (12, (.sc (.int .i64))), (13, (.sc (.int .i64)))]⟩)], [], [], []⟩
theorem run51 (k : Nat) (x : ByteArray × List Bool × List Bool × ByteArray × Bool × List (Int × Int × ByteArray × Bool × List Bool) × List (Int × Int × ByteArray × Bool × List Bool)) : runF c51 k s51 Try.f51.results.toList (Try.f51.body.getD .skip) x = impl_Session_bytes.g k x.1 x.2.1 x.2.2.1 x.2.2.2.1 x.2.2.2.2.1 x.2.2.2.2.2.1 x.2.2.2.2.2.2 := by kernel_rfl
theorem snd51 : CSnd Try.prog 51 S51 := fn_ok mix (c := c51) tab_ok (ccOf_ok (.cons snd53 .nil)) (fn := Try.f51) (cd := Try.f51.body.getD .skip) (by kernel_rfl) (by kernel_rfl) (by kernel_rfl) (by decide) (by kernel_rfl) (by kernel_rfl) (RGok_nil _) rfl (by kernel_rfl) (fuel1 (G := fun k (x : ByteArray × List Bool × List Bool × ByteArray × Bool × List (Int × Int × ByteArray × Bool × List Bool) × List (Int × Int × ByteArray × Bool × List Bool)) => impl_Session_bytes.g k x.1 x.2.1 x.2.2.1 x.2.2.2.1 x.2.2.2.2.1 x.2.2.2.2.2.1 x.2.2.2.2.2.2) run51)
def s80 : FSig := ⟨⟨[.box 29 (.acons (.sc .str) (.acons (.own 1) (.acons (.own 2) (.acons (.sc .str) (.acons (.sc .bool) (.acons (.own 3) (.acons (.own 4) .anil))))))), .row 4 .bool, .row 4 .bool, .row 84 (.pair (.int .i64) (.pair (.int .i64) (.pair .str (.pair .bool (.slice 4 .bool))))), .row 84 (.pair (.int .i64) (.pair (.int .i64) (.pair .str (.pair .bool (.slice 4 .bool)))))], [(0, (.ptr 0 0)), (1, (.agg (.acons (.sc (.int .i64)) (.acons (.sc (.int .i64)) (.acons (.sc .str) (.acons (.sc .bool) (.acons (.rd 4 .bool [(3, 1), (4, 1)]) .anil)))))))]⟩, [0, 1, 2, 3, 4], ⟨[.box 29 (.acons (.sc .str) (.acons (.own 1) (.acons (.own 2) (.acons (.sc .str) (.acons (.sc .bool) (.acons (.own 3) (.acons (.own 4) .anil))))))), .row 4 .bool, .row 4 .bool, .row 84 (.pair (.int .i64) (.pair (.int .i64) (.pair .str (.pair .bool (.slice 4 .bool))))), .row 84 (.pair (.int .i64) (.pair (.int .i64) (.pair .str (.pair .bool (.slice 4 .bool)))))], []⟩, [1, 2, 3]⟩
noncomputable def S80 : CSum := s80.sum 2 (fun (x : Int × Int × ByteArray × Bool × List Bool × ByteArray × ByteArray × Bool × List Bool × List Bool × List (Int × Int × ByteArray × Bool × List Bool) × List (Int × Int × ByteArray × Bool × List Bool)) => impl_Session_take x.1 x.2.1 x.2.2.1 x.2.2.2.1 x.2.2.2.2.1 x.2.2.2.2.2.1 x.2.2.2.2.2.2.1 x.2.2.2.2.2.2.2.1 x.2.2.2.2.2.2.2.2.1 x.2.2.2.2.2.2.2.2.2.1 x.2.2.2.2.2.2.2.2.2.2.1 x.2.2.2.2.2.2.2.2.2.2.2)
noncomputable def c80 : Cfg := ⟨tab, ccOf [(47, S47), (51, S51), (86, S86)], 81, lpOf [(0, ⟨[.box 29 (.acons (.sc .str) (.acons (.own 1) (.acons (.own 2) (.acons (.sc .str) (.acons (.sc .bool) (.acons (.own 3) (.acons (.own 4) .anil))))))), .row 4 .bool, .row 4 .bool, .row 84 (.pair (.int .i64) (.pair (.int .i64) (.pair .str (.pair .bool (.slice 4 .bool))))), .row 84 (.pair (.int .i64) (.pair (.int .i64) (.pair .str (.pair .bool (.slice 4 .bool)))))], [(0, (.ptr 0 0)), (10, (.rd 4 .bool [(3, 1), (4, 1)])), (11, (.sc (.int .i64))), (12, (.sc (.int .i64)))]⟩)], [(0, 0), (1, 1), (2, 2), (3, 3), (4, 4)], [1, 2, 3], []⟩
theorem run80 (k : Nat) (x : Int × Int × ByteArray × Bool × List Bool × ByteArray × ByteArray × Bool × List Bool × List Bool × List (Int × Int × ByteArray × Bool × List Bool) × List (Int × Int × ByteArray × Bool × List Bool)) : runF c80 k s80 Try.f80.results.toList (Try.f80.body.getD .skip) x = impl_Session_take.g k x.1 x.2.1 x.2.2.1 x.2.2.2.1 x.2.2.2.2.1 x.2.2.2.2.2.1 x.2.2.2.2.2.2.1 x.2.2.2.2.2.2.2.1 x.2.2.2.2.2.2.2.2.1 x.2.2.2.2.2.2.2.2.2.1 x.2.2.2.2.2.2.2.2.2.2.1 x.2.2.2.2.2.2.2.2.2.2.2 := by kernel_rfl
theorem snd80 : CSnd Try.prog 80 S80 := fn_ok mix (c := c80) tab_ok (ccOf_ok (.cons snd47 (.cons snd51 (.cons snd86 .nil)))) (fn := Try.f80) (cd := Try.f80.body.getD .skip) (by kernel_rfl) (by kernel_rfl) (by kernel_rfl) (by decide) (by kernel_rfl) (by kernel_rfl) (RGok_nil _) rfl (by kernel_rfl) (fuel1 (G := fun k (x : Int × Int × ByteArray × Bool × List Bool × ByteArray × ByteArray × Bool × List Bool × List Bool × List (Int × Int × ByteArray × Bool × List Bool) × List (Int × Int × ByteArray × Bool × List Bool)) => impl_Session_take.g k x.1 x.2.1 x.2.2.1 x.2.2.2.1 x.2.2.2.2.1 x.2.2.2.2.2.1 x.2.2.2.2.2.2.1 x.2.2.2.2.2.2.2.1 x.2.2.2.2.2.2.2.2.1 x.2.2.2.2.2.2.2.2.2.1 x.2.2.2.2.2.2.2.2.2.2.1 x.2.2.2.2.2.2.2.2.2.2.2) run80)
def s43 : FSig := ⟨⟨[.box 29 (.acons (.sc .str) (.acons (.own 1) (.acons (.own 2) (.acons (.sc .str) (.acons (.sc .bool) (.acons (.own 3) (.acons (.own 4) .anil))))))), .row 4 .bool, .row 4 .bool, .row 84 (.pair (.int .i64) (.pair (.int .i64) (.pair .str (.pair .bool (.slice 4 .bool))))), .row 84 (.pair (.int .i64) (.pair (.int .i64) (.pair .str (.pair .bool (.slice 4 .bool)))))], [(0, (.ptr 0 0)), (1, (.agg (.acons (.sc (.int .i64)) (.acons (.sc .bool) (.acons (.sc (.int .i64)) .anil)))))]⟩, [0, 1, 2, 3, 4], ⟨[.box 29 (.acons (.sc .str) (.acons (.own 1) (.acons (.own 2) (.acons (.sc .str) (.acons (.sc .bool) (.acons (.own 3) (.acons (.own 4) .anil))))))), .row 4 .bool, .row 4 .bool, .row 84 (.pair (.int .i64) (.pair (.int .i64) (.pair .str (.pair .bool (.slice 4 .bool))))), .row 84 (.pair (.int .i64) (.pair (.int .i64) (.pair .str (.pair .bool (.slice 4 .bool)))))], [(0, (.sc .bool))]⟩, [1, 2]⟩
noncomputable def S43 : CSum := s43.sum 2 (fun (x : Int × Bool × Int × ByteArray × ByteArray × Bool × List Bool × List Bool × List (Int × Int × ByteArray × Bool × List Bool) × List (Int × Int × ByteArray × Bool × List Bool)) => impl_Session_step x.1 x.2.1 x.2.2.1 x.2.2.2.1 x.2.2.2.2.1 x.2.2.2.2.2.1 x.2.2.2.2.2.2.1 x.2.2.2.2.2.2.2.1 x.2.2.2.2.2.2.2.2.1 x.2.2.2.2.2.2.2.2.2)
noncomputable def c43 : Cfg := ⟨tab, ccOf [(52, S52), (53, S53), (65, S65), (78, S78), (79, S79), (80, S80)], 126, lpOf [(0, ⟨[.box 29 (.acons (.sc .str) (.acons (.own 1) (.acons (.own 2) (.acons (.sc .str) (.acons (.sc .bool) (.acons (.own 3) (.acons (.own 4) .anil))))))), .row 4 .bool, .row 4 .bool, .row 84 (.pair (.int .i64) (.pair (.int .i64) (.pair .str (.pair .bool (.slice 4 .bool))))), .row 84 (.pair (.int .i64) (.pair (.int .i64) (.pair .str (.pair .bool (.slice 4 .bool))))), .row 3 (.int .i64)], [(0, (.ptr 0 0)), (5, (.own 5)), (32, (.own 5)), (33, (.sc (.int .i64))), (34, (.sc (.int .i64)))]⟩)], [(0, 0), (1, 1), (2, 2), (3, 3), (4, 4)], [1, 2], []⟩
theorem run43 (k : Nat) (x : Int × Bool × Int × ByteArray × ByteArray × Bool × List Bool × List Bool × List (Int × Int × ByteArray × Bool × List Bool) × List (Int × Int × ByteArray × Bool × List Bool)) : runF c43 k s43 Try.f43.results.toList (Try.f43.body.getD .skip) x = impl_Session_step.g k x.1 x.2.1 x.2.2.1 x.2.2.2.1 x.2.2.2.2.1 x.2.2.2.2.2.1 x.2.2.2.2.2.2.1 x.2.2.2.2.2.2.2.1 x.2.2.2.2.2.2.2.2.1 x.2.2.2.2.2.2.2.2.2 := by kernel_rfl
theorem snd43 : CSnd Try.prog 43 S43 := fn_ok mix (c := c43) tab_ok (ccOf_ok (.cons snd52 (.cons snd53 (.cons snd65 (.cons snd78 (.cons snd79 (.cons snd80 .nil))))))) (fn := Try.f43) (cd := Try.f43.body.getD .skip) (by kernel_rfl) (by kernel_rfl) (by kernel_rfl) (by decide) (by kernel_rfl) (by kernel_rfl) (RGok_nil _) rfl (by kernel_rfl) (fuel1 (G := fun k (x : Int × Bool × Int × ByteArray × ByteArray × Bool × List Bool × List Bool × List (Int × Int × ByteArray × Bool × List Bool) × List (Int × Int × ByteArray × Bool × List Bool)) => impl_Session_step.g k x.1 x.2.1 x.2.2.1 x.2.2.2.1 x.2.2.2.2.1 x.2.2.2.2.2.1 x.2.2.2.2.2.2.1 x.2.2.2.2.2.2.2.1 x.2.2.2.2.2.2.2.2.1 x.2.2.2.2.2.2.2.2.2) run43)
def s9 : FSig := ⟨⟨[], [(0, (.sc .str)), (1, (.rd 41 (.pair (.int .i64) (.pair .bool (.int .i64))) []))]⟩, [], ⟨[.row 4 .bool, .row 4 .bool, .row 84 (.pair (.int .i64) (.pair (.int .i64) (.pair .str (.pair .bool (.slice 4 .bool))))), .row 84 (.pair (.int .i64) (.pair (.int .i64) (.pair .str (.pair .bool (.slice 4 .bool))))), .row 4 .bool], [(0, (.tup (.acons (.agg (.acons (.sc .str) (.acons (.own 0) (.acons (.own 1) (.acons (.sc .str) (.acons (.sc .bool) (.acons (.own 2) (.acons (.own 3) .anil)))))))) (.acons (.own 4) (.acons (.sc .bool) .anil)))))]⟩, []⟩
noncomputable def S9 : CSum := s9.sum 2 (fun (x : ByteArray × List (Int × Bool × Int)) => impl_PlaySession x.1 x.2)
noncomputable def c9 : Cfg := ⟨tab, ccOf [(24, S24), (43, S43)], 40, lpOf [(0, ⟨[.box 29 (.acons (.sc .str) (.acons .nil (.acons .nil (.acons (.sc .str) (.acons (.sc .bool) (.acons .nil (.acons .nil .anil))))))), .box 29 (.acons (.sc .str) (.acons (.own 3) (.acons (.own 4) (.acons (.sc .str) (.acons (.sc .bool) (.acons (.own 5) (.acons (.own 6) .anil))))))), .row 4 .bool, .row 4 .bool, .row 4 .bool, .row 84 (.pair (.int .i64) (.pair (.int .i64) (.pair .str (.pair .bool (.slice 4 .bool))))), .row 84 (.pair (.int .i64) (.pair (.int .i64) (.pair .str (.pair .bool (.slice 4 .bool)))))], [(4, (.ptr 0 0)), (7, (.ptr 1 0)), (9, (.own 2)), (26, (.rd 41 (.pair (.int .i64) (.pair .bool (.int .i64))) [])), (27, (.sc (.int .i64))), (28, (.sc (.int .i64)))]⟩)], [], [], []⟩
theorem run9 (k : Nat) (x : ByteArray × List (Int × Bool × Int)) : runF c9 k s9 Try.f9.results.toList (Try.f9.body.getD .skip) x = impl_PlaySession.g k x.1 x.2 := by kernel_rfl
theorem snd9 : CSnd Try.prog 9 S9 := fn_ok mix (c := c9) tab_ok (ccOf_ok (.cons snd24 (.cons snd43 .nil))) (fn := Try.f9) (cd := Try.f9.body.getD .skip) (by kernel_rfl) (by kernel_rfl) (by kernel_rfl) (by decide) (by kernel_rfl) (by kernel_rfl) (RGok_nil _) rfl (by kernel_rfl) (fuel1 (G := fun k (x : ByteArray × List (Int × Bool × Int)) => impl_PlaySession.g k x.1 x.2) run9)
def s58 : FSig := ⟨⟨[], [(0, (.sc (.int .i64))), (1, (.sc (.int .i64))), (2, (.sc (.int .i64)))]⟩, [], ⟨[], [(0, (.sc .bool))]⟩, []⟩
noncomputable def S58 : CSum := s58.sum 3 (fun (x : Int × Int × Int) => spec_l1In x.1 x.2.1 x.2.2)
noncomputable def c58 : Cfg := ⟨tab, ccOf [], 15, lpOf [], [], [], []⟩
theorem run58 (k : Nat) (x : Int × Int × Int) : runF c58 k s58 Try.f58.results.toList (Try.f58.body.getD .skip) x = spec_l1In x.1 x.2.1 x.2.2 := by kernel_rfl
theorem snd58 : CSnd Try.prog 58 S58 := fn_ok mix (c := c58) tab_ok (ccOf_ok (.nil)) (fn := Try.f58) (cd := Try.f58.body.getD .skip) (by kernel_rfl) (by kernel_rfl) (by kernel_rfl) (by decide) (by kernel_rfl) (by kernel_rfl) (RGok_nil _) rfl (by kernel_rfl) (fuel0 run58)
def s59 : FSig := ⟨⟨[], [(0, (.agg (.acons (.sc .str) (.acons (.rd 4 .bool []) (.acons (.rd 4 .bool []) (.acons (.sc .str) (.acons (.sc .bool) (.acons (.rd 84 (.pair (.int .i64) (.pair (.int .i64) (.pair .str (.pair .bool (.slice 4 .bool))))) []) (.acons (.rd 84 (.pair (.int .i64) (.pair (.int .i64) (.pair .str (.pair .bool (.slice 4 .bool))))) []) .anil)))))))))]⟩, [], ⟨[], [(0, (.sc (.int .i64)))]⟩, []⟩
noncomputable def S59 : CSum := s59.sum 1 (fun (x : ByteArray × List Bool × List Bool × ByteArray × Bool × List (Int × Int × ByteArray × Bool × List Bool) × List (Int × Int × ByteArray × Bool × List Bool)) => spec_l5Many x.1 x.2.1 x.2.2.1 x.2.2.2.1 x.2.2.2.2.1 x.2.2.2.2.2.1 x.2.2.2.2.2.2)
noncomputable def c59 : Cfg := ⟨tab, ccOf [], 9, lpOf [], [], [], []⟩
theorem run59 (k : Nat) (x : ByteArray × List Bool × List Bool × ByteArray × Bool × List (Int × Int × ByteArray × Bool × List Bool) × List (Int × Int × ByteArray × Bool × List Bool)) : runF c59 k s59 Try.f59.results.toList (Try.f59.body.getD .skip) x = spec_l5Many x.1 x.2.1 x.2.2.1 x.2.2.2.1 x.2.2.2.2.1 x.2.2.2.2.2.1 x.2.2.2.2.2.2 := by kernel_rfl
theorem snd59 : CSnd Try.prog 59 S59 := fn_ok mix (c := c59) tab_ok (ccOf_ok (.nil)) (fn := Try.f59) (cd := Try.f59.body.getD .skip) (by kernel_rfl) (by kernel_rfl) (by kernel_rfl) (by decide) (by kernel_rfl) (by kernel_rfl) (RGok_nil _) rfl (by kernel_rfl) (fuel0 run59)
def s25 : FSig := ⟨⟨[], [(0, (.sc .str))]⟩, [], ⟨[.row 4 .bool, .row 4 .bool], [(0, (.tup (.acons (.agg (.acons (.sc .str) (.acons (.own 0) (.acons (.own 1) (.acons (.sc .str) (.acons (.sc .bool) (.acons .nil (.acons .nil .anil)))))))) (.acons (.sc .bool) .anil))))]⟩, []⟩
noncomputable def S25 : CSum := s25.sum 1 (fun (x : ByteArray) => spec_NewSession x)
noncomputable def c25 : Cfg := ⟨tab, ccOf [(58, S58), (59, S59)], 25, lpOf [], [], [], []⟩
theorem run25 (k : Nat) (x : ByteArray) : runF c25 k s25 Try.f25.results.toList (Try.f25.body.getD .skip) x = spec_NewSession x := by kernel_rfl
theorem snd25 : CSnd Try.prog 25 S25 := fn_ok mix (c := c25) tab_ok (ccOf_ok (.cons snd58 (.cons snd59 .nil))) (fn := Try.f25) (cd := Try.f25.body.getD .skip) (by kernel_rfl) (by kernel_rfl) (by kernel_rfl) (by decide) (by kernel_rfl) (by kernel_rfl) (RGok_nil _) rfl (by kernel_rfl) (fuel0 run25)
def s66 : FSig := ⟨⟨[], [(0, (.agg (.acons (.sc .str) (.acons (.rd 4 .bool []) (.acons (.rd 4 .bool []) (.acons (.sc .str) (.acons (.sc .bool) (.acons (.rd 84 (.pair (.int .i64) (.pair (.int .i64) (.pair .str (.pair .bool (.slice 4 .bool))))) []) (.acons (.rd 84 (.pair (.int .i64) (.pair (.int .i64) (.pair .str (.pair .bool (.slice 4 .bool))))) []) .anil)))))))))]⟩, [], ⟨[.row 3 (.int .i64)], [(0, (.own 0))]⟩, []⟩
noncomputable def S66 : CSum := s66.sum 1 (fun (x : ByteArray × List Bool × List Bool × ByteArray × Bool × List (Int × Int × ByteArray × Bool × List Bool) × List (Int × Int × ByteArray × Bool × List Bool)) => spec_l5Left x.1 x.2.1 x.2.2.1 x.2.2.2.1 x.2.2.2.2.1 x.2.2.2.2.2.1 x.2.2.2.2.2.2)
noncomputable def c66 : Cfg := ⟨tab, ccOf [], 22, lpOf [(0, ⟨[.row 3 (.int .i64)], [(3, (.own 0)), (7, (.rd 4 .bool [])), (8, (.sc (.int .i64))), (9, (.sc (.int .i64)))]⟩)], [], [], []⟩
theorem run66 (k : Nat) (x : ByteArray × List Bool × List Bool × ByteArray × Bool × List (Int × Int × ByteArray × Bool × List Bool) × List (Int × Int × ByteArray × Bool × List Bool)) : runF c66 k s66 Try.f66.results.toList (Try.f66.body.getD .skip) x = spec_l5Left.g k x.1 x.2.1 x.2.2.1 x.2.2.2.1 x.2.2.2.2.1 x.2.2.2.2.2.1 x.2.2.2.2.2.2 := by kernel_rfl
theorem snd66 : CSnd Try.prog 66 S66 := fn_ok mix (c := c66) tab_ok (ccOf_ok (.nil)) (fn := Try.f66) (cd := Try.f66.body.getD .skip) (by kernel_rfl) (by kernel_rfl) (by kernel_rfl) (by decide) (by kernel_rfl) (by kernel_rfl) (RGok_nil _) rfl (by kernel_rfl) (fuel1 (G := fun k (x : ByteArray × List Bool × List Bool × ByteArray × Bool × List (Int × Int × ByteArray × Bool × List Bool) × List (Int × Int × ByteArray × Bool × List Bool)) => spec_l5Left.g k x.1 x.2.1 x.2.2.1 x.2.2.2.1 x.2.2.2.2.1 x.2.2.2.2.2.1 x.2.2.2.2.2.2) run66)
def s81 : FSig := ⟨⟨[], [(0, (.agg (.acons (.sc .str) (.acons (.rd 4 .bool []) (.acons (.rd 4 .bool []) (.acons (.sc .str) (.acons (.sc .bool) (.acons (.rd 84 (.pair (.int .i64) (.pair (.int .i64) (.pair .str (.pair .bool (.slice 4 .bool))))) []) (.acons (.rd 84 (.pair (.int .i64) (.pair (.int .i64) (.pair .str (.pair .bool (.slice 4 .bool))))) []) .anil))))))))), (1, (.sc (.int .i64)))]⟩, [], ⟨[], [(0, (.sc .str))]⟩, []⟩
noncomputable def S81 : CSum := s81.sum 2 (fun (x : ByteArray × List Bool × List Bool × ByteArray × Bool × List (Int × Int × ByteArray × Bool × List Bool) × List (Int × Int × ByteArray × Bool × List Bool) × Int) => spec_l5Text x.1 x.2.1 x.2.2.1 x.2.2.2.1 x.2.2.2.2.1 x.2.2.2.2.2.1 x.2.2.2.2.2.2.1 x.2.2.2.2.2.2.2)
noncomputable def c81 : Cfg := ⟨tab, ccOf [], 23, lpOf [], [], [], []⟩
theorem run81 (k : Nat) (x : ByteArray × List Bool × List Bool × ByteArray × Bool × List (Int × Int × ByteArray × Bool × List Bool) × List (Int × Int × ByteArray × Bool × List Bool) × Int) : runF c81 k s81 Try.f81.results.toList (Try.f81.body.getD .skip) x = spec_l5Text x.1 x.2.1 x.2.2.1 x.2.2.2.1 x.2.2.2.2.1 x.2.2.2.2.2.1 x.2.2.2.2.2.2.1 x.2.2.2.2.2.2.2 := by kernel_rfl
theorem snd81 : CSnd Try.prog 81 S81 := fn_ok mix (c := c81) tab_ok (ccOf_ok (.nil)) (fn := Try.f81) (cd := Try.f81.body.getD .skip) (by kernel_rfl) (by kernel_rfl) (by kernel_rfl) (by decide) (by kernel_rfl) (by kernel_rfl) (RGok_nil _) rfl (by kernel_rfl) (fuel0 run81)
def s82 : FSig := ⟨⟨[], [(0, (.rd 84 (.pair (.int .i64) (.pair (.int .i64) (.pair .str (.pair .bool (.slice 4 .bool))))) []))]⟩, [], ⟨[.row 84 (.pair (.int .i64) (.pair (.int .i64) (.pair .str (.pair .bool (.slice 4 .bool)))))], [(0, (.own 0))]⟩, []⟩
noncomputable def S82 : CSum := s82.sum 1 (fun (x : List (Int × Int × ByteArray × Bool × List Bool)) => spec_l5OwnSegments x)
noncomputable def c82 : Cfg := ⟨tab, ccOf [], 23, lpOf [(0, ⟨[.row 84 (.pair (.int .i64) (.pair (.int .i64) (.pair .str (.pair .bool (.slice 4 .bool)))))], [(3, (.own 0)), (6, (.rd 84 (.pair (.int .i64) (.pair (.int .i64) (.pair .str (.pair .bool (.slice 4 .bool))))) [])), (7, (.sc (.int .i64))), (8, (.sc (.int .i64)))]⟩)], [], [], []⟩
theorem run82 (k : Nat) (x : List (Int × Int × ByteArray × Bool × List Bool)) : runF c82 k s82 Try.f82.results.toList (Try.f82.body.getD .skip) x = spec_l5OwnSegments.g k x := by kernel_rfl
theorem snd82 : CSnd Try.prog 82 S82 := fn_ok mix (c := c82) tab_ok (ccOf_ok (.nil)) (fn := Try.f82) (cd := Try.f82.body.getD .skip) (by kernel_rfl) (by kernel_rfl) (by kernel_rfl) (by decide) (by kernel_rfl) (by kernel_rfl) (RGok_nil _) rfl (by kernel_rfl) (fuel1 (G := fun k (x : List (Int × Int × ByteArray × Bool × List Bool)) => spec_l5OwnSegments.g k x) run82)
noncomputable def S83 : CSum := withoutS 84 (.pair (.int .i64) (.pair (.int .i64) (.pair .str (.pair .bool (.slice 4 .bool)))))
def u27 : Ty := (.pair (.int .i64) (.pair (.int .i64) (.pair .str (.pair .bool (.slice 4 .bool)))))
theorem uok27 : TOk Try.prog 27 { ty := (.slice 84 (.pair (.int .i64) (.pair (.int .i64) (.pair .str (.pair .bool (.slice 4 .bool)))))), bytes := 64 } := tokB_ok (by kernel_rfl)
set_option maxHeartbeats 8000000 in
set_option maxRecDepth 100000 in
theorem without83_ {g n cap : Nat} {ok : Nat → Prop} (xs : List u27.den) (k : Nat) (w : World) (hs : Kd.S u27.kd 84 w 0 ok (.slice (some ⟨g, 0, none⟩) n cap) xs) (h1 : k < n) (hn : n ≤ 1000000) :
    Calls Try.prog 83 #[.slice (some ⟨g, 0, none⟩) n cap, .int .i64 (k : Int)] w fun en w' => ∃ v', en = .returned v' ∧ Kd.S u27.kd 84 w' 0 (fun b => ok b ∨ w.heap.size ≤ b) v' (xs.eraseIdx k) ∧ w.grownBy w' (some g) ∧ (v'.ownBlock = some g ∨ ∃ b, v'.ownBlock = some b ∧ w.heap.size ≤ b) := by
  have HS := Aside0.mk hs
  have hroom := (Kd.S_reads' hs).2.1
  have HN := Aside0.mk hn
  have HR := Aside0.mk hroom
  have HK := Aside0.mk h1
  have q1 : (0 : Int) ≤ (k : Int) := by omega
  have q2 : (k : Int) ≤ (cap : Int) := by omega
  have q3 : (0 : Int) ≤ (k : Int) + 1 := by omega
  have q4 : (k : Int) + 1 ≤ (n : Int) := by omega
  have q6 : k ≤ cap := by omega
  have q7 : Go.RowKit.wrap64 ((k : Int) + 1) = (k : Int) + 1 := IntWalk.wrap64_in _ ⟨by omega, by omega⟩
  have q8 : IntKind.i64.wrap ((k : Int) + 1) = (k : Int) + 1 := (IntKind.wrap_i64 _).trans (by have := q7; unfold Go.RowKit.wrap64 at this; exact this)
  clear hs hroom hn h1
  go_enter Try.func83, Try.ntmps83
  go_wp2
  refine start_ (n := 11) (S := fun _ => True) (ds := []) #[false, false, false, false, false, false, false, false, false, false, false] (by kernel_rfl) rfl rfl trivial (fun hHeld => ?_)
  have hdr := Aside0.mk (grown_of_below (below_drew (Below.refl w.heap.size w)) (some g) : w.grownBy w.drew (some g))
  have hsz : w.drew.heap.size = w.heap.size := rfl
  have n0_ := Aside0.mk (Kd.S_drew HS.out)
  have HZ := Aside0.mk hsz
  clear HS hsz
  have HS := n0_
  clear n0_
  generalize w.drew = w1 at HS HZ hdr hHeld ⊢
  have hr_ := HR.out
  have hk_ := HK.out
  obtain ⟨_, i84, z84, hi84, hsz84, _⟩ := uok27.slc 84 u27 rfl
  have hsz84 : i84.size = 5 := hsz84
  have hcutA := cut_from (P := Try.prog) 27 84 .i64 Try.underlying27 hi84 5 hsz84 (some ⟨g, 0, none⟩) n cap ((k : Int) + 1) (by omega) (by omega)
  rw [show ((k : Int) + 1).toNat = k + 1 by omega] at hcutA
  obtain ⟨A6, hA6⟩ : ∃ A6 : Option Addr, A6 = if cap = k + 1 then some ⟨g, 0, none⟩ else (some (⟨g, 0, none⟩ : Addr)).map (·.add ((k + 1) * 5)) := ⟨_, rfl⟩
  rw [← hA6] at hcutA
  obtain ⟨v1, w3, v2, w4, hrun1, hrun2, hS4, hg4, hat4⟩ := without_core (P := Try.prog) (ty := 27) (c1 := cap) (c2 := cap - (k + 1)) (A2 := A6) uok27 rfl HS.out HK.out (by have := HN.out; show n * 64 ≤ _; omega) (fun hlt => by
    rw [hA6, if_neg (by have := HR.out; omega)]
    show some (Addr.add ⟨g, 0, none⟩ _) = _
    rw [cell_add, Nat.zero_add]
    rfl)
  clear hA6
  have HA := Aside0.mk hrun1
  have HB := Aside0.mk hrun2
  have HF := Aside0.mk (And.intro hS4 (And.intro hg4 hat4))
  clear hrun1 hrun2 hS4 hg4 hat4
  refine pN_ 1 6 ?_
  refine pN_ 2 7 ?_
  refine pN_ 3 8 ?_
  refine pN_ 5 10 ?_
  refine pN_ 6 11 ?_
  refine pN_ 7 12 ?_
  refine pN_ 8 13 ?_
  refine one_ (i := 0) (N := some 5) #[true, true, true, true, false, true, true, true, true, false, false] rfl rfl (by kernel_rfl) (by decide) (fun K hK => ?_)
  refine value_ (v := .slice (some ⟨w1.heap.size, 0, none⟩) 0 0) (w1 := w1.alloc (.cells #[] 84)) rfl rfl (by go_simp <;> rfl) ?_
  refine hK.out _ _ trivial (fun _ => ?_)
  clear hK K
  refine norm_ (a' := ?_) (by simp only [Act.put, List.setIfInBounds_toArray, List.set_cons_zero, List.set_cons_succ, i64_w, i32_w]; rfl) ?_
  refine one_ (i := 4) (N := some 9) #[true, true, true, true, true, true, true, true, true, false, false] rfl rfl (by kernel_rfl) (by decide) (fun K hK => ?_)
  refine value_ (v := v1) (w1 := w3) rfl rfl (by simp [execOp, resolve, invoke, builtin, Act.eval, HA.out]) ?_
  refine hK.out _ _ trivial (fun _ => ?_)
  clear hK K
  refine norm_ (a' := ?_) (by simp only [Act.put, List.setIfInBounds_toArray, List.set_cons_zero, List.set_cons_succ, i64_w, i32_w]; rfl) ?_
  refine one_ (i := 9) (N := some 14) #[true, true, true, true, true, true, true, true, true, true, false] rfl rfl (by kernel_rfl) (by decide) (fun K hK => ?_)
  refine value_ (v := v2) (w1 := w4) rfl rfl (by simp [execOp, resolve, invoke, builtin, Act.eval, HB.out]) ?_
  refine hK.out _ _ trivial (fun _ => ?_)
  clear hK K
  refine norm_ (a' := ?_) (by simp only [Act.put, List.setIfInBounds_toArray, List.set_cons_zero, List.set_cons_succ, i64_w, i32_w]; rfl) ?_
  refine pN_ 10 4 ?_
  refine done_ (by kernel_rfl) ?_
  go_wp2
  go_ret
  have h6 := HF.out
  rw [HZ.out] at h6
  exact ⟨v2, rfl, h6.1, World.grownBy.trans hdr.out h6.2.1, .inr h6.2.2⟩
theorem snd83 : CSnd Try.prog 83 S83 := without_snd (e := 84) (t := u27) (fun args w => enter_fn (fn := Try.f83) (by kernel_rfl) (by kernel_rfl) (by kernel_rfl) args w)
  (fun w xs ok g n cap k hS hk hn => without83_ xs k w hS hk hn)

def s61 : FSig := ⟨⟨[], [(0, (.agg (.acons (.sc .str) (.acons (.rd 4 .bool []) (.acons (.rd 4 .bool []) (.acons (.sc .str) (.acons (.sc .bool) (.acons (.rd 84 (.pair (.int .i64) (.pair (.int .i64) (.pair .str (.pair .bool (.slice 4 .bool))))) []) (.acons (.rd 84 (.pair (.int .i64) (.pair (.int .i64) (.pair .str (.pair .bool (.slice 4 .bool))))) []) .anil)))))))))]⟩, [], ⟨[], [(0, (.sc .str))]⟩, []⟩
noncomputable def S61 : CSum := s61.sum 1 (fun (x : ByteArray × List Bool × List Bool × ByteArray × Bool × List (Int × Int × ByteArray × Bool × List Bool) × List (Int × Int × ByteArray × Bool × List Bool)) => spec_l5Bytes x.1 x.2.1 x.2.2.1 x.2.2.2.1 x.2.2.2.2.1 x.2.2.2.2.2.1 x.2.2.2.2.2.2)
noncomputable def c61 : Cfg := ⟨tab, ccOf [(59, S59), (81, S81)], 30, lpOf [(0, ⟨[.box 29 (.acons (.sc .str) (.acons (.rd 4 .bool []) (.acons (.rd 4 .bool []) (.acons (.sc .str) (.acons (.sc .bool) (.acons (.rd 84 (.pair (.int .i64) (.pair (.int .i64) (.pair .str (.pair .bool (.slice 4 .bool))))) []) (.acons (.rd 84 (.pair (.int .i64) (.pair (.int .i64) (.pair .str (.pair .bool (.slice 4 .bool))))) []) .anil)))))))], [(1, (.ptr 0 0)), (3, (.sc .str)), (4, (.sc (.int .i64)))]⟩)], [], [], []⟩
theorem run61 (k : Nat) (x : ByteArray × List Bool × List Bool × ByteArray × Bool × List (Int × Int × ByteArray × Bool × List Bool) × List (Int × Int × ByteArray × Bool × List Bool)) : runF c61 k s61 Try.f61.results.toList (Try.f61.body.getD .skip) x = spec_l5Bytes.g k x.1 x.2.1 x.2.2.1 x.2.2.2.1 x.2.2.2.2.1 x.2.2.2.2.2.1 x.2.2.2.2.2.2 := by kernel_rfl
theorem snd61 : CSnd Try.prog 61 S61 := fn_ok mix (c := c61) tab_ok (ccOf_ok (.cons snd59 (.cons snd81 .nil))) (fn := Try.f61) (cd := Try.f61.body.getD .skip) (by kernel_rfl) (by kernel_rfl) (by kernel_rfl) (by decide) (by kernel_rfl) (by kernel_rfl) (RGok_nil _) rfl (by kernel_rfl) (fuel1 (G := fun k (x : ByteArray × List Bool × List Bool × ByteArray × Bool × List (Int × Int × ByteArray × Bool × List Bool) × List (Int × Int × ByteArray × Bool × List Bool)) => spec_l5Bytes.g k x.1 x.2.1 x.2.2.1 x.2.2.2.1 x.2.2.2.2.1 x.2.2.2.2.2.1 x.2.2.2.2.2.2) run61)
def s62 : FSig := ⟨⟨[], [(0, (.rd 4 .bool []))]⟩, [], ⟨[], [(0, (.sc .bool))]⟩, []⟩
noncomputable def S62 : CSum := s62.sum 1 (fun (x : List Bool) => spec_l5AllTrue x)
noncomputable def c62 : Cfg := ⟨tab, ccOf [], 14, lpOf [(0, ⟨[], [(5, (.rd 4 .bool [])), (6, (.sc (.int .i64))), (7, (.sc (.int .i64)))]⟩)], [], [], []⟩
theorem run62 (k : Nat) (x : List Bool) : runF c62 k s62 Try.f62.results.toList (Try.f62.body.getD .skip) x = spec_l5AllTrue.g k x := by kernel_rfl
theorem snd62 : CSnd Try.prog 62 S62 := fn_ok mix (c := c62) tab_ok (ccOf_ok (.nil)) (fn := Try.f62) (cd := Try.f62.body.getD .skip) (by kernel_rfl) (by kernel_rfl) (by kernel_rfl) (by decide) (by kernel_rfl) (by kernel_rfl) (RGok_nil _) rfl (by kernel_rfl) (fuel1 (G := fun k (x : List Bool) => spec_l5AllTrue.g k x) run62)
def s84 : FSig := ⟨⟨[.row 4 .bool, .row 4 .bool, .row 84 (.pair (.int .i64) (.pair (.int .i64) (.pair .str (.pair .bool (.slice 4 .bool))))), .row 84 (.pair (.int .i64) (.pair (.int .i64) (.pair .str (.pair .bool (.slice 4 .bool)))))], [(0, (.agg (.acons (.sc .str) (.acons (.own 0) (.acons (.own 1) (.acons (.sc .str) (.acons (.sc .bool) (.acons (.own 2) (.acons (.own 3) .anil))))))))), (1, (.agg (.acons (.sc (.int .i64)) (.acons (.sc (.int .i64)) (.acons (.sc .str) (.acons (.sc .bool) (.acons (.rd 4 .bool [(2, 1), (3, 1)]) .anil)))))))]⟩, [0, 1, 2, 3], ⟨[.row 4 .bool, .row 4 .bool, .row 84 (.pair (.int .i64) (.pair (.int .i64) (.pair .str (.pair .bool (.slice 4 .bool))))), .row 84 (.pair (.int .i64) (.pair (.int .i64) (.pair .str (.pair .bool (.slice 4 .bool)))))], [(0, (.agg (.acons (.sc .str) (.acons (.own 0) (.acons (.own 1) (.acons (.sc .str) (.acons (.sc .bool) (.acons (.own 2) (.acons (.own 3) .anil)))))))))]⟩, [0, 1, 2]⟩
noncomputable def S84 : CSum := s84.sum 2 (fun (x : ByteArray × ByteArray × Bool × Int × Int × ByteArray × Bool × List Bool × List Bool × List Bool × List (Int × Int × ByteArray × Bool × List Bool) × List (Int × Int × ByteArray × Bool × List Bool)) => spec_l5Come x.1 x.2.1 x.2.2.1 x.2.2.2.1 x.2.2.2.2.1 x.2.2.2.2.2.1 x.2.2.2.2.2.2.1 x.2.2.2.2.2.2.2.1 x.2.2.2.2.2.2.2.2.1 x.2.2.2.2.2.2.2.2.2.1 x.2.2.2.2.2.2.2.2.2.2.1 x.2.2.2.2.2.2.2.2.2.2.2)
noncomputable def c84 : Cfg := ⟨tab, ccOf [(61, S61), (62, S62)], 63, lpOf [(0, ⟨[.row 4 .bool, .row 4 .bool, .row 84 (.pair (.int .i64) (.pair (.int .i64) (.pair .str (.pair .bool (.slice 4 .bool))))), .row 84 (.pair (.int .i64) (.pair (.int .i64) (.pair .str (.pair .bool (.slice 4 .bool))))), .box 29 (.acons (.sc .str) (.acons (.own 0) (.acons (.own 1) (.acons (.sc .str) (.acons (.sc .bool) (.acons (.own 2) (.acons (.own 3) .anil))))))), .box 29 (.acons (.sc .str) (.acons .nil (.acons .nil (.acons (.sc .str) (.acons (.sc .bool) (.acons .nil (.acons .nil .anil)))))))], [(2, (.ptr 4 0)), (4, (.ptr 5 0)), (11, (.rd 4 .bool [(2, 1), (3, 1)])), (12, (.sc (.int .i64))), (13, (.sc (.int .i64)))]⟩)], [(0, 0), (1, 1), (2, 2), (3, 3)], [0, 1, 2], []⟩
theorem run84 (k : Nat) (x : ByteArray × ByteArray × Bool × Int × Int × ByteArray × Bool × List Bool × List Bool × List Bool × List (Int × Int × ByteArray × Bool × List Bool) × List (Int × Int × ByteArray × Bool × List Bool)) : runF c84 k s84 Try.f84.results.toList (Try.f84.body.getD .skip) x = spec_l5Come.g k x.1 x.2.1 x.2.2.1 x.2.2.2.1 x.2.2.2.2.1 x.2.2.2.2.2.1 x.2.2.2.2.2.2.1 x.2.2.2.2.2.2.2.1 x.2.2.2.2.2.2.2.2.1 x.2.2.2.2.2.2.2.2.2.1 x.2.2.2.2.2.2.2.2.2.2.1 x.2.2.2.2.2.2.2.2.2.2.2 := by kernel_rfl
theorem snd84 : CSnd Try.prog 84 S84 := fn_ok mix (c := c84) tab_ok (ccOf_ok (.cons snd61 (.cons snd62 .nil))) (fn := Try.f84) (cd := Try.f84.body.getD .skip) (by kernel_rfl) (by kernel_rfl) (by kernel_rfl) (by decide) (by kernel_rfl) (by kernel_rfl) (RGok_nil _) rfl (by kernel_rfl) (fuel1 (G := fun k (x : ByteArray × ByteArray × Bool × Int × Int × ByteArray × Bool × List Bool × List Bool × List Bool × List (Int × Int × ByteArray × Bool × List Bool) × List (Int × Int × ByteArray × Bool × List Bool)) => spec_l5Come.g k x.1 x.2.1 x.2.2.1 x.2.2.2.1 x.2.2.2.2.1 x.2.2.2.2.2.1 x.2.2.2.2.2.2.1 x.2.2.2.2.2.2.2.1 x.2.2.2.2.2.2.2.2.1 x.2.2.2.2.2.2.2.2.2.1 x.2.2.2.2.2.2.2.2.2.2.1 x.2.2.2.2.2.2.2.2.2.2.2) run84)
def s44 : FSig := ⟨⟨[.row 4 .bool, .row 4 .bool, .row 84 (.pair (.int .i64) (.pair (.int .i64) (.pair .str (.pair .bool (.slice 4 .bool))))), .row 84 (.pair (.int .i64) (.pair (.int .i64) (.pair .str (.pair .bool (.slice 4 .bool)))))], [(0, (.agg (.acons (.sc .str) (.acons (.own 0) (.acons (.own 1) (.acons (.sc .str) (.acons (.sc .bool) (.acons (.own 2) (.acons (.own 3) .anil))))))))), (1, (.agg (.acons (.sc (.int .i64)) (.acons (.sc .bool) (.acons (.sc (.int .i64)) .anil)))))]⟩, [0, 1, 2, 3], ⟨[.row 4 .bool, .row 4 .bool, .row 84 (.pair (.int .i64) (.pair (.int .i64) (.pair .str (.pair .bool (.slice 4 .bool))))), .row 84 (.pair (.int .i64) (.pair (.int .i64) (.pair .str (.pair .bool (.slice 4 .bool)))))], [(0, (.tup (.acons (.agg (.acons (.sc .str) (.acons (.own 0) (.acons (.own 1) (.acons (.sc .str) (.acons (.sc .bool) (.acons (.own 2) (.acons (.own 3) .anil)))))))) (.acons (.sc .bool) .anil))))]⟩, [0, 1]⟩
noncomputable def S44 : CSum := s44.sum 2 (fun (x : ByteArray × ByteArray × Bool × Int × Bool × Int × List Bool × List Bool × List (Int × Int × ByteArray × Bool × List Bool) × List (Int × Int × ByteArray × Bool × List Bool)) => spec_l5Step x.1 x.2.1 x.2.2.1 x.2.2.2.1 x.2.2.2.2.1 x.2.2.2.2.2.1 x.2.2.2.2.2.2.1 x.2.2.2.2.2.2.2.1 x.2.2.2.2.2.2.2.2.1 x.2.2.2.2.2.2.2.2.2)
noncomputable def c44 : Cfg := ⟨tab, ccOf [(58, S58), (66, S66), (81, S81), (82, S82), (83, S83), (84, S84)], 110, lpOf [(0, ⟨[.row 4 .bool, .row 4 .bool, .row 84 (.pair (.int .i64) (.pair (.int .i64) (.pair .str (.pair .bool (.slice 4 .bool))))), .row 84 (.pair (.int .i64) (.pair (.int .i64) (.pair .str (.pair .bool (.slice 4 .bool))))), .box 29 (.acons (.sc .str) (.acons (.own 0) (.acons (.own 1) (.acons (.sc .str) (.acons (.sc .bool) (.acons (.own 2) (.acons (.own 3) .anil))))))), .box 29 (.acons (.sc .str) (.acons .nil (.acons .nil (.acons (.sc .str) (.acons (.sc .bool) (.acons .nil (.acons .nil .anil))))))), .row 3 (.int .i64)], [(2, (.ptr 4 0)), (4, (.ptr 5 0)), (6, (.own 6)), (29, (.own 6)), (30, (.sc (.int .i64))), (31, (.sc (.int .i64)))]⟩)], [(0, 0), (1, 1), (2, 2), (3, 3)], [0, 1], []⟩
theorem run44 (k : Nat) (x : ByteArray × ByteArray × Bool × Int × Bool × Int × List Bool × List Bool × List (Int × Int × ByteArray × Bool × List Bool) × List (Int × Int × ByteArray × Bool × List Bool)) : runF c44 k s44 Try.f44.results.toList (Try.f44.body.getD .skip) x = spec_l5Step.g k x.1 x.2.1 x.2.2.1 x.2.2.2.1 x.2.2.2.2.1 x.2.2.2.2.2.1 x.2.2.2.2.2.2.1 x.2.2.2.2.2.2.2.1 x.2.2.2.2.2.2.2.2.1 x.2.2.2.2.2.2.2.2.2 := by kernel_rfl
theorem snd44 : CSnd Try.prog 44 S44 := fn_ok mix (c := c44) tab_ok (ccOf_ok (.cons snd58 (.cons snd66 (.cons snd81 (.cons snd82 (.cons snd83 (.cons snd84 .nil))))))) (fn := Try.f44) (cd := Try.f44.body.getD .skip) (by kernel_rfl) (by kernel_rfl) (by kernel_rfl) (by decide) (by kernel_rfl) (by kernel_rfl) (RGok_nil _) rfl (by kernel_rfl) (fuel1 (G := fun k (x : ByteArray × ByteArray × Bool × Int × Bool × Int × List Bool × List Bool × List (Int × Int × ByteArray × Bool × List Bool) × List (Int × Int × ByteArray × Bool × List Bool)) => spec_l5Step.g k x.1 x.2.1 x.2.2.1 x.2.2.2.1 x.2.2.2.2.1 x.2.2.2.2.2.1 x.2.2.2.2.2.2.1 x.2.2.2.2.2.2.2.1 x.2.2.2.2.2.2.2.2.1 x.2.2.2.2.2.2.2.2.2) run44)
def s45 : FSig := ⟨⟨[], [(0, (.agg (.acons (.sc .str) (.acons (.rd 4 .bool []) (.acons (.rd 4 .bool []) (.acons (.sc .str) (.acons (.sc .bool) (.acons (.rd 84 (.pair (.int .i64) (.pair (.int .i64) (.pair .str (.pair .bool (.slice 4 .bool))))) []) (.acons (.rd 84 (.pair (.int .i64) (.pair (.int .i64) (.pair .str (.pair .bool (.slice 4 .bool))))) []) .anil)))))))))]⟩, [], ⟨[.row 4 .bool, .row 4 .bool, .row 84 (.pair (.int .i64) (.pair (.int .i64) (.pair .str (.pair .bool (.slice 4 .bool))))), .row 84 (.pair (.int .i64) (.pair (.int .i64) (.pair .str (.pair .bool (.slice 4 .bool)))))], [(0, (.agg (.acons (.sc .str) (.acons (.own 0) (.acons (.own 1) (.acons (.sc .str) (.acons (.sc .bool) (.acons (.own 2) (.acons (.own 3) .anil)))))))))]⟩, []⟩
noncomputable def S45 : CSum := s45.sum 1 (fun (x : ByteArray × List Bool × List Bool × ByteArray × Bool × List (Int × Int × ByteArray × Bool × List Bool) × List (Int × Int × ByteArray × Bool × List Bool)) => spec_l5Own x.1 x.2.1 x.2.2.1 x.2.2.2.1 x.2.2.2.2.1 x.2.2.2.2.2.1 x.2.2.2.2.2.2)
noncomputable def c45 : Cfg := ⟨tab, ccOf [(82, S82)], 22, lpOf [], [], [], []⟩
theorem run45 (k : Nat) (x : ByteArray × List Bool × List Bool × ByteArray × Bool × List (Int × Int × ByteArray × Bool × List Bool) × List (Int × Int × ByteArray × Bool × List Bool)) : runF c45 k s45 Try.f45.results.toList (Try.f45.body.getD .skip) x = spec_l5Own x.1 x.2.1 x.2.2.1 x.2.2.2.1 x.2.2.2.2.1 x.2.2.2.2.2.1 x.2.2.2.2.2.2 := by kernel_rfl
theorem snd45 : CSnd Try.prog 45 S45 := fn_ok mix (c := c45) tab_ok (ccOf_ok (.cons snd82 .nil)) (fn := Try.f45) (cd := Try.f45.body.getD .skip) (by kernel_rfl) (by kernel_rfl) (by kernel_rfl) (by decide) (by kernel_rfl) (by kernel_rfl) (RGok_nil _) rfl (by kernel_rfl) (fuel0 run45)
def s10 : FSig := ⟨⟨[], [(0, (.sc .str)), (1, (.rd 41 (.pair (.int .i64) (.pair .bool (.int .i64))) []))]⟩, [], ⟨[.row 4 .bool, .row 4 .bool, .row 84 (.pair (.int .i64) (.pair (.int .i64) (.pair .str (.pair .bool (.slice 4 .bool))))), .row 84 (.pair (.int .i64) (.pair (.int .i64) (.pair .str (.pair .bool (.slice 4 .bool))))), .row 4 .bool], [(0, (.tup (.acons (.agg (.acons (.sc .str) (.acons (.own 0) (.acons (.own 1) (.acons (.sc .str) (.acons (.sc .bool) (.acons (.own 2) (.acons (.own 3) .anil)))))))) (.acons (.own 4) (.acons (.sc .bool) .anil)))))]⟩, []⟩
noncomputable def S10 : CSum := s10.sum 2 (fun (x : ByteArray × List (Int × Bool × Int)) => spec_PlaySession x.1 x.2)
noncomputable def c10 : Cfg := ⟨tab, ccOf [(25, S25), (44, S44), (45, S45)], 50, lpOf [(0, ⟨[.box 29 (.acons (.sc .str) (.acons .nil (.acons .nil (.acons (.sc .str) (.acons (.sc .bool) (.acons .nil (.acons .nil .anil))))))), .box 29 (.acons (.sc .str) (.acons (.own 3) (.acons (.own 4) (.acons (.sc .str) (.acons (.sc .bool) (.acons (.own 5) (.acons (.own 6) .anil))))))), .row 4 .bool, .row 4 .bool, .row 4 .bool, .row 84 (.pair (.int .i64) (.pair (.int .i64) (.pair .str (.pair .bool (.slice 4 .bool))))), .row 84 (.pair (.int .i64) (.pair (.int .i64) (.pair .str (.pair .bool (.slice 4 .bool)))))], [(4, (.ptr 0 0)), (7, (.ptr 1 0)), (9, (.own 2)), (27, (.rd 41 (.pair (.int .i64) (.pair .bool (.int .i64))) [])), (28, (.sc (.int .i64))), (29, (.sc (.int .i64)))]⟩)], [], [], []⟩
theorem run10 (k : Nat) (x : ByteArray × List (Int × Bool × Int)) : runF c10 k s10 Try.f10.results.toList (Try.f10.body.getD .skip) x = spec_PlaySession.g k x.1 x.2 := by kernel_rfl
theorem snd10 : CSnd Try.prog 10 S10 := fn_ok mix (c := c10) tab_ok (ccOf_ok (.cons snd25 (.cons snd44 (.cons snd45 .nil)))) (fn := Try.f10) (cd := Try.f10.body.getD .skip) (by kernel_rfl) (by kernel_rfl) (by kernel_rfl) (by decide) (by kernel_rfl) (by kernel_rfl) (RGok_nil _) rfl (by kernel_rfl) (fuel1 (G := fun k (x : ByteArray × List (Int × Bool × Int)) => spec_PlaySession.g k x.1 x.2) run10)
def s27 : FSig := ⟨⟨[], [(0, (.rd 65 (.pair (.int .i64) (.pair .bool (.int .i64))) [])), (1, (.sc (.int .i64)))]⟩, [], ⟨[], [(0, (.sc (.int .i64)))]⟩, []⟩
noncomputable def S27 : CSum := s27.sum 2 (fun (x : List (Int × Bool × Int) × Int) => laws_szSesStepS x.1 x.2)
noncomputable def c27 : Cfg := ⟨tab, ccOf [], 12, lpOf [], [], [], []⟩
theorem run27 (k : Nat) (x : List (Int × Bool × Int) × Int) : runF c27 k s27 Try.f27.results.toList (Try.f27.body.getD .skip) x = laws_szSesStepS x.1 x.2 := by kernel_rfl
theorem snd27 : CSnd Try.prog 27 S27 := fn_ok mix (c := c27) tab_ok (ccOf_ok (.nil)) (fn := Try.f27) (cd := Try.f27.body.getD .skip) (by kernel_rfl) (by kernel_rfl) (by kernel_rfl) (by decide) (by kernel_rfl) (by kernel_rfl) (RGok_nil _) rfl (by kernel_rfl) (fuel0 run27)
def s39 : FSig := ⟨⟨[], [(0, (.agg (.acons (.sc (.int .i64)) (.acons (.sc .bool) (.acons (.sc (.int .i64)) .anil)))))]⟩, [], ⟨[], [(0, (.agg (.acons (.sc (.int .i64)) (.acons (.sc .bool) (.acons (.sc (.int .i64)) .anil)))))]⟩, []⟩
noncomputable def S39 : CSum := s39.sum 1 (fun (x : Int × Bool × Int) => laws_toSesStep x.1 x.2.1 x.2.2)
noncomputable def c39 : Cfg := ⟨tab, ccOf [], 14, lpOf [], [], [], []⟩
theorem run39 (k : Nat) (x : Int × Bool × Int) : runF c39 k s39 Try.f39.results.toList (Try.f39.body.getD .skip) x = laws_toSesStep x.1 x.2.1 x.2.2 := by kernel_rfl
theorem snd39 : CSnd Try.prog 39 S39 := fn_ok mix (c := c39) tab_ok (ccOf_ok (.nil)) (fn := Try.f39) (cd := Try.f39.body.getD .skip) (by kernel_rfl) (by kernel_rfl) (by kernel_rfl) (by decide) (by kernel_rfl) (by kernel_rfl) (RGok_nil _) rfl (by kernel_rfl) (fuel0 run39)
def s28 : FSig := ⟨⟨[], [(0, (.rd 65 (.pair (.int .i64) (.pair .bool (.int .i64))) []))]⟩, [], ⟨[.row 41 (.pair (.int .i64) (.pair .bool (.int .i64)))], [(0, (.own 0))]⟩, []⟩
noncomputable def S28 : CSum := s28.sum 1 (fun (x : List (Int × Bool × Int)) => laws_toSesStepS x)
noncomputable def c28 : Cfg := ⟨tab, ccOf [(39, S39)], 23, lpOf [(0, ⟨[.row 41 (.pair (.int .i64) (.pair .bool (.int .i64)))], [(0, (.rd 65 (.pair (.int .i64) (.pair .bool (.int .i64))) [])), (3, (.own 0)), (4, (.sc (.int .i64)))]⟩)], [], [], []⟩
theorem run28 (k : Nat) (x : List (Int × Bool × Int)) : runF c28 k s28 Try.f28.results.toList (Try.f28.body.getD .skip) x = laws_toSesStepS.g k x := by kernel_rfl
theorem snd28 : CSnd Try.prog 28 S28 := fn_ok mix (c := c28) tab_ok (ccOf_ok (.cons snd39 .nil)) (fn := Try.f28) (cd := Try.f28.body.getD .skip) (by kernel_rfl) (by kernel_rfl) (by kernel_rfl) (by decide) (by kernel_rfl) (by kernel_rfl) (RGok_nil _) rfl (by kernel_rfl) (fuel1 (G := fun k (x : List (Int × Bool × Int)) => laws_toSesStepS.g k x) run28)
def s30 : FSig := ⟨⟨[], [(0, (.rd 4 .bool [])), (1, (.rd 4 .bool []))]⟩, [], ⟨[], [(0, (.sc .bool))]⟩, []⟩
noncomputable def S30 : CSum := s30.sum 2 (fun (x : List Bool × List Bool) => laws_eqBoolS x.1 x.2)
noncomputable def c30 : Cfg := ⟨tab, ccOf [], 26, lpOf [(0, ⟨[], [(0, (.rd 4 .bool [])), (1, (.rd 4 .bool [])), (5, (.sc (.int .i64)))]⟩)], [], [], []⟩
theorem run30 (k : Nat) (x : List Bool × List Bool) : runF c30 k s30 Try.f30.results.toList (Try.f30.body.getD .skip) x = laws_eqBoolS.g k x.1 x.2 := by kernel_rfl
theorem snd30 : CSnd Try.prog 30 S30 := fn_ok mix (c := c30) tab_ok (ccOf_ok (.nil)) (fn := Try.f30) (cd := Try.f30.body.getD .skip) (by kernel_rfl) (by kernel_rfl) (by kernel_rfl) (by decide) (by kernel_rfl) (by kernel_rfl) (RGok_nil _) rfl (by kernel_rfl) (fuel1 (G := fun k (x : List Bool × List Bool) => laws_eqBoolS.g k x.1 x.2) run30)
def s88 : FSig := ⟨⟨[], [(0, (.agg (.acons (.sc (.int .i64)) (.acons (.sc (.int .i64)) (.acons (.sc .str) (.acons (.sc .bool) (.acons (.rd 4 .bool []) .anil))))))), (1, (.agg (.acons (.sc (.int .i64)) (.acons (.sc (.int .i64)) (.acons (.sc .str) (.acons (.sc .bool) (.acons (.rd 4 .bool []) .anil)))))))]⟩, [], ⟨[], [(0, (.sc .bool))]⟩, []⟩
noncomputable def S88 : CSum := s88.sum 2 (fun (x : Int × Int × ByteArray × Bool × List Bool × Int × Int × ByteArray × Bool × List Bool) => laws_eqSegment x.1 x.2.1 x.2.2.1 x.2.2.2.1 x.2.2.2.2.1 x.2.2.2.2.2.1 x.2.2.2.2.2.2.1 x.2.2.2.2.2.2.2.1 x.2.2.2.2.2.2.2.2.1 x.2.2.2.2.2.2.2.2.2)
noncomputable def c88 : Cfg := ⟨tab, ccOf [(30, S30)], 31, lpOf [], [], [], []⟩
theorem run88 (k : Nat) (x : Int × Int × ByteArray × Bool × List Bool × Int × Int × ByteArray × Bool × List Bool) : runF c88 k s88 Try.f88.results.toList (Try.f88.body.getD .skip) x = laws_eqSegment x.1 x.2.1 x.2.2.1 x.2.2.2.1 x.2.2.2.2.1 x.2.2.2.2.2.1 x.2.2.2.2.2.2.1 x.2.2.2.2.2.2.2.1 x.2.2.2.2.2.2.2.2.1 x.2.2.2.2.2.2.2.2.2 := by kernel_rfl
theorem snd88 : CSnd Try.prog 88 S88 := fn_ok mix (c := c88) tab_ok (ccOf_ok (.cons snd30 .nil)) (fn := Try.f88) (cd := Try.f88.body.getD .skip) (by kernel_rfl) (by kernel_rfl) (by kernel_rfl) (by decide) (by kernel_rfl) (by kernel_rfl) (RGok_nil _) rfl (by kernel_rfl) (fuel0 run88)
def s67 : FSig := ⟨⟨[], [(0, (.rd 84 (.pair (.int .i64) (.pair (.int .i64) (.pair .str (.pair .bool (.slice 4 .bool))))) [])), (1, (.rd 84 (.pair (.int .i64) (.pair (.int .i64) (.pair .str (.pair .bool (.slice 4 .bool))))) []))]⟩, [], ⟨[], [(0, (.sc .bool))]⟩, []⟩
noncomputable def S67 : CSum := s67.sum 2 (fun (x : List (Int × Int × ByteArray × Bool × List Bool) × List (Int × Int × ByteArray × Bool × List Bool)) => laws_eqSegmentS x.1 x.2)
noncomputable def c67 : Cfg := ⟨tab, ccOf [(88, S88)], 27, lpOf [(0, ⟨[], [(0, (.rd 84 (.pair (.int .i64) (.pair (.int .i64) (.pair .str (.pair .bool (.slice 4 .bool))))) [])), (1, (.rd 84 (.pair (.int .i64) (.pair (.int .i64) (.pair .str (.pair .bool (.slice 4 .bool))))) [])), (5, (.sc (.int .i64)))]⟩)], [], [], []⟩
theorem run67 (k : Nat) (x : List (Int × Int × ByteArray × Bool × List Bool) × List (Int × Int × ByteArray × Bool × List Bool)) : runF c67 k s67 Try.f67.results.toList (Try.f67.body.getD .skip) x = laws_eqSegmentS.g k x.1 x.2 := by kernel_rfl
theorem snd67 : CSnd Try.prog 67 S67 := fn_ok mix (c := c67) tab_ok (ccOf_ok (.cons snd88 .nil)) (fn := Try.f67) (cd := Try.f67.body.getD .skip) (by kernel_rfl) (by kernel_rfl) (by kernel_rfl) (by decide) (by kernel_rfl) (by kernel_rfl) (RGok_nil _) rfl (by kernel_rfl) (fuel1 (G := fun k (x : List (Int × Int × ByteArray × Bool × List Bool) × List (Int × Int × ByteArray × Bool × List Bool)) => laws_eqSegmentS.g k x.1 x.2) run67)
def s29 : FSig := ⟨⟨[], [(0, (.agg (.acons (.sc .str) (.acons (.rd 4 .bool []) (.acons (.rd 4 .bool []) (.acons (.sc .str) (.acons (.sc .bool) (.acons (.rd 84 (.pair (.int .i64) (.pair (.int .i64) (.pair .str (.pair .bool (.slice 4 .bool))))) []) (.acons (.rd 84 (.pair (.int .i64) (.pair (.int .i64) (.pair .str (.pair .bool (.slice 4 .bool))))) []) .anil))))))))), (1, (.agg (.acons (.sc .str) (.acons (.rd 4 .bool []) (.acons (.rd 4 .bool []) (.acons (.sc .str) (.acons (.sc .bool) (.acons (.rd 84 (.pair (.int .i64) (.pair (.int .i64) (.pair .str (.pair .bool (.slice 4 .bool))))) []) (.acons (.rd 84 (.pair (.int .i64) (.pair (.int .i64) (.pair .str (.pair .bool (.slice 4 .bool))))) []) .anil)))))))))]⟩, [], ⟨[], [(0, (.sc .bool))]⟩, []⟩
noncomputable def S29 : CSum := s29.sum 2 (fun (x : ByteArray × List Bool × List Bool × ByteArray × Bool × List (Int × Int × ByteArray × Bool × List Bool) × List (Int × Int × ByteArray × Bool × List Bool) × ByteArray × List Bool × List Bool × ByteArray × Bool × List (Int × Int × ByteArray × Bool × List Bool) × List (Int × Int × ByteArray × Bool × List Bool)) => laws_eqSession x.1 x.2.1 x.2.2.1 x.2.2.2.1 x.2.2.2.2.1 x.2.2.2.2.2.1 x.2.2.2.2.2.2.1 x.2.2.2.2.2.2.2.1 x.2.2.2.2.2.2.2.2.1 x.2.2.2.2.2.2.2.2.2.1 x.2.2.2.2.2.2.2.2.2.2.1 x.2.2.2.2.2.2.2.2.2.2.2.1 x.2.2.2.2.2.2.2.2.2.2.2.2.1 x.2.2.2.2.2.2.2.2.2.2.2.2.2)
noncomputable def c29 : Cfg := ⟨tab, ccOf [(30, S30), (67, S67)], 44, lpOf [], [], [], []⟩
theorem run29 (k : Nat) (x : ByteArray × List Bool × List Bool × ByteArray × Bool × List (Int × Int × ByteArray × Bool × List Bool) × List (Int × Int × ByteArray × Bool × List Bool) × ByteArray × List Bool × List Bool × ByteArray × Bool × List (Int × Int × ByteArray × Bool × List Bool) × List (Int × Int × ByteArray × Bool × List Bool)) : runF c29 k s29 Try.f29.results.toList (Try.f29.body.getD .skip) x = laws_eqSession x.1 x.2.1 x.2.2.1 x.2.2.2.1 x.2.2.2.2.1 x.2.2.2.2.2.1 x.2.2.2.2.2.2.1 x.2.2.2.2.2.2.2.1 x.2.2.2.2.2.2.2.2.1 x.2.2.2.2.2.2.2.2.2.1 x.2.2.2.2.2.2.2.2.2.2.1 x.2.2.2.2.2.2.2.2.2.2.2.1 x.2.2.2.2.2.2.2.2.2.2.2.2.1 x.2.2.2.2.2.2.2.2.2.2.2.2.2 := by kernel_rfl
theorem snd29 : CSnd Try.prog 29 S29 := fn_ok mix (c := c29) tab_ok (ccOf_ok (.cons snd30 (.cons snd67 .nil))) (fn := Try.f29) (cd := Try.f29.body.getD .skip) (by kernel_rfl) (by kernel_rfl) (by kernel_rfl) (by decide) (by kernel_rfl) (by kernel_rfl) (RGok_nil _) rfl (by kernel_rfl) (fuel0 run29)
def s68 : FSig := ⟨⟨[], [(0, (.agg (.acons (.sc (.int .i64)) (.acons (.sc .bool) (.acons (.sc (.int .i64)) .anil))))), (1, (.agg (.acons (.sc (.int .i64)) (.acons (.sc .bool) (.acons (.sc (.int .i64)) .anil)))))]⟩, [], ⟨[], [(0, (.sc .bool))]⟩, []⟩
noncomputable def S68 : CSum := s68.sum 2 (fun (x : Int × Bool × Int × Int × Bool × Int) => laws_eqSesStep x.1 x.2.1 x.2.2.1 x.2.2.2.1 x.2.2.2.2.1 x.2.2.2.2.2)
noncomputable def c68 : Cfg := ⟨tab, ccOf [], 20, lpOf [], [], [], []⟩
theorem run68 (k : Nat) (x : Int × Bool × Int × Int × Bool × Int) : runF c68 k s68 Try.f68.results.toList (Try.f68.body.getD .skip) x = laws_eqSesStep x.1 x.2.1 x.2.2.1 x.2.2.2.1 x.2.2.2.2.1 x.2.2.2.2.2 := by kernel_rfl
theorem snd68 : CSnd Try.prog 68 S68 := fn_ok mix (c := c68) tab_ok (ccOf_ok (.nil)) (fn := Try.f68) (cd := Try.f68.body.getD .skip) (by kernel_rfl) (by kernel_rfl) (by kernel_rfl) (by decide) (by kernel_rfl) (by kernel_rfl) (RGok_nil _) rfl (by kernel_rfl) (fuel0 run68)
def s31 : FSig := ⟨⟨[], [(0, (.rd 41 (.pair (.int .i64) (.pair .bool (.int .i64))) [])), (1, (.rd 41 (.pair (.int .i64) (.pair .bool (.int .i64))) []))]⟩, [], ⟨[], [(0, (.sc .bool))]⟩, []⟩
noncomputable def S31 : CSum := s31.sum 2 (fun (x : List (Int × Bool × Int) × List (Int × Bool × Int)) => laws_eqSesStepS x.1 x.2)
noncomputable def c31 : Cfg := ⟨tab, ccOf [(68, S68)], 27, lpOf [(0, ⟨[], [(0, (.rd 41 (.pair (.int .i64) (.pair .bool (.int .i64))) [])), (1, (.rd 41 (.pair (.int .i64) (.pair .bool (.int .i64))) [])), (5, (.sc (.int .i64)))]⟩)], [], [], []⟩
theorem run31 (k : Nat) (x : List (Int × Bool × Int) × List (Int × Bool × Int)) : runF c31 k s31 Try.f31.results.toList (Try.f31.body.getD .skip) x = laws_eqSesStepS.g k x.1 x.2 := by kernel_rfl
theorem snd31 : CSnd Try.prog 31 S31 := fn_ok mix (c := c31) tab_ok (ccOf_ok (.cons snd68 .nil)) (fn := Try.f31) (cd := Try.f31.body.getD .skip) (by kernel_rfl) (by kernel_rfl) (by kernel_rfl) (by decide) (by kernel_rfl) (by kernel_rfl) (RGok_nil _) rfl (by kernel_rfl) (fuel1 (G := fun k (x : List (Int × Bool × Int) × List (Int × Bool × Int)) => laws_eqSesStepS.g k x.1 x.2) run31)
def s32 : FSig := ⟨⟨[.row 41 (.pair (.int .i64) (.pair .bool (.int .i64)))], [(0, (.own 0)), (1, (.sc (.int .i64)))]⟩, [0], ⟨[.row 41 (.pair (.int .i64) (.pair .bool (.int .i64)))], [(0, (.sc (.int .i64)))]⟩, [0]⟩
noncomputable def S32 : CSum := s32.sum 2 (fun (x : Int × List (Int × Bool × Int)) => laws_markSesStepS x.1 x.2)
noncomputable def c32 : Cfg := ⟨tab, ccOf [], 36, lpOf [(0, ⟨[.row 41 (.pair (.int .i64) (.pair .bool (.int .i64)))], [(0, (.own 0)), (1, (.sc (.int .i64))), (5, (.sc (.int .i64)))]⟩)], [(0, 0)], [0], []⟩
theorem run32 (k : Nat) (x : Int × List (Int × Bool × Int)) : runF c32 k s32 Try.f32.results.toList (Try.f32.body.getD .skip) x = laws_markSesStepS.g k x.1 x.2 := by kernel_rfl
theorem snd32 : CSnd Try.prog 32 S32 := fn_ok mix (c := c32) tab_ok (ccOf_ok (.nil)) (fn := Try.f32) (cd := Try.f32.body.getD .skip) (by kernel_rfl) (by kernel_rfl) (by kernel_rfl) (by decide) (by kernel_rfl) (by kernel_rfl) (RGok_nil _) rfl (by kernel_rfl) (fuel1 (G := fun k (x : Int × List (Int × Bool × Int)) => laws_markSesStepS.g k x.1 x.2) run32)
def s34 : FSig := ⟨⟨[.row 4 .bool], [(0, (.own 0)), (1, (.sc (.int .i64)))]⟩, [0], ⟨[.row 4 .bool], [(0, (.sc (.int .i64)))]⟩, [0]⟩
noncomputable def S34 : CSum := s34.sum 2 (fun (x : Int × List Bool) => laws_markBoolS x.1 x.2)
noncomputable def c34 : Cfg := ⟨tab, ccOf [], 21, lpOf [(0, ⟨[.row 4 .bool], [(0, (.own 0)), (1, (.sc (.int .i64))), (5, (.sc (.int .i64)))]⟩)], [(0, 0)], [0], []⟩
theorem run34 (k : Nat) (x : Int × List Bool) : runF c34 k s34 Try.f34.results.toList (Try.f34.body.getD .skip) x = laws_markBoolS.g k x.1 x.2 := by kernel_rfl
theorem snd34 : CSnd Try.prog 34 S34 := fn_ok mix (c := c34) tab_ok (ccOf_ok (.nil)) (fn := Try.f34) (cd := Try.f34.body.getD .skip) (by kernel_rfl) (by kernel_rfl) (by kernel_rfl) (by decide) (by kernel_rfl) (by kernel_rfl) (RGok_nil _) rfl (by kernel_rfl) (fuel1 (G := fun k (x : Int × List Bool) => laws_markBoolS.g k x.1 x.2) run34)
def s89 : FSig := ⟨⟨[], [(0, (.sc (.int .i64)))]⟩, [], ⟨[], [(0, (.sc .str))]⟩, []⟩
noncomputable def S89 : CSum := s89.sum 1 (fun (x : Int) => laws_markText x)
noncomputable def c89 : Cfg := ⟨tab, ccOf [], 20, lpOf [(0, ⟨[], [(0, (.sc (.int .i64))), (3, (.sc .str))]⟩)], [], [], []⟩
theorem run89 (k : Nat) (x : Int) : runF c89 k s89 Try.f89.results.toList (Try.f89.body.getD .skip) x = laws_markText.g k x := by kernel_rfl
theorem snd89 : CSnd Try.prog 89 S89 := fn_ok mix (c := c89) tab_ok (ccOf_ok (.nil)) (fn := Try.f89) (cd := Try.f89.body.getD .skip) (by kernel_rfl) (by kernel_rfl) (by kernel_rfl) (by decide) (by kernel_rfl) (by kernel_rfl) (RGok_nil _) rfl (by kernel_rfl) (fuel1 (G := fun k (x : Int) => laws_markText.g k x) run89)
def s69 : FSig := ⟨⟨[.row 84 (.pair (.int .i64) (.pair (.int .i64) (.pair .str (.pair .bool (.slice 4 .bool)))))], [(0, (.own 0)), (1, (.sc (.int .i64)))]⟩, [0], ⟨[.row 84 (.pair (.int .i64) (.pair (.int .i64) (.pair .str (.pair .bool (.slice 4 .bool)))))], [(0, (.sc (.int .i64)))]⟩, [0]⟩
noncomputable def S69 : CSum := s69.sum 2 (fun (x : Int × List (Int × Int × ByteArray × Bool × List Bool)) => laws_markSegmentS x.1 x.2)
noncomputable def c69 : Cfg := ⟨tab, ccOf [(34, subS 0 S34), (89, S89)], 51, lpOf [(0, ⟨[.row 84 (.pair (.int .i64) (.pair (.int .i64) (.pair .str (.pair .bool (.slice 4 .bool)))))], [(0, (.own 0)), (1, (.sc (.int .i64))), (5, (.sc (.int .i64)))]⟩)], [(0, 0)], [0], []⟩
theorem run69 (k : Nat) (x : Int × List (Int × Int × ByteArray × Bool × List Bool)) : runF c69 k s69 Try.f69.results.toList (Try.f69.body.getD .skip) x = laws_markSegmentS.g k x.1 x.2 := by kernel_rfl
theorem snd69 : CSnd Try.prog 69 S69 := fn_ok mix (c := c69) tab_ok (ccOf_ok (.cons (subS_ok 0 snd34) (.cons snd89 .nil))) (fn := Try.f69) (cd := Try.f69.body.getD .skip) (by kernel_rfl) (by kernel_rfl) (by kernel_rfl) (by decide) (by kernel_rfl) (by kernel_rfl) (RGok_nil _) rfl (by kernel_rfl) (fuel1 (G := fun k (x : Int × List (Int × Int × ByteArray × Bool × List Bool)) => laws_markSegmentS.g k x.1 x.2) run69)
def s33 : FSig := ⟨⟨[.row 4 .bool, .row 4 .bool, .row 84 (.pair (.int .i64) (.pair (.int .i64) (.pair .str (.pair .bool (.slice 4 .bool))))), .row 84 (.pair (.int .i64) (.pair (.int .i64) (.pair .str (.pair .bool (.slice 4 .bool)))))], [(0, (.agg (.acons (.sc .str) (.acons (.own 0) (.acons (.own 1) (.acons (.sc .str) (.acons (.sc .bool) (.acons (.own 2) (.acons (.own 3) .anil))))))))), (1, (.sc (.int .i64)))]⟩, [0, 1, 2, 3], ⟨[.row 4 .bool, .row 4 .bool, .row 84 (.pair (.int .i64) (.pair (.int .i64) (.pair .str (.pair .bool (.slice 4 .bool))))), .row 84 (.pair (.int .i64) (.pair (.int .i64) (.pair .str (.pair .bool (.slice 4 .bool)))))], [(0, (.sc (.int .i64)))]⟩, [0, 1, 2, 3]⟩
noncomputable def S33 : CSum := s33.sum 2 (fun (x : ByteArray × ByteArray × Bool × Int × List Bool × List Bool × List (Int × Int × ByteArray × Bool × List Bool) × List (Int × Int × ByteArray × Bool × List Bool)) => laws_markSession x.1 x.2.1 x.2.2.1 x.2.2.2.1 x.2.2.2.2.1 x.2.2.2.2.2.1 x.2.2.2.2.2.2.1 x.2.2.2.2.2.2.2)
noncomputable def c33 : Cfg := ⟨tab, ccOf [(34, subS 0 S34), (69, S69)], 22, lpOf [], [(0, 0), (1, 1), (2, 2), (3, 3)], [0, 1, 2, 3], []⟩
theorem run33 (k : Nat) (x : ByteArray × ByteArray × Bool × Int × List Bool × List Bool × List (Int × Int × ByteArray × Bool × List Bool) × List (Int × Int × ByteArray × Bool × List Bool)) : runF c33 k s33 Try.f33.results.toList (Try.f33.body.getD .skip) x = laws_markSession x.1 x.2.1 x.2.2.1 x.2.2.2.1 x.2.2.2.2.1 x.2.2.2.2.2.1 x.2.2.2.2.2.2.1 x.2.2.2.2.2.2.2 := by kernel_rfl
theorem snd33 : CSnd Try.prog 33 S33 := fn_ok mix (c := c33) tab_ok (ccOf_ok (.cons (subS_ok 0 snd34) (.cons snd69 .nil))) (fn := Try.f33) (cd := Try.f33.body.getD .skip) (by kernel_rfl) (by kernel_rfl) (by kernel_rfl) (by decide) (by kernel_rfl) (by kernel_rfl) (RGok_nil _) rfl (by kernel_rfl) (fuel0 run33)
def s36 : FSig := ⟨⟨[], [(0, (.rd 4 .bool [])), (1, (.sc (.int .i64)))]⟩, [], ⟨[], [(0, (.sc (.int .i64)))]⟩, []⟩
noncomputable def S36 : CSum := s36.sum 2 (fun (x : List Bool × Int) => laws_heldBoolS x.1 x.2)
noncomputable def c36 : Cfg := ⟨tab, ccOf [], 23, lpOf [(0, ⟨[], [(0, (.rd 4 .bool [])), (1, (.sc (.int .i64))), (5, (.sc (.int .i64)))]⟩)], [], [], []⟩
theorem run36 (k : Nat) (x : List Bool × Int) : runF c36 k s36 Try.f36.results.toList (Try.f36.body.getD .skip) x = laws_heldBoolS.g k x.1 x.2 := by kernel_rfl
theorem snd36 : CSnd Try.prog 36 S36 := fn_ok mix (c := c36) tab_ok (ccOf_ok (.nil)) (fn := Try.f36) (cd := Try.f36.body.getD .skip) (by kernel_rfl) (by kernel_rfl) (by kernel_rfl) (by decide) (by kernel_rfl) (by kernel_rfl) (RGok_nil _) rfl (by kernel_rfl) (fuel1 (G := fun k (x : List Bool × Int) => laws_heldBoolS.g k x.1 x.2) run36)
def s70 : FSig := ⟨⟨[], [(0, (.rd 84 (.pair (.int .i64) (.pair (.int .i64) (.pair .str (.pair .bool (.slice 4 .bool))))) [])), (1, (.sc (.int .i64)))]⟩, [], ⟨[], [(0, (.sc (.int .i64)))]⟩, []⟩
noncomputable def S70 : CSum := s70.sum 2 (fun (x : List (Int × Int × ByteArray × Bool × List Bool) × Int) => laws_heldSegmentS x.1 x.2)
noncomputable def c70 : Cfg := ⟨tab, ccOf [(36, S36), (89, S89)], 61, lpOf [(0, ⟨[], [(0, (.rd 84 (.pair (.int .i64) (.pair (.int .i64) (.pair .str (.pair .bool (.slice 4 .bool))))) [])), (1, (.sc (.int .i64))), (5, (.sc (.int .i64)))]⟩)], [], [], []⟩
theorem run70 (k : Nat) (x : List (Int × Int × ByteArray × Bool × List Bool) × Int) : runF c70 k s70 Try.f70.results.toList (Try.f70.body.getD .skip) x = laws_heldSegmentS.g k x.1 x.2 := by kernel_rfl
theorem snd70 : CSnd Try.prog 70 S70 := fn_ok mix (c := c70) tab_ok (ccOf_ok (.cons snd36 (.cons snd89 .nil))) (fn := Try.f70) (cd := Try.f70.body.getD .skip) (by kernel_rfl) (by kernel_rfl) (by kernel_rfl) (by decide) (by kernel_rfl) (by kernel_rfl) (RGok_nil _) rfl (by kernel_rfl) (fuel1 (G := fun k (x : List (Int × Int × ByteArray × Bool × List Bool) × Int) => laws_heldSegmentS.g k x.1 x.2) run70)
def s35 : FSig := ⟨⟨[], [(0, (.agg (.acons (.sc .str) (.acons (.rd 4 .bool []) (.acons (.rd 4 .bool []) (.acons (.sc .str) (.acons (.sc .bool) (.acons (.rd 84 (.pair (.int .i64) (.pair (.int .i64) (.pair .str (.pair .bool (.slice 4 .bool))))) []) (.acons (.rd 84 (.pair (.int .i64) (.pair (.int .i64) (.pair .str (.pair .bool (.slice 4 .bool))))) []) .anil))))))))), (1, (.sc (.int .i64)))]⟩, [], ⟨[], [(0, (.sc (.int .i64)))]⟩, []⟩
noncomputable def S35 : CSum := s35.sum 2 (fun (x : ByteArray × List Bool × List Bool × ByteArray × Bool × List (Int × Int × ByteArray × Bool × List Bool) × List (Int × Int × ByteArray × Bool × List Bool) × Int) => laws_heldSession x.1 x.2.1 x.2.2.1 x.2.2.2.1 x.2.2.2.2.1 x.2.2.2.2.2.1 x.2.2.2.2.2.2.1 x.2.2.2.2.2.2.2)
noncomputable def c35 : Cfg := ⟨tab, ccOf [(36, S36), (70, S70)], 30, lpOf [], [], [], []⟩
theorem run35 (k : Nat) (x : ByteArray × List Bool × List Bool × ByteArray × Bool × List (Int × Int × ByteArray × Bool × List Bool) × List (Int × Int × ByteArray × Bool × List Bool) × Int) : runF c35 k s35 Try.f35.results.toList (Try.f35.body.getD .skip) x = laws_heldSession x.1 x.2.1 x.2.2.1 x.2.2.2.1 x.2.2.2.2.1 x.2.2.2.2.2.1 x.2.2.2.2.2.2.1 x.2.2.2.2.2.2.2 := by kernel_rfl
theorem snd35 : CSnd Try.prog 35 S35 := fn_ok mix (c := c35) tab_ok (ccOf_ok (.cons snd36 (.cons snd70 .nil))) (fn := Try.f35) (cd := Try.f35.body.getD .skip) (by kernel_rfl) (by kernel_rfl) (by kernel_rfl) (by decide) (by kernel_rfl) (by kernel_rfl) (RGok_nil _) rfl (by kernel_rfl) (fuel0 run35)
def s5 : FSig := ⟨⟨[], [(0, (.sc .str)), (1, (.rd 65 (.pair (.int .i64) (.pair .bool (.int .i64))) []))]⟩, [], ⟨[], [(0, (.sc .bool))]⟩, []⟩
noncomputable def S5 : CSum := s5.sum 2 (fun (x : ByteArray × List (Int × Bool × Int)) => laws_FnExactPlaySession x.1 x.2)
noncomputable def c5 : Cfg := ⟨tab, ccOf [(9, S9), (10, S10), (27, S27), (28, S28), (29, S29), (30, S30), (31, S31), (32, S32), (33, S33), (34, subS 0 S34), (35, S35), (36, S36)], 141, lpOf [], [], [], []⟩
theorem run5 (k : Nat) (x : ByteArray × List (Int × Bool × Int)) : runF c5 k s5 Try.f5.results.toList (Try.f5.body.getD .skip) x = laws_FnExactPlaySession x.1 x.2 := by kernel_rfl
theorem snd5 : CSnd Try.prog 5 S5 := fn_ok mix (c := c5) tab_ok (ccOf_ok (.cons snd9 (.cons snd10 (.cons snd27 (.cons snd28 (.cons snd29 (.cons snd30 (.cons snd31 (.cons snd32 (.cons snd33 (.cons (subS_ok 0 snd34) (.cons snd35 (.cons snd36 .nil))))))))))))) (fn := Try.f5) (cd := Try.f5.body.getD .skip) (by kernel_rfl) (by kernel_rfl) (by kernel_rfl) (by decide) (by kernel_rfl) (by kernel_rfl) (RGok_nil _) rfl (by kernel_rfl) (fuel0 run5)
def s50 : FSig := ⟨⟨[], [(0, (.rd 4 .bool [])), (1, (.rd 4 .bool []))]⟩, [], ⟨[], [(0, (.sc .bool))]⟩, []⟩
noncomputable def S50 : CSum := s50.sum 2 (fun (x : List Bool × List Bool) => impl_below x.1 x.2)
noncomputable def c50 : Cfg := ⟨tab, ccOf [], 28, lpOf [(0, ⟨[], [(1, (.rd 4 .bool [])), (12, (.rd 4 .bool [])), (13, (.sc (.int .i64))), (14, (.sc (.int .i64)))]⟩)], [], [], []⟩
theorem run50 (k : Nat) (x : List Bool × List Bool) : runF c50 k s50 Try.f50.results.toList (Try.f50.body.getD .skip) x = impl_below.g k x.1 x.2 := by kernel_rfl
theorem snd50 : CSnd Try.prog 50 S50 := fn_ok mix (c := c50) tab_ok (ccOf_ok (.nil)) (fn := Try.f50) (cd := Try.f50.body.getD .skip) (by kernel_rfl) (by kernel_rfl) (by kernel_rfl) (by decide) (by kernel_rfl) (by kernel_rfl) (RGok_nil _) rfl (by kernel_rfl) (fuel1 (G := fun k (x : List Bool × List Bool) => impl_below.g k x.1 x.2) run50)
def s14 : FSig := ⟨⟨[], [(0, (.agg (.acons (.sc .str) (.acons (.rd 4 .bool []) (.acons (.rd 4 .bool []) (.acons (.sc .str) (.acons (.sc .bool) (.acons (.rd 84 (.pair (.int .i64) (.pair (.int .i64) (.pair .str (.pair .bool (.slice 4 .bool))))) []) (.acons (.rd 84 (.pair (.int .i64) (.pair (.int .i64) (.pair .str (.pair .bool (.slice 4 .bool))))) []) .anil)))))))))]⟩, [], ⟨[], [(0, (.sc .bool))]⟩, []⟩
noncomputable def S14 : CSum := s14.sum 1 (fun (x : ByteArray × List Bool × List Bool × ByteArray × Bool × List (Int × Int × ByteArray × Bool × List Bool) × List (Int × Int × ByteArray × Bool × List Bool)) => impl_GoodSession x.1 x.2.1 x.2.2.1 x.2.2.2.1 x.2.2.2.2.1 x.2.2.2.2.2.1 x.2.2.2.2.2.2)
noncomputable def c14 : Cfg := ⟨tab, ccOf [(47, S47), (48, S48), (49, S49), (50, S50), (51, S51), (52, S52), (53, S53)], 125, lpOf [(0, ⟨[.box 29 (.acons (.sc .str) (.acons (.rd 4 .bool []) (.acons (.rd 4 .bool []) (.acons (.sc .str) (.acons (.sc .bool) (.acons (.rd 84 (.pair (.int .i64) (.pair (.int .i64) (.pair .str (.pair .bool (.slice 4 .bool))))) []) (.acons (.rd 84 (.pair (.int .i64) (.pair (.int .i64) (.pair .str (.pair .bool (.slice 4 .bool))))) []) .anil)))))))], [(1, (.ptr 0 0)), (56, (.rd 84 (.pair (.int .i64) (.pair (.int .i64) (.pair .str (.pair .bool (.slice 4 .bool))))) [])), (57, (.sc (.int .i64))), (58, (.sc (.int .i64)))]⟩), (2, ⟨[.box 29 (.acons (.sc .str) (.acons (.rd 4 .bool []) (.acons (.rd 4 .bool []) (.acons (.sc .str) (.acons (.sc .bool) (.acons (.rd 84 (.pair (.int .i64) (.pair (.int .i64) (.pair .str (.pair .bool (.slice 4 .bool))))) []) (.acons (.rd 84 (.pair (.int .i64) (.pair (.int .i64) (.pair .str (.pair .bool (.slice 4 .bool))))) []) .anil)))))))], [(1, (.ptr 0 0)), (93, (.rd 84 (.pair (.int .i64) (.pair (.int .i64) (.pair .str (.pair .bool (.slice 4 .bool))))) [])), (94, (.sc (.int .i64))), (95, (.sc (.int .i64)))]⟩)], [], [], []⟩
theorem run14 (k : Nat) (x : ByteArray × List Bool × List Bool × ByteArray × Bool × List (Int × Int × ByteArray × Bool × List Bool) × List (Int × Int × ByteArray × Bool × List Bool)) : runF c14 k s14 Try.f14.results.toList (Try.f14.body.getD .skip) x = impl_GoodSession.g k x.1 x.2.1 x.2.2.1 x.2.2.2.1 x.2.2.2.2.1 x.2.2.2.2.2.1 x.2.2.2.2.2.2 := by kernel_rfl
theorem snd14 : CSnd Try.prog 14 S14 := fn_ok mix (c := c14) tab_ok (ccOf_ok (.cons snd47 (.cons snd48 (.cons snd49 (.cons snd50 (.cons snd51 (.cons snd52 (.cons snd53 .nil)))))))) (fn := Try.f14) (cd := Try.f14.body.getD .skip) (by kernel_rfl) (by kernel_rfl) (by kernel_rfl) (by decide) (by kernel_rfl) (by kernel_rfl) (RGok_nil _) rfl (by kernel_rfl) (fuel1 (G := fun k (x : ByteArray × List Bool × List Bool × ByteArray × Bool × List (Int × Int × ByteArray × Bool × List Bool) × List (Int × Int × ByteArray × Bool × List Bool)) => impl_GoodSession.g k x.1 x.2.1 x.2.2.1 x.2.2.2.1 x.2.2.2.2.1 x.2.2.2.2.2.1 x.2.2.2.2.2.2) run14)
def s54 : FSig := ⟨⟨[], [(0, (.agg (.acons (.sc .str) (.acons (.rd 4 .bool []) (.acons (.rd 4 .bool []) (.acons (.sc .str) (.acons (.sc .bool) (.acons (.rd 84 (.pair (.int .i64) (.pair (.int .i64) (.pair .str (.pair .bool (.slice 4 .bool))))) []) (.acons (.rd 84 (.pair (.int .i64) (.pair (.int .i64) (.pair .str (.pair .bool (.slice 4 .bool))))) []) .anil)))))))))]⟩, [], ⟨[.row 4 .bool, .row 4 .bool, .row 84 (.pair (.int .i64) (.pair (.int .i64) (.pair .str (.pair .bool (.slice 4 .bool))))), .row 84 (.pair (.int .i64) (.pair (.int .i64) (.pair .str (.pair .bool (.slice 4 .bool)))))], [(0, (.agg (.acons (.sc .str) (.acons (.own 0) (.acons (.own 1) (.acons (.sc .str) (.acons (.sc .bool) (.acons (.own 2) (.acons (.own 3) .anil)))))))))]⟩, []⟩
noncomputable def S54 : CSum := s54.sum 1 (fun (x : ByteArray × List Bool × List Bool × ByteArray × Bool × List (Int × Int × ByteArray × Bool × List Bool) × List (Int × Int × ByteArray × Bool × List Bool)) => impl_Session_copied x.1 x.2.1 x.2.2.1 x.2.2.2.1 x.2.2.2.2.1 x.2.2.2.2.2.1 x.2.2.2.2.2.2)
noncomputable def c54 : Cfg := ⟨tab, ccOf [(78, S78), (86, S86)], 50, lpOf [(0, ⟨[.box 29 (.acons (.sc .str) (.acons (.own 4) (.acons (.own 5) (.acons (.sc .str) (.acons (.sc .bool) (.acons (.rd 84 (.pair (.int .i64) (.pair (.int .i64) (.pair .str (.pair .bool (.slice 4 .bool))))) []) (.acons (.rd 84 (.pair (.int .i64) (.pair (.int .i64) (.pair .str (.pair .bool (.slice 4 .bool))))) []) .anil))))))), .box 29 (.acons (.sc .str) (.acons .nil (.acons .nil (.acons (.sc .str) (.acons (.sc .bool) (.acons .nil (.acons .nil .anil))))))), .row 84 (.pair (.int .i64) (.pair (.int .i64) (.pair .str (.pair .bool (.slice 4 .bool))))), .row 84 (.pair (.int .i64) (.pair (.int .i64) (.pair .str (.pair .bool (.slice 4 .bool))))), .row 4 .bool, .row 4 .bool], [(1, (.ptr 0 0)), (2, (.ptr 1 0)), (3, (.own 2)), (4, (.own 3)), (20, (.rd 84 (.pair (.int .i64) (.pair (.int .i64) (.pair .str (.pair .bool (.slice 4 .bool))))) [])), (21, (.sc (.int .i64))), (22, (.sc (.int .i64)))]⟩), (2, ⟨[.box 29 (.acons (.sc .str) (.acons (.own 4) (.acons (.own 5) (.acons (.sc .str) (.acons (.sc .bool) (.acons (.rd 84 (.pair (.int .i64) (.pair (.int .i64) (.pair .str (.pair .bool (.slice 4 .bool))))) []) (.acons (.rd 84 (.pair (.int .i64) (.pair (.int .i64) (.pair .str (.pair .bool (.slice 4 .bool))))) []) .anil))))))), .box 29 (.acons (.sc .str) (.acons .nil (.acons .nil (.acons (.sc .str) (.acons (.sc .bool) (.acons .nil (.acons .nil .anil))))))), .row 84 (.pair (.int .i64) (.pair (.int .i64) (.pair .str (.pair .bool (.slice 4 .bool))))), .row 84 (.pair (.int .i64) (.pair (.int .i64) (.pair .str (.pair .bool (.slice 4 .bool))))), .row 4 .bool, .row 4 .bool], [(1, (.ptr 0 0)), (2, (.ptr 1 0)), (3, (.own 2)), (4, (.own 3)), (33, (.rd 84 (.pair (.int .i64) (.pair (.int .i64) (.pair .str (.pair .bool (.slice 4 .bool))))) [])), (34, (.sc (.int .i64))), (35, (.sc (.int .i64)))]⟩)], [], [], []⟩
theorem run54 (k : Nat) (x : ByteArray × List Bool × List Bool × ByteArray × Bool × List (Int × Int × ByteArray × Bool × List Bool) × List (Int × Int × ByteArray × Bool × List Bool)) : runF c54 k s54 Try.f54.results.toList (Try.f54.body.getD .skip) x = impl_Session_copied.g k x.1 x.2.1 x.2.2.1 x.2.2.2.1 x.2.2.2.2.1 x.2.2.2.2.2.1 x.2.2.2.2.2.2 := by kernel_rfl
theorem snd54 : CSnd Try.prog 54 S54 := fn_ok mix (c := c54) tab_ok (ccOf_ok (.cons snd78 (.cons snd86 .nil))) (fn := Try.f54) (cd := Try.f54.body.getD .skip) (by kernel_rfl) (by kernel_rfl) (by kernel_rfl) (by decide) (by kernel_rfl) (by kernel_rfl) (RGok_nil _) rfl (by kernel_rfl) (fuel1 (G := fun k (x : ByteArray × List Bool × List Bool × ByteArray × Bool × List (Int × Int × ByteArray × Bool × List Bool) × List (Int × Int × ByteArray × Bool × List Bool)) => impl_Session_copied.g k x.1 x.2.1 x.2.2.1 x.2.2.2.1 x.2.2.2.2.1 x.2.2.2.2.2.1 x.2.2.2.2.2.2) run54)
def s17 : FSig := ⟨⟨[], [(0, (.agg (.acons (.sc .str) (.acons (.rd 4 .bool []) (.acons (.rd 4 .bool []) (.acons (.sc .str) (.acons (.sc .bool) (.acons (.rd 84 (.pair (.int .i64) (.pair (.int .i64) (.pair .str (.pair .bool (.slice 4 .bool))))) []) (.acons (.rd 84 (.pair (.int .i64) (.pair (.int .i64) (.pair .str (.pair .bool (.slice 4 .bool))))) []) .anil))))))))), (1, (.agg (.acons (.sc (.int .i64)) (.acons (.sc .bool) (.acons (.sc (.int .i64)) .anil)))))]⟩, [], ⟨[.row 4 .bool, .row 4 .bool, .row 84 (.pair (.int .i64) (.pair (.int .i64) (.pair .str (.pair .bool (.slice 4 .bool))))), .row 84 (.pair (.int .i64) (.pair (.int .i64) (.pair .str (.pair .bool (.slice 4 .bool)))))], [(0, (.tup (.acons (.agg (.acons (.sc .str) (.acons (.own 0) (.acons (.own 1) (.acons (.sc .str) (.acons (.sc .bool) (.acons (.own 2) (.acons (.own 3) .anil)))))))) (.acons (.sc .bool) .anil))))]⟩, []⟩
noncomputable def S17 : CSum := s17.sum 2 (fun (x : ByteArray × List Bool × List Bool × ByteArray × Bool × List (Int × Int × ByteArray × Bool × List Bool) × List (Int × Int × ByteArray × Bool × List Bool) × Int × Bool × Int) => impl_StepSession x.1 x.2.1 x.2.2.1 x.2.2.2.1 x.2.2.2.2.1 x.2.2.2.2.2.1 x.2.2.2.2.2.2.1 x.2.2.2.2.2.2.2.1 x.2.2.2.2.2.2.2.2.1 x.2.2.2.2.2.2.2.2.2)
noncomputable def c17 : Cfg := ⟨tab, ccOf [(14, S14), (43, S43), (54, S54)], 18, lpOf [], [], [], []⟩
theorem run17 (k : Nat) (x : ByteArray × List Bool × List Bool × ByteArray × Bool × List (Int × Int × ByteArray × Bool × List Bool) × List (Int × Int × ByteArray × Bool × List Bool) × Int × Bool × Int) : runF c17 k s17 Try.f17.results.toList (Try.f17.body.getD .skip) x = impl_StepSession x.1 x.2.1 x.2.2.1 x.2.2.2.1 x.2.2.2.2.1 x.2.2.2.2.2.1 x.2.2.2.2.2.2.1 x.2.2.2.2.2.2.2.1 x.2.2.2.2.2.2.2.2.1 x.2.2.2.2.2.2.2.2.2 := by kernel_rfl
theorem snd17 : CSnd Try.prog 17 S17 := fn_ok mix (c := c17) tab_ok (ccOf_ok (.cons snd14 (.cons snd43 (.cons snd54 .nil)))) (fn := Try.f17) (cd := Try.f17.body.getD .skip) (by kernel_rfl) (by kernel_rfl) (by kernel_rfl) (by decide) (by kernel_rfl) (by kernel_rfl) (RGok_nil _) rfl (by kernel_rfl) (fuel0 run17)
def s60 : FSig := ⟨⟨[], [(0, (.rd 4 .bool [])), (1, (.rd 4 .bool []))]⟩, [], ⟨[], [(0, (.sc .bool))]⟩, []⟩
noncomputable def S60 : CSum := s60.sum 2 (fun (x : List Bool × List Bool) => spec_l5Within x.1 x.2)
noncomputable def c60 : Cfg := ⟨tab, ccOf [], 28, lpOf [(0, ⟨[], [(0, (.rd 4 .bool [])), (1, (.rd 4 .bool [])), (12, (.sc (.int .i64))), (13, (.sc (.int .i64)))]⟩)], [], [], []⟩
theorem run60 (k : Nat) (x : List Bool × List Bool) : runF c60 k s60 Try.f60.results.toList (Try.f60.body.getD .skip) x = spec_l5Within.g k x.1 x.2 := by kernel_rfl
theorem snd60 : CSnd Try.prog 60 S60 := fn_ok mix (c := c60) tab_ok (ccOf_ok (.nil)) (fn := Try.f60) (cd := Try.f60.body.getD .skip) (by kernel_rfl) (by kernel_rfl) (by kernel_rfl) (by decide) (by kernel_rfl) (by kernel_rfl) (RGok_nil _) rfl (by kernel_rfl) (fuel1 (G := fun k (x : List Bool × List Bool) => spec_l5Within.g k x.1 x.2) run60)
def s63 : FSig := ⟨⟨[], [(0, (.agg (.acons (.sc .str) (.acons (.rd 4 .bool []) (.acons (.rd 4 .bool []) (.acons (.sc .str) (.acons (.sc .bool) (.acons (.rd 84 (.pair (.int .i64) (.pair (.int .i64) (.pair .str (.pair .bool (.slice 4 .bool))))) []) (.acons (.rd 84 (.pair (.int .i64) (.pair (.int .i64) (.pair .str (.pair .bool (.slice 4 .bool))))) []) .anil))))))))), (1, (.agg (.acons (.sc (.int .i64)) (.acons (.sc (.int .i64)) (.acons (.sc .str) (.acons (.sc .bool) (.acons (.rd 4 .bool []) .anil))))))), (2, (.sc .bool))]⟩, [], ⟨[], [(0, (.sc .bool))]⟩, []⟩
noncomputable def S63 : CSum := s63.sum 3 (fun (x : ByteArray × List Bool × List Bool × ByteArray × Bool × List (Int × Int × ByteArray × Bool × List Bool) × List (Int × Int × ByteArray × Bool × List Bool) × Int × Int × ByteArray × Bool × List Bool × Bool) => spec_l5Segment x.1 x.2.1 x.2.2.1 x.2.2.2.1 x.2.2.2.2.1 x.2.2.2.2.2.1 x.2.2.2.2.2.2.1 x.2.2.2.2.2.2.2.1 x.2.2.2.2.2.2.2.2.1 x.2.2.2.2.2.2.2.2.2.1 x.2.2.2.2.2.2.2.2.2.2.1 x.2.2.2.2.2.2.2.2.2.2.2.1 x.2.2.2.2.2.2.2.2.2.2.2.2)
noncomputable def c63 : Cfg := ⟨tab, ccOf [(59, S59), (60, S60), (81, S81)], 63, lpOf [], [], [], []⟩
theorem run63 (k : Nat) (x : ByteArray × List Bool × List Bool × ByteArray × Bool × List (Int × Int × ByteArray × Bool × List Bool) × List (Int × Int × ByteArray × Bool × List Bool) × Int × Int × ByteArray × Bool × List Bool × Bool) : runF c63 k s63 Try.f63.results.toList (Try.f63.body.getD .skip) x = spec_l5Segment x.1 x.2.1 x.2.2.1 x.2.2.2.1 x.2.2.2.2.1 x.2.2.2.2.2.1 x.2.2.2.2.2.2.1 x.2.2.2.2.2.2.2.1 x.2.2.2.2.2.2.2.2.1 x.2.2.2.2.2.2.2.2.2.1 x.2.2.2.2.2.2.2.2.2.2.1 x.2.2.2.2.2.2.2.2.2.2.2.1 x.2.2.2.2.2.2.2.2.2.2.2.2 := by kernel_rfl
theorem snd63 : CSnd Try.prog 63 S63 := fn_ok mix (c := c63) tab_ok (ccOf_ok (.cons snd59 (.cons snd60 (.cons snd81 .nil)))) (fn := Try.f63) (cd := Try.f63.body.getD .skip) (by kernel_rfl) (by kernel_rfl) (by kernel_rfl) (by decide) (by kernel_rfl) (by kernel_rfl) (RGok_nil _) rfl (by kernel_rfl) (fuel0 run63)
def s19 : FSig := ⟨⟨[], [(0, (.agg (.acons (.sc .str) (.acons (.rd 4 .bool []) (.acons (.rd 4 .bool []) (.acons (.sc .str) (.acons (.sc .bool) (.acons (.rd 84 (.pair (.int .i64) (.pair (.int .i64) (.pair .str (.pair .bool (.slice 4 .bool))))) []) (.acons (.rd 84 (.pair (.int .i64) (.pair (.int .i64) (.pair .str (.pair .bool (.slice 4 .bool))))) []) .anil)))))))))]⟩, [], ⟨[], [(0, (.sc .bool))]⟩, []⟩
noncomputable def S19 : CSum := s19.sum 1 (fun (x : ByteArray × List Bool × List Bool × ByteArray × Bool × List (Int × Int × ByteArray × Bool × List Bool) × List (Int × Int × ByteArray × Bool × List Bool)) => spec_GoodSession x.1 x.2.1 x.2.2.1 x.2.2.2.1 x.2.2.2.2.1 x.2.2.2.2.2.1 x.2.2.2.2.2.2)
noncomputable def c19 : Cfg := ⟨tab, ccOf [(58, S58), (59, S59), (60, S60), (61, S61), (62, S62), (63, S63)], 79, lpOf [(0, ⟨[.box 29 (.acons (.sc .str) (.acons (.rd 4 .bool []) (.acons (.rd 4 .bool []) (.acons (.sc .str) (.acons (.sc .bool) (.acons (.rd 84 (.pair (.int .i64) (.pair (.int .i64) (.pair .str (.pair .bool (.slice 4 .bool))))) []) (.acons (.rd 84 (.pair (.int .i64) (.pair (.int .i64) (.pair .str (.pair .bool (.slice 4 .bool))))) []) .anil)))))))], [(1, (.ptr 0 0)), (56, (.rd 84 (.pair (.int .i64) (.pair (.int .i64) (.pair .str (.pair .bool (.slice 4 .bool))))) [])), (57, (.sc (.int .i64))), (58, (.sc (.int .i64)))]⟩), (2, ⟨[.box 29 (.acons (.sc .str) (.acons (.rd 4 .bool []) (.acons (.rd 4 .bool []) (.acons (.sc .str) (.acons (.sc .bool) (.acons (.rd 84 (.pair (.int .i64) (.pair (.int .i64) (.pair .str (.pair .bool (.slice 4 .bool))))) []) (.acons (.rd 84 (.pair (.int .i64) (.pair (.int .i64) (.pair .str (.pair .bool (.slice 4 .bool))))) []) .anil)))))))], [(1, (.ptr 0 0)), (68, (.rd 84 (.pair (.int .i64) (.pair (.int .i64) (.pair .str (.pair .bool (.slice 4 .bool))))) [])), (69, (.sc (.int .i64))), (70, (.sc (.int .i64)))]⟩)], [], [], []⟩
theorem run19 (k : Nat) (x : ByteArray × List Bool × List Bool × ByteArray × Bool × List (Int × Int × ByteArray × Bool × List Bool) × List (Int × Int × ByteArray × Bool × List Bool)) : runF c19 k s19 Try.f19.results.toList (Try.f19.body.getD .skip) x = spec_GoodSession.g k x.1 x.2.1 x.2.2.1 x.2.2.2.1 x.2.2.2.2.1 x.2.2.2.2.2.1 x.2.2.2.2.2.2 := by kernel_rfl
theorem snd19 : CSnd Try.prog 19 S19 := fn_ok mix (c := c19) tab_ok (ccOf_ok (.cons snd58 (.cons snd59 (.cons snd60 (.cons snd61 (.cons snd62 (.cons snd63 .nil))))))) (fn := Try.f19) (cd := Try.f19.body.getD .skip) (by kernel_rfl) (by kernel_rfl) (by kernel_rfl) (by decide) (by kernel_rfl) (by kernel_rfl) (RGok_nil _) rfl (by kernel_rfl) (fuel1 (G := fun k (x : ByteArray × List Bool × List Bool × ByteArray × Bool × List (Int × Int × ByteArray × Bool × List Bool) × List (Int × Int × ByteArray × Bool × List Bool)) => spec_GoodSession.g k x.1 x.2.1 x.2.2.1 x.2.2.2.1 x.2.2.2.2.1 x.2.2.2.2.2.1 x.2.2.2.2.2.2) run19)
def s18 : FSig := ⟨⟨[], [(0, (.agg (.acons (.sc .str) (.acons (.rd 4 .bool []) (.acons (.rd 4 .bool []) (.acons (.sc .str) (.acons (.sc .bool) (.acons (.rd 84 (.pair (.int .i64) (.pair (.int .i64) (.pair .str (.pair .bool (.slice 4 .bool))))) []) (.acons (.rd 84 (.pair (.int .i64) (.pair (.int .i64) (.pair .str (.pair .bool (.slice 4 .bool))))) []) .anil))))))))), (1, (.agg (.acons (.sc (.int .i64)) (.acons (.sc .bool) (.acons (.sc (.int .i64)) .anil)))))]⟩, [], ⟨[.row 4 .bool, .row 4 .bool, .row 84 (.pair (.int .i64) (.pair (.int .i64) (.pair .str (.pair .bool (.slice 4 .bool))))), .row 84 (.pair (.int .i64) (.pair (.int .i64) (.pair .str (.pair .bool (.slice 4 .bool)))))], [(0, (.tup (.acons (.agg (.acons (.sc .str) (.acons (.own 0) (.acons (.own 1) (.acons (.sc .str) (.acons (.sc .bool) (.acons (.own 2) (.acons (.own 3) .anil)))))))) (.acons (.sc .bool) .anil))))]⟩, []⟩
noncomputable def S18 : CSum := s18.sum 2 (fun (x : ByteArray × List Bool × List Bool × ByteArray × Bool × List (Int × Int × ByteArray × Bool × List Bool) × List (Int × Int × ByteArray × Bool × List Bool) × Int × Bool × Int) => spec_StepSession x.1 x.2.1 x.2.2.1 x.2.2.2.1 x.2.2.2.2.1 x.2.2.2.2.2.1 x.2.2.2.2.2.2.1 x.2.2.2.2.2.2.2.1 x.2.2.2.2.2.2.2.2.1 x.2.2.2.2.2.2.2.2.2)
noncomputable def c18 : Cfg := ⟨tab, ccOf [(19, S19), (44, S44), (45, S45)], 23, lpOf [], [], [], []⟩
theorem run18 (k : Nat) (x : ByteArray × List Bool × List Bool × ByteArray × Bool × List (Int × Int × ByteArray × Bool × List Bool) × List (Int × Int × ByteArray × Bool × List Bool) × Int × Bool × Int) : runF c18 k s18 Try.f18.results.toList (Try.f18.body.getD .skip) x = spec_StepSession x.1 x.2.1 x.2.2.1 x.2.2.2.1 x.2.2.2.2.1 x.2.2.2.2.2.1 x.2.2.2.2.2.2.1 x.2.2.2.2.2.2.2.1 x.2.2.2.2.2.2.2.2.1 x.2.2.2.2.2.2.2.2.2 := by kernel_rfl
theorem snd18 : CSnd Try.prog 18 S18 := fn_ok mix (c := c18) tab_ok (ccOf_ok (.cons snd19 (.cons snd44 (.cons snd45 .nil)))) (fn := Try.f18) (cd := Try.f18.body.getD .skip) (by kernel_rfl) (by kernel_rfl) (by kernel_rfl) (by decide) (by kernel_rfl) (by kernel_rfl) (RGok_nil _) rfl (by kernel_rfl) (fuel0 run18)
def s71 : FSig := ⟨⟨[], [(0, (.rd 4 .bool [])), (1, (.sc (.int .i64)))]⟩, [], ⟨[], [(0, (.sc (.int .i64)))]⟩, []⟩
noncomputable def S71 : CSum := s71.sum 2 (fun (x : List Bool × Int) => laws_szBoolS x.1 x.2)
noncomputable def c71 : Cfg := ⟨tab, ccOf [], 12, lpOf [], [], [], []⟩
theorem run71 (k : Nat) (x : List Bool × Int) : runF c71 k s71 Try.f71.results.toList (Try.f71.body.getD .skip) x = laws_szBoolS x.1 x.2 := by kernel_rfl
theorem snd71 : CSnd Try.prog 71 S71 := fn_ok mix (c := c71) tab_ok (ccOf_ok (.nil)) (fn := Try.f71) (cd := Try.f71.body.getD .skip) (by kernel_rfl) (by kernel_rfl) (by kernel_rfl) (by decide) (by kernel_rfl) (by kernel_rfl) (RGok_nil _) rfl (by kernel_rfl) (fuel0 run71)
def s90 : FSig := ⟨⟨[], [(0, (.agg (.acons (.sc (.int .i64)) (.acons (.sc (.int .i64)) (.acons (.sc .str) (.acons (.sc .bool) (.acons (.rd 4 .bool []) .anil))))))), (1, (.sc (.int .i64)))]⟩, [], ⟨[], [(0, (.sc (.int .i64)))]⟩, []⟩
noncomputable def S90 : CSum := s90.sum 2 (fun (x : Int × Int × ByteArray × Bool × List Bool × Int) => laws_szSegment x.1 x.2.1 x.2.2.1 x.2.2.2.1 x.2.2.2.2.1 x.2.2.2.2.2)
noncomputable def c90 : Cfg := ⟨tab, ccOf [(71, S71)], 19, lpOf [], [], [], []⟩
theorem run90 (k : Nat) (x : Int × Int × ByteArray × Bool × List Bool × Int) : runF c90 k s90 Try.f90.results.toList (Try.f90.body.getD .skip) x = laws_szSegment x.1 x.2.1 x.2.2.1 x.2.2.2.1 x.2.2.2.2.1 x.2.2.2.2.2 := by kernel_rfl
theorem snd90 : CSnd Try.prog 90 S90 := fn_ok mix (c := c90) tab_ok (ccOf_ok (.cons snd71 .nil)) (fn := Try.f90) (cd := Try.f90.body.getD .skip) (by kernel_rfl) (by kernel_rfl) (by kernel_rfl) (by decide) (by kernel_rfl) (by kernel_rfl) (RGok_nil _) rfl (by kernel_rfl) (fuel0 run90)
def s72 : FSig := ⟨⟨[], [(0, (.rd 117 (.pair (.int .i64) (.pair (.int .i64) (.pair .str (.pair .bool (.slice 4 .bool))))) [])), (1, (.sc (.int .i64)))]⟩, [], ⟨[], [(0, (.sc (.int .i64)))]⟩, []⟩
noncomputable def S72 : CSum := s72.sum 2 (fun (x : List (Int × Int × ByteArray × Bool × List Bool) × Int) => laws_szSegmentS x.1 x.2)
noncomputable def c72 : Cfg := ⟨tab, ccOf [(90, S90)], 27, lpOf [(0, ⟨[], [(0, (.rd 117 (.pair (.int .i64) (.pair (.int .i64) (.pair .str (.pair .bool (.slice 4 .bool))))) [])), (1, (.sc (.int .i64))), (5, (.sc (.int .i64)))]⟩)], [], [], []⟩
theorem run72 (k : Nat) (x : List (Int × Int × ByteArray × Bool × List Bool) × Int) : runF c72 k s72 Try.f72.results.toList (Try.f72.body.getD .skip) x = laws_szSegmentS.g k x.1 x.2 := by kernel_rfl
theorem snd72 : CSnd Try.prog 72 S72 := fn_ok mix (c := c72) tab_ok (ccOf_ok (.cons snd90 .nil)) (fn := Try.f72) (cd := Try.f72.body.getD .skip) (by kernel_rfl) (by kernel_rfl) (by kernel_rfl) (by decide) (by kernel_rfl) (by kernel_rfl) (RGok_nil _) rfl (by kernel_rfl) (fuel1 (G := fun k (x : List (Int × Int × ByteArray × Bool × List Bool) × Int) => laws_szSegmentS.g k x.1 x.2) run72)
def s37 : FSig := ⟨⟨[], [(0, (.agg (.acons (.sc .str) (.acons (.rd 4 .bool []) (.acons (.rd 4 .bool []) (.acons (.sc .str) (.acons (.sc .bool) (.acons (.rd 117 (.pair (.int .i64) (.pair (.int .i64) (.pair .str (.pair .bool (.slice 4 .bool))))) []) (.acons (.rd 117 (.pair (.int .i64) (.pair (.int .i64) (.pair .str (.pair .bool (.slice 4 .bool))))) []) .anil))))))))), (1, (.sc (.int .i64)))]⟩, [], ⟨[], [(0, (.sc (.int .i64)))]⟩, []⟩
noncomputable def S37 : CSum := s37.sum 2 (fun (x : ByteArray × List Bool × List Bool × ByteArray × Bool × List (Int × Int × ByteArray × Bool × List Bool) × List (Int × Int × ByteArray × Bool × List Bool) × Int) => laws_szSession x.1 x.2.1 x.2.2.1 x.2.2.2.1 x.2.2.2.2.1 x.2.2.2.2.2.1 x.2.2.2.2.2.2.1 x.2.2.2.2.2.2.2)
noncomputable def c37 : Cfg := ⟨tab, ccOf [(71, S71), (72, S72)], 44, lpOf [], [], [], []⟩
theorem run37 (k : Nat) (x : ByteArray × List Bool × List Bool × ByteArray × Bool × List (Int × Int × ByteArray × Bool × List Bool) × List (Int × Int × ByteArray × Bool × List Bool) × Int) : runF c37 k s37 Try.f37.results.toList (Try.f37.body.getD .skip) x = laws_szSession x.1 x.2.1 x.2.2.1 x.2.2.2.1 x.2.2.2.2.1 x.2.2.2.2.2.1 x.2.2.2.2.2.2.1 x.2.2.2.2.2.2.2 := by kernel_rfl
theorem snd37 : CSnd Try.prog 37 S37 := fn_ok mix (c := c37) tab_ok (ccOf_ok (.cons snd71 (.cons snd72 .nil))) (fn := Try.f37) (cd := Try.f37.body.getD .skip) (by kernel_rfl) (by kernel_rfl) (by kernel_rfl) (by decide) (by kernel_rfl) (by kernel_rfl) (RGok_nil _) rfl (by kernel_rfl) (fuel0 run37)
def s73 : FSig := ⟨⟨[], [(0, (.rd 4 .bool []))]⟩, [], ⟨[.row 4 .bool], [(0, (.own 0))]⟩, []⟩
noncomputable def S73 : CSum := s73.sum 1 (fun (x : List Bool) => laws_toBoolS x)
noncomputable def c73 : Cfg := ⟨tab, ccOf [], 22, lpOf [(0, ⟨[.row 4 .bool], [(0, (.rd 4 .bool [])), (3, (.own 0)), (4, (.sc (.int .i64)))]⟩)], [], [], []⟩
theorem run73 (k : Nat) (x : List Bool) : runF c73 k s73 Try.f73.results.toList (Try.f73.body.getD .skip) x = laws_toBoolS.g k x := by kernel_rfl
theorem snd73 : CSnd Try.prog 73 S73 := fn_ok mix (c := c73) tab_ok (ccOf_ok (.nil)) (fn := Try.f73) (cd := Try.f73.body.getD .skip) (by kernel_rfl) (by kernel_rfl) (by kernel_rfl) (by decide) (by kernel_rfl) (by kernel_rfl) (RGok_nil _) rfl (by kernel_rfl) (fuel1 (G := fun k (x : List Bool) => laws_toBoolS.g k x) run73)
def s91 : FSig := ⟨⟨[], [(0, (.agg (.acons (.sc (.int .i64)) (.acons (.sc (.int .i64)) (.acons (.sc .str) (.acons (.sc .bool) (.acons (.rd 4 .bool []) .anil)))))))]⟩, [], ⟨[.row 4 .bool], [(0, (.agg (.acons (.sc (.int .i64)) (.acons (.sc (.int .i64)) (.acons (.sc .str) (.acons (.sc .bool) (.acons (.own 0) .anil)))))))]⟩, []⟩
noncomputable def S91 : CSum := s91.sum 1 (fun (x : Int × Int × ByteArray × Bool × List Bool) => laws_toSegment x.1 x.2.1 x.2.2.1 x.2.2.2.1 x.2.2.2.2)
noncomputable def c91 : Cfg := ⟨tab, ccOf [(73, S73)], 21, lpOf [], [], [], []⟩
theorem run91 (k : Nat) (x : Int × Int × ByteArray × Bool × List Bool) : runF c91 k s91 Try.f91.results.toList (Try.f91.body.getD .skip) x = laws_toSegment x.1 x.2.1 x.2.2.1 x.2.2.2.1 x.2.2.2.2 := by kernel_rfl
theorem snd91 : CSnd Try.prog 91 S91 := fn_ok mix (c := c91) tab_ok (ccOf_ok (.cons snd73 .nil)) (fn := Try.f91) (cd := Try.f91.body.getD .skip) (by kernel_rfl) (by kernel_rfl) (by kernel_rfl) (by decide) (by kernel_rfl) (by kernel_rfl) (RGok_nil _) rfl (by kernel_rfl) (fuel0 run91)
def s74 : FSig := ⟨⟨[], [(0, (.rd 117 (.pair (.int .i64) (.pair (.int .i64) (.pair .str (.pair .bool (.slice 4 .bool))))) []))]⟩, [], ⟨[.row 84 (.pair (.int .i64) (.pair (.int .i64) (.pair .str (.pair .bool (.slice 4 .bool)))))], [(0, (.own 0))]⟩, []⟩
noncomputable def S74 : CSum := s74.sum 1 (fun (x : List (Int × Int × ByteArray × Bool × List Bool)) => laws_toSegmentS x)
noncomputable def c74 : Cfg := ⟨tab, ccOf [(91, S91)], 23, lpOf [(0, ⟨[.row 84 (.pair (.int .i64) (.pair (.int .i64) (.pair .str (.pair .bool (.slice 4 .bool)))))], [(0, (.rd 117 (.pair (.int .i64) (.pair (.int .i64) (.pair .str (.pair .bool (.slice 4 .bool))))) [])), (3, (.own 0)), (4, (.sc (.int .i64)))]⟩)], [], [], []⟩
theorem run74 (k : Nat) (x : List (Int × Int × ByteArray × Bool × List Bool)) : runF c74 k s74 Try.f74.results.toList (Try.f74.body.getD .skip) x = laws_toSegmentS.g k x := by kernel_rfl
theorem snd74 : CSnd Try.prog 74 S74 := fn_ok mix (c := c74) tab_ok (ccOf_ok (.cons snd91 .nil)) (fn := Try.f74) (cd := Try.f74.body.getD .skip) (by kernel_rfl) (by kernel_rfl) (by kernel_rfl) (by decide) (by kernel_rfl) (by kernel_rfl) (RGok_nil _) rfl (by kernel_rfl) (fuel1 (G := fun k (x : List (Int × Int × ByteArray × Bool × List Bool)) => laws_toSegmentS.g k x) run74)
def s38 : FSig := ⟨⟨[], [(0, (.agg (.acons (.sc .str) (.acons (.rd 4 .bool []) (.acons (.rd 4 .bool []) (.acons (.sc .str) (.acons (.sc .bool) (.acons (.rd 117 (.pair (.int .i64) (.pair (.int .i64) (.pair .str (.pair .bool (.slice 4 .bool))))) []) (.acons (.rd 117 (.pair (.int .i64) (.pair (.int .i64) (.pair .str (.pair .bool (.slice 4 .bool))))) []) .anil)))))))))]⟩, [], ⟨[.row 4 .bool, .row 4 .bool, .row 84 (.pair (.int .i64) (.pair (.int .i64) (.pair .str (.pair .bool (.slice 4 .bool))))), .row 84 (.pair (.int .i64) (.pair (.int .i64) (.pair .str (.pair .bool (.slice 4 .bool)))))], [(0, (.agg (.acons (.sc .str) (.acons (.own 0) (.acons (.own 1) (.acons (.sc .str) (.acons (.sc .bool) (.acons (.own 2) (.acons (.own 3) .anil)))))))))]⟩, []⟩
noncomputable def S38 : CSum := s38.sum 1 (fun (x : ByteArray × List Bool × List Bool × ByteArray × Bool × List (Int × Int × ByteArray × Bool × List Bool) × List (Int × Int × ByteArray × Bool × List Bool)) => laws_toSession x.1 x.2.1 x.2.2.1 x.2.2.2.1 x.2.2.2.2.1 x.2.2.2.2.2.1 x.2.2.2.2.2.2)
noncomputable def c38 : Cfg := ⟨tab, ccOf [(73, S73), (74, S74)], 30, lpOf [], [], [], []⟩
theorem run38 (k : Nat) (x : ByteArray × List Bool × List Bool × ByteArray × Bool × List (Int × Int × ByteArray × Bool × List Bool) × List (Int × Int × ByteArray × Bool × List Bool)) : runF c38 k s38 Try.f38.results.toList (Try.f38.body.getD .skip) x = laws_toSession x.1 x.2.1 x.2.2.1 x.2.2.2.1 x.2.2.2.2.1 x.2.2.2.2.2.1 x.2.2.2.2.2.2 := by kernel_rfl
theorem snd38 : CSnd Try.prog 38 S38 := fn_ok mix (c := c38) tab_ok (ccOf_ok (.cons snd73 (.cons snd74 .nil))) (fn := Try.f38) (cd := Try.f38.body.getD .skip) (by kernel_rfl) (by kernel_rfl) (by kernel_rfl) (by decide) (by kernel_rfl) (by kernel_rfl) (RGok_nil _) rfl (by kernel_rfl) (fuel0 run38)
def s6 : FSig := ⟨⟨[], [(0, (.agg (.acons (.sc .str) (.acons (.rd 4 .bool []) (.acons (.rd 4 .bool []) (.acons (.sc .str) (.acons (.sc .bool) (.acons (.rd 117 (.pair (.int .i64) (.pair (.int .i64) (.pair .str (.pair .bool (.slice 4 .bool))))) []) (.acons (.rd 117 (.pair (.int .i64) (.pair (.int .i64) (.pair .str (.pair .bool (.slice 4 .bool))))) []) .anil))))))))), (1, (.agg (.acons (.sc (.int .i64)) (.acons (.sc .bool) (.acons (.sc (.int .i64)) .anil)))))]⟩, [], ⟨[], [(0, (.sc .bool))]⟩, []⟩
noncomputable def S6 : CSum := s6.sum 2 (fun (x : ByteArray × List Bool × List Bool × ByteArray × Bool × List (Int × Int × ByteArray × Bool × List Bool) × List (Int × Int × ByteArray × Bool × List Bool) × Int × Bool × Int) => laws_FnExactStepSession x.1 x.2.1 x.2.2.1 x.2.2.2.1 x.2.2.2.2.1 x.2.2.2.2.2.1 x.2.2.2.2.2.2.1 x.2.2.2.2.2.2.2.1 x.2.2.2.2.2.2.2.2.1 x.2.2.2.2.2.2.2.2.2)
noncomputable def c6 : Cfg := ⟨tab, ccOf [(17, S17), (18, S18), (29, S29), (33, S33), (35, S35), (37, S37), (38, S38), (39, S39)], 104, lpOf [], [], [], []⟩
theorem run6 (k : Nat) (x : ByteArray × List Bool × List Bool × ByteArray × Bool × List (Int × Int × ByteArray × Bool × List Bool) × List (Int × Int × ByteArray × Bool × List Bool) × Int × Bool × Int) : runF c6 k s6 Try.f6.results.toList (Try.f6.body.getD .skip) x = laws_FnExactStepSession x.1 x.2.1 x.2.2.1 x.2.2.2.1 x.2.2.2.2.1 x.2.2.2.2.2.1 x.2.2.2.2.2.2.1 x.2.2.2.2.2.2.2.1 x.2.2.2.2.2.2.2.2.1 x.2.2.2.2.2.2.2.2.2 := by kernel_rfl
theorem snd6 : CSnd Try.prog 6 S6 := fn_ok mix (c := c6) tab_ok (ccOf_ok (.cons snd17 (.cons snd18 (.cons snd29 (.cons snd33 (.cons snd35 (.cons snd37 (.cons snd38 (.cons snd39 .nil))))))))) (fn := Try.f6) (cd := Try.f6.body.getD .skip) (by kernel_rfl) (by kernel_rfl) (by kernel_rfl) (by decide) (by kernel_rfl) (by kernel_rfl) (RGok_nil _) rfl (by kernel_rfl) (fuel0 run6)
end Go.Eng
