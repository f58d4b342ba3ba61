-- Written by this session's own program (wip/xprint.py) out of the translation; Lean checks it.
import Derived.Test.YteneeohaoplpbaaProg
import Derived.Below
import Derived.Deep.Draws
import Derived.Deep.AppendLies
import Derived.Maps.AppendAt
import Derived.OwnWalk
import Derived.Laws.BytesArg
import Derived.Laws.MakeOwn
import Derived.Laws.OwnMore
import Derived.Deep.OwnRows
import Derived.Tactics
import Derived.Lib.ConvBytes
import Derived.Laws.Slices
import Derived.WalkKit
import Derived.KernelRfl
import Derived.RowKit3
import Derived.Deep.LoopGhost
import Derived.Deep.QuietTactic
import Derived.BigQuiet
import Derived.WideLaws
import Derived.Deep.DeepCutAuto
import Derived.Deep.CutBlock
import Derived.Deep.RegionHeld3
import Derived.Laws.Rows
import Derived.Lib.AppendStr
import Derived.ArgAppend
import Derived.Laws.IdiomCopy
import Derived.OrdersHeld
import Derived.Laws.BitsLemmas
import Derived.RowKit
import Derived.Lib.SliceRun
import Derived.Test.YteneeohaoplpbaaVFnExactRunRoundsWords
import Derived.Test.YteneeohaoplpbaaVFnExactRunRoundsLast
import Derived.Test.YteneeohaoplpbaaVFnExactRunRoundsTab
import Derived.Test.YteneeohaoplpbaaVFnExactRunRoundsFour
import Derived.Test.YteneeohaoplpbaaVFnExactRunRoundsQPut
import Derived.Test.YteneeohaoplpbaaVFnExactRunRoundsApart
import Derived.Test.YteneeohaoplpbaaVFnExactRunRoundsArr
import Derived.Test.YteneeohaoplpbaaVFnExactRunRoundsZeros
import Derived.Test.YteneeohaoplpbaaVFnExactRunRoundsFoot
import Derived.Test.YteneeohaoplpbaaVFnExactRunRoundsKept
import Derived.Test.YteneeohaoplpbaaVFnExactRunRoundsShare
import Derived.Test.YteneeohaoplpbaaVFnExactRunRoundsN
import Derived.Test.YteneeohaoplpbaaVFnExactRunRoundsFootNe
import Derived.Test.YteneeohaoplpbaaVFnExactRunRoundsAt
import Derived.Test.YteneeohaoplpbaaVFnExactRunRoundsEqStruct
import Derived.Test.YteneeohaoplpbaaVFnExactRunRoundsRepsOne
import Derived.Test.YteneeohaoplpbaaVFnExactRunRoundsInv
import Derived.Test.YteneeohaoplpbaaVFnExactRunRoundsInvWords
import Derived.Test.YteneeohaoplpbaaVFnExactRunRoundsGuard
import Derived.Test.YteneeohaoplpbaaVFnExactRunRoundsNEv
import Derived.Test.YteneeohaoplpbaaVFnExactRunRoundsMore
namespace Go.Proofs.Yteneeohaoplpbaa.XFnExactRunRounds
open Go.RowKit Go.Proofs.YteneeohaoplpbaaW.PrintWords Go.Proofs.YteneeohaoplpbaaW.PrintLast Go.Proofs.YteneeohaoplpbaaW.PrintMore
attribute [local go_sem] max2_int min2_int max_two min_two max_three min_three max_four min_four   -- for this text's walks alone
set_option linter.unusedVariables false
set_option linter.unusedSimpArgs false

theorem bB {P : Prop} (h : P := by repeat (first | (with_reducible first | exact HB.out | apply below_alloc | apply pw_below_drewN | apply below_drew1) | exact HB.out)) : P := h
theorem bD {P : Prop} (h : P := by first | (with_reducible assumption) | assumption) : P := h
theorem bR {P : Prop} (h : P := by first | rfl | (simp; done) | (simp [*]; done)) : P := h
theorem bE {P : Prop} (h : P := by first | rfl | (simp [errW_none, errW_some] <;> rfl) | (simp [*, errW_none, errW_some] <;> rfl)) : P := h
theorem bW {P : Prop} (h : P := by repeat (first | exact Drawn0.refl _ | apply Drawn0.step)) : P := h
theorem bS3 {P Q0 Q1 Q2 : Prop} (q0 : Q0) (q1 : Q1) (q2 : Q2) (h : Q0 → Q1 → Q2 → P := by intro z0_ z1_ z2_; repeat (first | (with_reducible first | exact HB.out | apply below_alloc | apply pw_below_drewN | apply below_drew1 | refine below_set ?_ z0_ | refine below_set ?_ z1_ | refine below_set ?_ z2_) | exact HB.out)) : P := h q0 q1 q2
theorem bS2 {P Q0 Q1 : Prop} (q0 : Q0) (q1 : Q1) (h : Q0 → Q1 → P := by intro z0_ z1_; repeat (first | (with_reducible first | exact HB.out | apply below_alloc | apply pw_below_drewN | apply below_drew1 | refine below_set ?_ z0_ | refine below_set ?_ z1_) | exact HB.out)) : P := h q0 q1
theorem bL {P Q : Prop} (q : Q) (h : Q → P := by intro q_; (with_reducible repeat (first | refine blk_drewN ?_ _ | refine blk_drew ?_ | refine blk_alloc ?_ _)); exact q_) : P := h q
theorem bS {P Q : Prop} (q : Q) (h : Q → P := by intro q_; repeat (first | (with_reducible first | exact HB.out | apply below_alloc | apply pw_below_drewN | apply below_drew1 | refine below_set ?_ q_) | exact HB.out)) : P := h q
theorem bC {P Q : Prop} (q : Q) (h : Q → P := by intro q_; repeat (first | exact (Kd.C_below q_ HB.out) | (with_reducible refine Kd.C_alloc ?_ _) | (with_reducible refine Kd.C_drewN ?_ _) | (with_reducible refine Kd.C_drew ?_))) : P := h q
theorem bM {W0 W W2 : World} {g : Nat} {o : Obj} (q : W0.heap[g]? = some o) (hb : Below W.heap.size W W2) (h : W0.heap[g]? = some o → W.heap[g]? = some o := by intro q_; (with_reducible repeat (first | refine blk_drewN ?_ _ | refine blk_drew ?_ | refine blk_alloc ?_ _)); exact q_) : W2.heap[g]? = some o := blk_below (h q) hb
theorem bN {W0 W : World} {g m : Nat} {o : Obj} (q : W0.heap[g]? = some o) (hg : m = W.heap.size) (h : W0.heap[g]? = some o → W.heap[g]? = some o := by intro q_; (with_reducible repeat (first | refine blk_drewN ?_ _ | refine blk_drew ?_ | refine blk_alloc ?_ _)); exact q_) : g ≠ m := by rw [hg]; exact Nat.ne_of_lt (blk_lt (h q))
theorem bO {W0 W : World} {g m : Nat} {o : Obj} (q : W0.heap[g]? = some o) (hg : m = W.heap.size) (h : W0.heap[g]? = some o → W.heap[g]? = some o := by intro q_; (with_reducible repeat (first | refine blk_drewN ?_ _ | refine blk_drew ?_ | refine blk_alloc ?_ _)); exact q_) : m ≠ g := by rw [hg]; exact Nat.ne_of_gt (blk_lt (h q))
theorem bG {P : Prop} (h : P := by rw [hg]; exact (below_size (by repeat (first | (with_reducible first | exact HB.out | apply below_alloc | apply pw_below_drewN | apply below_drew1) | exact HB.out)))) : P := h
theorem cC3 {w : World} {g t : Nat} {a0 a1 a2 : Value} (h : w.heap[g]? = some (.cells #[a0, a1, a2] t (0, 0))) : w.cell? ⟨g, 0, none⟩ = some a0 ∧ w.cell? ⟨g, 1, none⟩ = some a1 ∧ w.cell? ⟨g, 2, none⟩ = some a2 := ⟨(blk_cell h 0).trans rfl, (blk_cell h 1).trans rfl, (blk_cell h 2).trans rfl⟩
theorem cF3 {w : World} {g t : Nat} {a0 a1 a2 : Value} (h : w.heap[g]? = some (.cells #[a0, a1, a2] t (0, 0))) : w.frozen? ⟨g, 0, none⟩ = false ∧ w.frozen? ⟨g, 1, none⟩ = false ∧ w.frozen? ⟨g, 2, none⟩ = false := ⟨blk_frozen h 0, blk_frozen h 1, blk_frozen h 2⟩
theorem bK {P Q : Prop} (q : Q) (h : Q → P := by intro q_; (with_reducible repeat (first | apply Kd.R_alloc | apply Kd.R_drewN | apply Kd.R_drew)); exact q_) : P := h q
theorem bS4 {P Q0 Q1 Q2 Q3 : Prop} (q0 : Q0) (q1 : Q1) (q2 : Q2) (q3 : Q3) (h : Q0 → Q1 → Q2 → Q3 → P := by intro z0_ z1_ z2_ z3_; repeat (first | (with_reducible first | exact HB.out | apply below_alloc | apply pw_below_drewN | apply below_drew1 | refine below_set ?_ z0_ | refine below_set ?_ z1_ | refine below_set ?_ z2_ | refine below_set ?_ z3_) | exact HB.out)) : P := h q0 q1 q2 q3
theorem bS5 {P Q0 Q1 Q2 Q3 Q4 : Prop} (q0 : Q0) (q1 : Q1) (q2 : Q2) (q3 : Q3) (q4 : Q4) (h : Q0 → Q1 → Q2 → Q3 → Q4 → P := by intro z0_ z1_ z2_ z3_ z4_; repeat (first | (with_reducible first | exact HB.out | apply below_alloc | apply pw_below_drewN | apply below_drew1 | refine below_set ?_ z0_ | refine below_set ?_ z1_ | refine below_set ?_ z2_ | refine below_set ?_ z3_ | refine below_set ?_ z4_) | exact HB.out)) : P := h q0 q1 q2 q3 q4
theorem goesA {P:Program} {ops:Array Oper} {Q:Exit→Act→World→Prop} {rest:List Oper} {oi:Oper} {a:Act} {w:World} (N:Option Tmp) (hd:oi.dst=N) (hg:oi.guard=none) {f:FuncId} {fn:Func} {az:Array Operand} {ts:Array TypeId} (hf:P.funcs[f]?=some fn) (args:Array Value)
 (hop : oi.op = .call { callee := .value (.func f), args := az, argTypes := ts }) (h : Calls P f args w fun e w' => ∃ v, e = .returned v ∧ wpList P ops Q rest (a.put N v) w') (hname : (fn.name == "runtime.NumGoroutine") = false := by kernel_rfl) (hb : fn.body.isSome = true := by rfl)
 (hargs:az.map a.eval=args:=by(try simp only[List.map_toArray,List.map_cons,List.map_nil]);first|done|rfl|(simp only[List.length_drop,List.length_take];rfl)):wpList P ops Q (oi::rest) a w:=goesL_ N hd hg hf hname hb args hop hargs h



def errW:Option Int→Value
 | none=>.nilIface
 | some c=>.iface 0 (.int .i64 c)
theorem errW_none:errW none=.nilIface:=rfl
theorem errW_some (c:Int):errW (some c)=.iface 0 (.int .i64 c):=rfl

theorem info3:(Try.prog.info? 3).map (fun i=>(i.zero,i.size,i.bytes))=some (some (.int .i64 0),1,8):=by kernel_rfl
theorem info116:(Try.prog.info? 116).map (fun i=>(i.zero,i.size,i.bytes))=some (some (.agg #[(.slice none 0 0),(.int .i64 0),(.int .i64 0)]),3,40):=by kernel_rfl
-- the values' own types
def rd_L1 (xs:List (List Int)) (i:Int):(List Int):=xs.getD i.toNat ([]:List Int)
theorem at_L1 {w:World} {A:Option Addr} {n:Nat} {xs:List (List Int)} (h:Kd.C (Kd.slice 3 (Kd.int .i64)) w A n xs) (i:Int) (h0:0≤i) (h1:i < n) : ∃ ad A0 c0,A=some ad∧w.cell? (ad.add i.toNat)=some (.slice A0 (rd_L1 xs i).length c0)∧(rd_L1 xs i).length≤c0∧(Kd.int .i64).C w A0 (rd_L1 xs i).length (rd_L1 xs i):=by
 obtain⟨ad,c,e,_,hK,hc0⟩:=Kd.C_get h ([]:List Int) i h0 h1
 have hc : ∀ j u,c[j]?=some u→w.cell? (ad.add (i.toNat * 1+j))=some u:=hc0
 obtain⟨A0,c0,rfl,l0,g0⟩:=hK
 exact⟨ad,A0,c0,e,by have hq:=hc 0 _ rfl;rwa [Nat.mul_one,Nat.add_zero] at hq,l0,g0⟩

/-! #### struct type 167 -/
structure S167 where
 f0:(List Int)
 f1:Int
 f2:Int
def z167:S167:=⟨([]:List Int),(0:Int),(0:Int)⟩
def k167:Kd S167:=Kd.iso (Kd.pair (Kd.slice 3 (Kd.int .i64)) (Kd.pair (Kd.int .i64) (Kd.int .i64))) (fun x:S167=>(x.f0,x.f1,x.f2))
theorem k167_open {w:World} {x:S167} {cs:List Value} (h:k167.K w x cs) : ∃ A0 c0,cs=[.slice A0 x.f0.length c0,.int .i64 x.f1,.int .i64 x.f2]∧x.f0.length≤c0∧(Kd.int .i64).C w A0 x.f0.length x.f0:=by
 obtain⟨_,_,rfl,⟨A0,c0,rfl,l0,g0⟩,⟨_,_,rfl,rfl,rfl⟩⟩:=h
 exact⟨A0,c0,rfl,l0,g0⟩
theorem k167_openM {w:World} {base:Nat} {ok:Nat→Prop} {x:S167} {cs:List Value} (h:k167.M w base ok x cs) : ∃ v0,cs=[v0,.int .i64 x.f1,.int .i64 x.f2]∧(Kd.int .i64).R 3 w base ok v0 x.f0:=by
 obtain⟨_,_,rfl,⟨v0,rfl,g0⟩,⟨_,_,rfl,rfl,rfl⟩⟩:=h
 exact⟨v0,rfl,g0⟩
theorem k167_mk (w:World) (x:S167) {A0:Option Addr} {c0:Nat} (l0:x.f0.length≤c0) (g0:(Kd.int .i64).C w A0 x.f0.length x.f0):k167.K w x [.slice A0 x.f0.length c0,.int .i64 x.f1,.int .i64 x.f2]:=⟨[.slice A0 x.f0.length c0],[.int .i64 x.f1,.int .i64 x.f2],rfl,⟨A0,c0,rfl,l0,g0⟩,⟨[.int .i64 x.f1],[.int .i64 x.f2],rfl,rfl,rfl⟩⟩
theorem k167_mkM (w:World) (base:Nat) (ok:Nat→Prop) (x:S167) {v0:Value} (g0:(Kd.int .i64).R 3 w base ok v0 x.f0):k167.M w base ok x [v0,.int .i64 x.f1,.int .i64 x.f2]:=⟨[v0],[.int .i64 x.f1,.int .i64 x.f2],rfl,⟨v0,rfl,g0⟩,⟨[.int .i64 x.f1],[.int .i64 x.f2],rfl,rfl,rfl⟩⟩
theorem k167_openF {W:World} {ok:Nat→Prop} {x:S167} {cs:List Value} (h:Kd.FK k167 W ok x cs) : ∃ A0 c0,cs=[.slice A0 x.f0.length c0,.int .i64 x.f1,.int .i64 x.f2]∧x.f0.length≤c0∧Kd.F (Kd.int .i64) W ok A0 x.f0.length x.f0:=by
 obtain⟨A0,c0,rfl,l0,_⟩:=k167_open (Kd.FK_now h)
 exact⟨A0,c0,rfl,l0,(fun W' hW=>by obtain⟨A0_,c0_,he,l0_,g0_⟩:=k167_open (h W' hW);injection (Option.some.inj (show some (Value.slice A0 x.f0.length c0)=some (Value.slice A0_ x.f0.length c0_) from congrArg (fun l=>l[0]?) he)) with ha_ _ _;rw[ha_];exact g0_)⟩
theorem k167_mkF (W:World) (ok:Nat→Prop) (x:S167) {A0:Option Addr} {c0:Nat} (l0:x.f0.length≤c0) (g0:Kd.F (Kd.int .i64) W ok A0 x.f0.length x.f0):Kd.FK k167 W ok x [.slice A0 x.f0.length c0,.int .i64 x.f1,.int .i64 x.f2]:=fun W2 hW=>k167_mk W2 x l0 (g0 W2 hW)
def rd_T167 (xs:List S167) (i:Int):S167:=xs.getD i.toNat z167
theorem at_T167 {w:World} {A:Option Addr} {n:Nat} {xs:List S167} (h:Kd.C k167 w A n xs) (i:Int) (h0:0≤i) (h1:i < n) : ∃ ad A0 c0,A=some ad∧w.cell? (ad.add (i.toNat * 3))=some (.slice A0 (rd_T167 xs i).f0.length c0)∧w.cell? ⟨(ad.add (i.toNat * 3)).block,(ad.add (i.toNat * 3)).off+1,none⟩=some (.int .i64 (rd_T167 xs i).f1)∧w.cell? ⟨(ad.add (i.toNat * 3)).block,(ad.add (i.toNat * 3)).off+2,none⟩=some (.int .i64 (rd_T167 xs i).f2)∧(rd_T167 xs i).f0.length≤c0∧(Kd.int .i64).C w A0 (rd_T167 xs i).f0.length (rd_T167 xs i).f0:=by
 obtain⟨ad,c,e,_,hK,hc0⟩:=Kd.C_get h z167 i h0 h1
 have hc : ∀ j u,c[j]?=some u→w.cell? (ad.add (i.toNat * 3+j))=some u:=hc0
 obtain⟨A0,c0,rfl,l0,g0⟩:=k167_open hK
 exact⟨ad,A0,c0,e,hc 0 _ rfl,by rw[← add_field _ _ 1 (by omega)];exact hc 1 _ rfl,by rw[← add_field _ _ 2 (by omega)];exact hc 2 _ rfl,l0,g0⟩

/-! #### struct type 116 -/
structure S116 where
 f0:(List Int)
 f1:Int
 f2:Int
def z116:S116:=⟨([]:List Int),(0:Int),(0:Int)⟩
def k116:Kd S116:=Kd.iso (Kd.pair (Kd.slice 3 (Kd.int .i64)) (Kd.pair (Kd.int .i64) (Kd.int .i64))) (fun x:S116=>(x.f0,x.f1,x.f2))
theorem k116_open {w:World} {x:S116} {cs:List Value} (h:k116.K w x cs) : ∃ A0 c0,cs=[.slice A0 x.f0.length c0,.int .i64 x.f1,.int .i64 x.f2]∧x.f0.length≤c0∧(Kd.int .i64).C w A0 x.f0.length x.f0:=by
 obtain⟨_,_,rfl,⟨A0,c0,rfl,l0,g0⟩,⟨_,_,rfl,rfl,rfl⟩⟩:=h
 exact⟨A0,c0,rfl,l0,g0⟩
theorem k116_openM {w:World} {base:Nat} {ok:Nat→Prop} {x:S116} {cs:List Value} (h:k116.M w base ok x cs) : ∃ v0,cs=[v0,.int .i64 x.f1,.int .i64 x.f2]∧(Kd.int .i64).R 3 w base ok v0 x.f0:=by
 obtain⟨_,_,rfl,⟨v0,rfl,g0⟩,⟨_,_,rfl,rfl,rfl⟩⟩:=h
 exact⟨v0,rfl,g0⟩
theorem k116_mk (w:World) (x:S116) {A0:Option Addr} {c0:Nat} (l0:x.f0.length≤c0) (g0:(Kd.int .i64).C w A0 x.f0.length x.f0):k116.K w x [.slice A0 x.f0.length c0,.int .i64 x.f1,.int .i64 x.f2]:=⟨[.slice A0 x.f0.length c0],[.int .i64 x.f1,.int .i64 x.f2],rfl,⟨A0,c0,rfl,l0,g0⟩,⟨[.int .i64 x.f1],[.int .i64 x.f2],rfl,rfl,rfl⟩⟩
theorem k116_mkM (w:World) (base:Nat) (ok:Nat→Prop) (x:S116) {v0:Value} (g0:(Kd.int .i64).R 3 w base ok v0 x.f0):k116.M w base ok x [v0,.int .i64 x.f1,.int .i64 x.f2]:=⟨[v0],[.int .i64 x.f1,.int .i64 x.f2],rfl,⟨v0,rfl,g0⟩,⟨[.int .i64 x.f1],[.int .i64 x.f2],rfl,rfl,rfl⟩⟩
theorem k116_openF {W:World} {ok:Nat→Prop} {x:S116} {cs:List Value} (h:Kd.FK k116 W ok x cs) : ∃ A0 c0,cs=[.slice A0 x.f0.length c0,.int .i64 x.f1,.int .i64 x.f2]∧x.f0.length≤c0∧Kd.F (Kd.int .i64) W ok A0 x.f0.length x.f0:=by
 obtain⟨A0,c0,rfl,l0,_⟩:=k116_open (Kd.FK_now h)
 exact⟨A0,c0,rfl,l0,(fun W' hW=>by obtain⟨A0_,c0_,he,l0_,g0_⟩:=k116_open (h W' hW);injection (Option.some.inj (show some (Value.slice A0 x.f0.length c0)=some (Value.slice A0_ x.f0.length c0_) from congrArg (fun l=>l[0]?) he)) with ha_ _ _;rw[ha_];exact g0_)⟩
theorem k116_mkF (W:World) (ok:Nat→Prop) (x:S116) {A0:Option Addr} {c0:Nat} (l0:x.f0.length≤c0) (g0:Kd.F (Kd.int .i64) W ok A0 x.f0.length x.f0):Kd.FK k116 W ok x [.slice A0 x.f0.length c0,.int .i64 x.f1,.int .i64 x.f2]:=fun W2 hW=>k116_mk W2 x l0 (g0 W2 hW)
def rd_T116 (xs:List S116) (i:Int):S116:=xs.getD i.toNat z116
theorem at_T116 {w:World} {A:Option Addr} {n:Nat} {xs:List S116} (h:Kd.C k116 w A n xs) (i:Int) (h0:0≤i) (h1:i < n) : ∃ ad A0 c0,A=some ad∧w.cell? (ad.add (i.toNat * 3))=some (.slice A0 (rd_T116 xs i).f0.length c0)∧w.cell? ⟨(ad.add (i.toNat * 3)).block,(ad.add (i.toNat * 3)).off+1,none⟩=some (.int .i64 (rd_T116 xs i).f1)∧w.cell? ⟨(ad.add (i.toNat * 3)).block,(ad.add (i.toNat * 3)).off+2,none⟩=some (.int .i64 (rd_T116 xs i).f2)∧(rd_T116 xs i).f0.length≤c0∧(Kd.int .i64).C w A0 (rd_T116 xs i).f0.length (rd_T116 xs i).f0:=by
 obtain⟨ad,c,e,_,hK,hc0⟩:=Kd.C_get h z116 i h0 h1
 have hc : ∀ j u,c[j]?=some u→w.cell? (ad.add (i.toNat * 3+j))=some u:=hc0
 obtain⟨A0,c0,rfl,l0,g0⟩:=k116_open hK
 exact⟨ad,A0,c0,e,hc 0 _ rfl,by rw[← add_field _ _ 1 (by omega)];exact hc 1 _ rfl,by rw[← add_field _ _ 2 (by omega)];exact hc 2 _ rfl,l0,g0⟩

end Go.Proofs.Yteneeohaoplpbaa.XFnExactRunRounds
