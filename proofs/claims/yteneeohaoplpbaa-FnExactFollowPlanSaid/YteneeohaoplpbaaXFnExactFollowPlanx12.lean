-- Written by this session's own program (wip/xprint.py) out of the translation; Lean checks it.
import Derived.Test.YteneeohaoplpbaaXFnExactFollowPlanx0
import Derived.Test.YteneeohaoplpbaaXFnExactFollowPlanx6
import Derived.Test.YteneeohaoplpbaaXFnExactFollowPlanx10
import Derived.Test.YteneeohaoplpbaaXFnExactFollowPlanx11
namespace Go.Proofs.Yteneeohaoplpbaa.XFnExactFollowPlan
open Go.RowKit Go.Proofs.YteneeohaoplpbaaW.PrintWords Go.Proofs.YteneeohaoplpbaaW.PrintLast Go.Proofs.YteneeohaoplpbaaW.PrintMore
attribute [local go_sem] max2_int min2_int max_two min_two max_three min_three max_four min_four   -- for this text's walks alone
set_option linter.unusedVariables false
set_option linter.unusedSimpArgs false

/-! ### impl_FollowPlan: function 58 -/
mutual
def impl_FollowPlan.j0:Nat→List (S104)→Int→Bool→Int→Int→Bool→Int→Int→Int→Int→Int→Int→ByteArray→Option (List Int × Int × Bool)
 | 0,_,_,_,_,_,_,_,_,_,_,_,_,_=>none
 | k+1,x0,x2,x23,x308000,x308001,x308002,x308003,x308004,x308005,x308006,x308007,x308008,x308009=>if x23=true then (some (([]:List Int),0,false)) else (impl_FollowPlan.l0 k x0 x2 (([]:List Int)) x308000 x308003 x308000 x308001 x308002 x308003 x308004 x308005 x308006 x308007 x308008 x308009)
def impl_FollowPlan.l0:Nat→List (S104)→Int→List Int→Int→Int→Int→Int→Bool→Int→Int→Int→Int→Int→Int→ByteArray→Option (List Int × Int × Bool)
 | 0,_,_,_,_,_,_,_,_,_,_,_,_,_,_,_=>none
 | k+1,x0,x2,x9,x10,x11,x308000,x308001,x308002,x308003,x308004,x308005,x308006,x308007,x308008,x308009=>if x10=x2 then (some (x9,x11,true)) else ((impl_ForwardStep.f k x0 x308000 x308001 x308002 x308003 x308004 x308005 x308006 x308007 x308008 x308009 x10 x11 x2).bind fun bt313=>(if bt313.2.2=true then (if (x9.length:Int)=20 then (some (([]:List Int),0,false)) else (if x9.length < 17592186044416 then (if 0≤bt313.1 then (if bt313.1 < (x0.length:Int) then (impl_FollowPlan.l0 k x0 x2 (x9++[bt313.1]) ((rd_T104 x0 bt313.1).f1) bt313.2.1 x308000 x308001 x308002 x308003 x308004 x308005 x308006 x308007 x308008 x308009) else (none)) else (none)) else (none))) else (some (([]:List Int),0,false))))
end
def impl_FollowPlan.f (k:Nat) (l0:List (S104)) (a1_0:Int) (a1_1:Int) (a1_2:Bool) (a1_3:Int) (a1_4:Int) (a1_5:Int) (a1_6:Int) (a1_7:Int) (a1_8:Int) (a1_9:ByteArray) (a2:Int):Option (List Int × Int × Bool):=(impl_fits.f k l0 a1_0 a1_1 a1_2 a1_3 a1_4 a1_5 a1_6 a1_7 a1_8 a1_9).bind fun t308=>(if t308=true then ((impl_isNode.f a2).bind fun t309=>(impl_FollowPlan.j0 k l0 a2 (!t309) a1_0 a1_1 a1_2 a1_3 a1_4 a1_5 a1_6 a1_7 a1_8 a1_9)) else (impl_FollowPlan.j0 k l0 a2 true a1_0 a1_1 a1_2 a1_3 a1_4 a1_5 a1_6 a1_7 a1_8 a1_9))
theorem impl_FollowPlan.mono_l : ∀ k,(∀ y0 y1 y2 y3 y4 y5 y6 y7 y8 y9 y10 y11 y12,LeO (impl_FollowPlan.j0 k y0 y1 y2 y3 y4 y5 y6 y7 y8 y9 y10 y11 y12) (impl_FollowPlan.j0 (k+1) y0 y1 y2 y3 y4 y5 y6 y7 y8 y9 y10 y11 y12))∧(∀ y0 y1 y2 y3 y4 y5 y6 y7 y8 y9 y10 y11 y12 y13 y14,LeO (impl_FollowPlan.l0 k y0 y1 y2 y3 y4 y5 y6 y7 y8 y9 y10 y11 y12 y13 y14) (impl_FollowPlan.l0 (k+1) y0 y1 y2 y3 y4 y5 y6 y7 y8 y9 y10 y11 y12 y13 y14))
 | 0=>⟨fun _ _ _ _ _ _ _ _ _ _ _ _ _ r h=>by simp[impl_FollowPlan.j0] at h,fun _ _ _ _ _ _ _ _ _ _ _ _ _ _ _ r h=>by simp[impl_FollowPlan.l0] at h⟩
 | k+1=>by
  obtain⟨ih0,ih1⟩:=impl_FollowPlan.mono_l k
  refine⟨?_,?_⟩
  ·intro y0 y1 y2 y3 y4 y5 y6 y7 y8 y9 y10 y11 y12
   unfold impl_FollowPlan.j0
   repeat' first
   | (with_reducible exact ih0 _ _ _ _ _ _ _ _ _ _ _ _ _)
   | (with_reducible exact ih1 _ _ _ _ _ _ _ _ _ _ _ _ _ _ _)
   | (with_reducible exact impl_ForwardStep.mono _ _ _ _ _ _ _ _ _ _ _ _ _ _ _)
   | (with_reducible exact impl_fits.mono _ _ _ _ _ _ _ _ _ _ _ _)
   | (with_reducible exact LeO.refl _)
   | (with_reducible exact LeO.none _)
   | (with_reducible refine LeO.ite ?_ ?_)
   | (with_reducible refine LeO.bind ?_ (fun _ => ?_))
   | exact ih0 _ _ _ _ _ _ _ _ _ _ _ _ _
   | exact ih1 _ _ _ _ _ _ _ _ _ _ _ _ _ _ _
   | exact impl_ForwardStep.mono _ _ _ _ _ _ _ _ _ _ _ _ _ _ _
   | exact impl_fits.mono _ _ _ _ _ _ _ _ _ _ _ _
   | exact LeO.none _
   | refine LeO.ite ?_ ?_
   | refine LeO.bind ?_ (fun _ => ?_)
  ·intro y0 y1 y2 y3 y4 y5 y6 y7 y8 y9 y10 y11 y12 y13 y14
   unfold impl_FollowPlan.l0
   repeat' first
   | (with_reducible exact ih0 _ _ _ _ _ _ _ _ _ _ _ _ _)
   | (with_reducible exact ih1 _ _ _ _ _ _ _ _ _ _ _ _ _ _ _)
   | (with_reducible exact impl_ForwardStep.mono _ _ _ _ _ _ _ _ _ _ _ _ _ _ _)
   | (with_reducible exact impl_fits.mono _ _ _ _ _ _ _ _ _ _ _ _)
   | (with_reducible exact LeO.refl _)
   | (with_reducible exact LeO.none _)
   | (with_reducible refine LeO.ite ?_ ?_)
   | (with_reducible refine LeO.bind ?_ (fun _ => ?_))
   | exact ih0 _ _ _ _ _ _ _ _ _ _ _ _ _
   | exact ih1 _ _ _ _ _ _ _ _ _ _ _ _ _ _ _
   | exact impl_ForwardStep.mono _ _ _ _ _ _ _ _ _ _ _ _ _ _ _
   | exact impl_fits.mono _ _ _ _ _ _ _ _ _ _ _ _
   | exact LeO.none _
   | refine LeO.ite ?_ ?_
   | refine LeO.bind ?_ (fun _ => ?_)
theorem impl_FollowPlan.mono : ∀ a0 a1 a2 a3 a4 a5 a6 a7 a8 a9 a10 a11 k,LeO (impl_FollowPlan.f k a0 a1 a2 a3 a4 a5 a6 a7 a8 a9 a10 a11) (impl_FollowPlan.f (k+1) a0 a1 a2 a3 a4 a5 a6 a7 a8 a9 a10 a11):=by
 intro a0 a1 a2 a3 a4 a5 a6 a7 a8 a9 a10 a11 k
 obtain⟨ih0,ih1⟩:=impl_FollowPlan.mono_l k
 unfold impl_FollowPlan.f
 repeat' first
  | (with_reducible exact ih0 _ _ _ _ _ _ _ _ _ _ _ _ _)
  | (with_reducible exact ih1 _ _ _ _ _ _ _ _ _ _ _ _ _ _ _)
  | (with_reducible exact impl_ForwardStep.mono _ _ _ _ _ _ _ _ _ _ _ _ _ _ _)
  | (with_reducible exact impl_fits.mono _ _ _ _ _ _ _ _ _ _ _ _)
  | (with_reducible exact LeO.refl _)
  | (with_reducible exact LeO.none _)
  | (with_reducible refine LeO.ite ?_ ?_)
  | (with_reducible refine LeO.bind ?_ (fun _ => ?_))
  | exact ih0 _ _ _ _ _ _ _ _ _ _ _ _ _
  | exact ih1 _ _ _ _ _ _ _ _ _ _ _ _ _ _ _
  | exact impl_ForwardStep.mono _ _ _ _ _ _ _ _ _ _ _ _ _ _ _
  | exact impl_fits.mono _ _ _ _ _ _ _ _ _ _ _ _
  | exact LeO.none _
  | refine LeO.ite ?_ ?_
  | refine LeO.bind ?_ (fun _ => ?_)
def impl_FollowPlan.T3:Bool × List (List Nat × List Nat):=(true,[([],[]),([],[]),([1],[1]),([],[]),([3],[3]),([0,0],[0]),([2,5,0,1,2,5],[2]),([4,6,0,1,2,3,4,5,6],[4])])
def impl_FollowPlan.B3:List Nat:=[0,0,2,0,8,1,39,127]
theorem impl_FollowPlan.tab3:rtab .any (opsOf Try.f58 3)=impl_FollowPlan.T3:=by kernel_rfl
theorem impl_FollowPlan.bits3:waitsOk impl_FollowPlan.T3.2 impl_FollowPlan.B3=true:=by kernel_rfl
def impl_FollowPlan.T8:Bool × List (List Nat × List Nat):=(true,[([],[]),([],[]),([1],[1]),([0,2],[0,2]),([],[]),([],[]),([4,5],[4,5]),([6],[6]),([7],[7]),([],[]),([3,3,0,1,2,3],[0,3]),([8,10,0,1,2,3,4,5,6,7,8,10],[8]),([9,11,0,1,2,3,4,5,6,7,8,9,10,11],[9])])
def impl_FollowPlan.B8:List Nat:=[0,0,2,7,0,0,48,112,240,0,15,1535,4095]
theorem impl_FollowPlan.tab8:rtab .any (opsOf Try.f58 8)=impl_FollowPlan.T8:=by kernel_rfl
theorem impl_FollowPlan.bits8:waitsOk impl_FollowPlan.T8.2 impl_FollowPlan.B8=true:=by kernel_rfl
set_option maxHeartbeats 8000000 in
set_option maxRecDepth 100000 in
theorem impl_FollowPlan.calls (k:Nat) (A0:Option Addr) (c0:Nat) (l0:List (S104)) (a1_0:Int) (a1_1:Int) (a1_2:Bool) (a1_3:Int) (a1_4:Int) (a1_5:Int) (a1_6:Int) (a1_7:Int) (a1_8:Int) (a1_9:ByteArray) (a2:Int) (r1:List Int) (r2:Int) (r3:Bool) (w:World) (hr0:Kd.C k104 w A0 l0.length l0) (hc0:l0.length≤c0) (h:impl_FollowPlan.f k l0 a1_0 a1_1 a1_2 a1_3 a1_4 a1_5 a1_6 a1_7 a1_8 a1_9 a2=some (r1,r2,r3)) :
  Calls Try.prog 58 #[.slice A0 l0.length c0,.agg #[.int .i64 a1_0,.int .i64 a1_1,.bool a1_2,.int .i64 a1_3,.int .i64 a1_4,.int .i64 a1_5,.int .i64 a1_6,.int .i64 a1_7,.int .i64 a1_8,.string a1_9],.int .i64 a2] w fun e w' => ∃ v0_:Value,e=.returned (.tuple #[v0_,.int .i64 r2,.bool r3])∧Kd.R (Kd.int .i64) 3 w' w.heap.size (fun _=>True) v0_ r1∧Below w.heap.size w w':=by
 have hu86:=Try.underlying86
 have HR0:=Aside0.mk hr0
 have HC0:=Aside0.mk hc0
 clear hr0 hc0
 have HB:=Aside0.mk (Below.refl w.heap.size w)
 have H:((impl_fits.f k l0 a1_0 a1_1 a1_2 a1_3 a1_4 a1_5 a1_6 a1_7 a1_8 a1_9).bind fun t308=>(if t308=true then ((impl_isNode.f a2).bind fun t309=>(impl_FollowPlan.j0 k l0 a2 (!t309) a1_0 a1_1 a1_2 a1_3 a1_4 a1_5 a1_6 a1_7 a1_8 a1_9)) else (impl_FollowPlan.j0 k l0 a2 true a1_0 a1_1 a1_2 a1_3 a1_4 a1_5 a1_6 a1_7 a1_8 a1_9)))=some (r1,r2,r3):=h
 clear h
 have HC4:=Aside0.mk H
 clear H
 go_enter Try.func58,Try.ntmps58
 go_upto_region 1 with (first|((with_reducible refine gate_dst (N:=4) rfl ?_);(try (refine gate_guard (by rfl) ?_;dsimp only));refine box_event ?hg (N:=4) ?hd (cs:=#[.int .i64 a1_0,.int .i64 a1_1,.bool a1_2,.int .i64 a1_3,.int .i64 a1_4,.int .i64 a1_5,.int .i64 a1_6,.int .i64 a1_7,.int .i64 a1_8,.string a1_9]) (t:=86) ?hr ?_;(case hd=>rfl);(case hg=>rfl);(case hr=>first|(go_simp;done)|(go_simp;rfl));intro gb307 hg w5 hbox hb;have n0_:=Aside0.mk (below_step (bB) hb);have n1_:=Aside0.mk (hbox);have n2_:=Aside0.mk ((bG:w.heap.size≤gb307));have n3_:=Aside0.mk ((bG:w.heap.size≤gb307));clear HB;have HB:=n0_;have BK307:=n1_;have GW307:=n2_;have GE307:=n3_;clear n0_ n1_ n2_ n3_;clear hb hbox hg))
 (try simp only[Act.put,List.setIfInBounds_toArray,List.set_cons_zero,List.set_cons_succ])
 go_cut [23] (fun v23 wc => ∃ (kq:Nat) (x23_3:Bool),v23=.bool x23_3∧Aside0 (impl_FollowPlan.j0 kq l0 a2 x23_3 a1_0 a1_1 a1_2 a1_3 a1_4 a1_5 a1_6 a1_7 a1_8 a1_9=some (r1,r2,r3))∧Aside0 (kq≤k)∧Aside0 (wc.heap[gb307]?=some (.cells #[.int .i64 a1_0,.int .i64 a1_1,.bool a1_2,.int .i64 a1_3,.int .i64 a1_4,.int .i64 a1_5,.int .i64 a1_6,.int .i64 a1_7,.int .i64 a1_8,.string a1_9] 86 (0,0)))∧Aside0 (Below w.heap.size w wc))
 case first =>
  have H:=HC4.out
  clear HC4
  replace H:=Option.bind_eq_some_iff.mp H
  obtain⟨t308,A60,H⟩:=H
  replace H:(if t308=true then ((impl_isNode.f a2).bind fun t309=>(impl_FollowPlan.j0 k l0 a2 (!t309) a1_0 a1_1 a1_2 a1_3 a1_4 a1_5 a1_6 a1_7 a1_8 a1_9)) else (impl_FollowPlan.j0 k l0 a2 true a1_0 a1_1 a1_2 a1_3 a1_4 a1_5 a1_6 a1_7 a1_8 a1_9))=some (r1,r2,r3):=H
  have A6:=Aside0.mk A60
  clear A60
  by_cases c7:t308=true
  ·subst c7
   have H1:((impl_isNode.f a2).bind fun t309=>(impl_FollowPlan.j0 k l0 a2 (!t309) a1_0 a1_1 a1_2 a1_3 a1_4 a1_5 a1_6 a1_7 a1_8 a1_9))=some (r1,r2,r3):=by rw[if_pos rfl] at H;exact H
   clear H
   have H:=H1
   clear H1
   replace H:=Option.bind_eq_some_iff.mp H
   obtain⟨t309,A80,H⟩:=H
   replace H:(impl_FollowPlan.j0 k l0 a2 (!t309) a1_0 a1_1 a1_2 a1_3 a1_4 a1_5 a1_6 a1_7 a1_8 a1_9)=some (r1,r2,r3):=H
   have A8:=Aside0.mk A80
   clear A80
   have H':=Aside0.mk H
   clear H
   have hcz9_0:w5.cell? ⟨gb307,0,none⟩=some (.int .i64 a1_0):=(blk_cell BK307.out 0).trans rfl
   have hcz9_1:w5.cell? ⟨gb307,1,none⟩=some (.int .i64 a1_1):=(blk_cell BK307.out 1).trans rfl
   have hcz9_2:w5.cell? ⟨gb307,2,none⟩=some (.bool a1_2):=(blk_cell BK307.out 2).trans rfl
   have hcz9_3:w5.cell? ⟨gb307,3,none⟩=some (.int .i64 a1_3):=(blk_cell BK307.out 3).trans rfl
   have hcz9_4:w5.cell? ⟨gb307,4,none⟩=some (.int .i64 a1_4):=(blk_cell BK307.out 4).trans rfl
   have hcz9_5:w5.cell? ⟨gb307,5,none⟩=some (.int .i64 a1_5):=(blk_cell BK307.out 5).trans rfl
   have hcz9_6:w5.cell? ⟨gb307,6,none⟩=some (.int .i64 a1_6):=(blk_cell BK307.out 6).trans rfl
   have hcz9_7:w5.cell? ⟨gb307,7,none⟩=some (.int .i64 a1_7):=(blk_cell BK307.out 7).trans rfl
   have hcz9_8:w5.cell? ⟨gb307,8,none⟩=some (.int .i64 a1_8):=(blk_cell BK307.out 8).trans rfl
   have hcz9_9:w5.cell? ⟨gb307,9,none⟩=some (.string a1_9):=(blk_cell BK307.out 9).trans rfl
   have hfz9_0:=blk_frozen BK307.out 0
   have hfz9_1:=blk_frozen BK307.out 1
   have hfz9_2:=blk_frozen BK307.out 2
   have hfz9_3:=blk_frozen BK307.out 3
   have hfz9_4:=blk_frozen BK307.out 4
   have hfz9_5:=blk_frozen BK307.out 5
   have hfz9_6:=blk_frozen BK307.out 6
   have hfz9_7:=blk_frozen BK307.out 7
   have hfz9_8:=blk_frozen BK307.out 8
   have hfz9_9:=blk_frozen BK307.out 9
   go_wp2_with (first|((with_reducible refine gate_callee (f:=121) rfl ?_);refine goesA (some 17) rfl rfl Try.func121 #[.slice A0 l0.length c0,.agg #[.int .i64 a1_0,.int .i64 a1_1,.bool a1_2,.int .i64 a1_3,.int .i64 a1_4,.int .i64 a1_5,.int .i64 a1_6,.int .i64 a1_7,.int .i64 a1_8,.string a1_9]] rfl ?_;(with_reducible refine(impl_fits.calls k _ _ l0 a1_0 a1_1 a1_2 a1_3 a1_4 a1_5 a1_6 a1_7 a1_8 a1_9 true _ ?side1 ?side2 A6.out).mono ?_);(case side1=>exact bC HR0.out);(case side2=>exact HC0.out);rintro e w10 ⟨rfl,hb⟩;refine⟨_,rfl,?_⟩;have n0_:=Aside0.mk (blk_below (g:=gb307) (o:=.cells #[.int .i64 a1_0,.int .i64 a1_1,.bool a1_2,.int .i64 a1_3,.int .i64 a1_4,.int .i64 a1_5,.int .i64 a1_6,.int .i64 a1_7,.int .i64 a1_8,.string a1_9] 86 (0,0)) (bL BK307.out) hb);have n1_:=Aside0.mk (below_step (bS GE307.out) hb);clear BK307 HB;have BK307:=n0_;have HB:=n1_;clear n0_ n1_;(try clear hb);(try clear hb2);(try clear hk);(try clear hi))|(go_at_call 89;(with_reducible refine(impl_isNode.calls a2 t309 _ A8.out).mono ?_);rintro e w' ⟨rfl,⟨nd,rfl⟩⟩))
   go_meet
   case rel=>exact⟨_,(!t309),(bR),H',⟨by first|omega|exact Nat.le_refl _⟩,⟨by(with_reducible repeat (first|refine blk_drewN ?_ _|refine blk_drew ?_|refine blk_alloc ?_ _));exact BK307.out⟩,⟨bS GE307.out⟩⟩
  ·replace c7:=Bool.eq_false_iff.mpr c7
   subst c7
   have H1:(impl_FollowPlan.j0 k l0 a2 true a1_0 a1_1 a1_2 a1_3 a1_4 a1_5 a1_6 a1_7 a1_8 a1_9)=some (r1,r2,r3):=by rw[if_neg (show ¬ (false=true) by decide)] at H;exact H
   clear H
   have H:=H1
   clear H1
   have H':=Aside0.mk H
   clear H
   have hcz11_0:w5.cell? ⟨gb307,0,none⟩=some (.int .i64 a1_0):=(blk_cell BK307.out 0).trans rfl
   have hcz11_1:w5.cell? ⟨gb307,1,none⟩=some (.int .i64 a1_1):=(blk_cell BK307.out 1).trans rfl
   have hcz11_2:w5.cell? ⟨gb307,2,none⟩=some (.bool a1_2):=(blk_cell BK307.out 2).trans rfl
   have hcz11_3:w5.cell? ⟨gb307,3,none⟩=some (.int .i64 a1_3):=(blk_cell BK307.out 3).trans rfl
   have hcz11_4:w5.cell? ⟨gb307,4,none⟩=some (.int .i64 a1_4):=(blk_cell BK307.out 4).trans rfl
   have hcz11_5:w5.cell? ⟨gb307,5,none⟩=some (.int .i64 a1_5):=(blk_cell BK307.out 5).trans rfl
   have hcz11_6:w5.cell? ⟨gb307,6,none⟩=some (.int .i64 a1_6):=(blk_cell BK307.out 6).trans rfl
   have hcz11_7:w5.cell? ⟨gb307,7,none⟩=some (.int .i64 a1_7):=(blk_cell BK307.out 7).trans rfl
   have hcz11_8:w5.cell? ⟨gb307,8,none⟩=some (.int .i64 a1_8):=(blk_cell BK307.out 8).trans rfl
   have hcz11_9:w5.cell? ⟨gb307,9,none⟩=some (.string a1_9):=(blk_cell BK307.out 9).trans rfl
   have hfz11_0:=blk_frozen BK307.out 0
   have hfz11_1:=blk_frozen BK307.out 1
   have hfz11_2:=blk_frozen BK307.out 2
   have hfz11_3:=blk_frozen BK307.out 3
   have hfz11_4:=blk_frozen BK307.out 4
   have hfz11_5:=blk_frozen BK307.out 5
   have hfz11_6:=blk_frozen BK307.out 6
   have hfz11_7:=blk_frozen BK307.out 7
   have hfz11_8:=blk_frozen BK307.out 8
   have hfz11_9:=blk_frozen BK307.out 9
   go_wp2_with (first|((with_reducible refine gate_callee (f:=121) rfl ?_);refine goesA (some 17) rfl rfl Try.func121 #[.slice A0 l0.length c0,.agg #[.int .i64 a1_0,.int .i64 a1_1,.bool a1_2,.int .i64 a1_3,.int .i64 a1_4,.int .i64 a1_5,.int .i64 a1_6,.int .i64 a1_7,.int .i64 a1_8,.string a1_9]] rfl ?_;(with_reducible refine(impl_fits.calls k _ _ l0 a1_0 a1_1 a1_2 a1_3 a1_4 a1_5 a1_6 a1_7 a1_8 a1_9 false _ ?side1 ?side2 A6.out).mono ?_);(case side1=>exact bC HR0.out);(case side2=>exact HC0.out);rintro e w12 ⟨rfl,hb⟩;refine⟨_,rfl,?_⟩;have n0_:=Aside0.mk (blk_below (g:=gb307) (o:=.cells #[.int .i64 a1_0,.int .i64 a1_1,.bool a1_2,.int .i64 a1_3,.int .i64 a1_4,.int .i64 a1_5,.int .i64 a1_6,.int .i64 a1_7,.int .i64 a1_8,.string a1_9] 86 (0,0)) (bL BK307.out) hb);have n1_:=Aside0.mk (below_step (bS GE307.out) hb);clear BK307 HB;have BK307:=n0_;have HB:=n1_;clear n0_ n1_;(try clear hb);(try clear hb2);(try clear hk);(try clear hi)))
   go_meet
   case rel=>exact⟨_,(true),(bR),H',⟨by first|omega|exact Nat.le_refl _⟩,⟨by(with_reducible repeat (first|refine blk_drewN ?_ _|refine blk_drew ?_|refine blk_alloc ?_ _));exact BK307.out⟩,⟨bS GE307.out⟩⟩
 case rest =>
  clear HC4
  try clear c1
  try clear p2
  try clear c5
  try clear c7
  try clear c12
  try clear hcz11_0
  try clear hcz11_1
  try clear hcz11_2
  try clear hcz11_3
  try clear hcz11_4
  try clear hcz11_5
  try clear hcz11_6
  try clear hcz11_7
  try clear hcz11_8
  try clear hcz11_9
  try clear hcz9_0
  try clear hcz9_1
  try clear hcz9_2
  try clear hcz9_3
  try clear hcz9_4
  try clear hcz9_5
  try clear hcz9_6
  try clear hcz9_7
  try clear hcz9_8
  try clear hcz9_9
  try clear hfz11_0
  try clear hfz11_1
  try clear hfz11_2
  try clear hfz11_3
  try clear hfz11_4
  try clear hfz11_5
  try clear hfz11_6
  try clear hfz11_7
  try clear hfz11_8
  try clear hfz11_9
  try clear hfz9_0
  try clear hfz9_1
  try clear hfz9_2
  try clear hfz9_3
  try clear hfz9_4
  try clear hfz9_5
  try clear hfz9_6
  try clear hfz9_7
  try clear hfz9_8
  try clear hfz9_9
  obtain⟨kq,x23_3,rfl,HA,HJ3,BK307,HB⟩:=hcut
  cases kq with
  | zero=>exact absurd HA.out (by simp[impl_FollowPlan.j0])
  | succ kj3 =>
   have H:=HA.out
   clear HA
   simp only[impl_FollowPlan.j0] at H
   by_cases c13:x23_3=true
   ·subst c13
    have H1:(some (([]:List Int),0,false))=some (r1,r2,r3):=by rw[if_pos rfl] at H;exact H
    clear H
    have H:=H1
    clear H1
    simp only[Option.some.injEq,Prod.mk.injEq] at H
    obtain⟨rfl,rfl,rfl⟩:=H
    go_wp2
    go_ret3
    exact⟨_,by first|rfl|(simp[errW_none,errW_some]<;>rfl)|(simp[*,errW_none,errW_some]<;>rfl),by first|exact Kd.R_nil _ _ _ _ _|exact Kd.N_nil _ _ _ _ _|exact Kd.V_nil _ _ _ _ _|exact Kd.Q_nil _ _ _ _ _|exact Kd.S_nil _ _ _ _ _,bS GE307.out⟩
   ·replace c13:=Bool.eq_false_iff.mpr c13
    subst c13
    have H1:(impl_FollowPlan.l0 kj3 l0 a2 (([]:List Int)) a1_0 a1_3 a1_0 a1_1 a1_2 a1_3 a1_4 a1_5 a1_6 a1_7 a1_8 a1_9)=some (r1,r2,r3):=by rw[if_neg (show ¬ (false=true) by decide)] at H;exact H
    clear H
    have H:=H1
    clear H1
    obtain⟨y310,hy310⟩ : ∃ y_:List Int,y_=(([]:List Int)):=⟨_,rfl⟩
    replace H:(impl_FollowPlan.l0 kj3 l0 a2 y310 a1_0 a1_3 a1_0 a1_1 a1_2 a1_3 a1_4 a1_5 a1_6 a1_7 a1_8 a1_9)=some (r1,r2,r3):=by first|(rw[hy310];with_reducible exact H)|(have H2_:=(Option.bind_some _ _).symm.trans H;rw[hy310];with_reducible exact H2_)|(have H2_:=(Option.bind_some _ _).symm.trans H;with_reducible exact H2_)|with_reducible exact H|(rw[hy310];exact H)|exact H
    have Ny310:=Aside0.mk hy310
    clear hy310
    have H':=Aside0.mk H
    clear H
    try go_wp2
    have n0_:=Aside0.mk (blk_drew BK307.out)
    have n1_:=Aside0.mk (below_drew1 HB.out)
    clear BK307 HB
    have BK307:=n0_
    have HB:=n1_
    clear n0_ n1_
    refine start_ (n:=8) (S:=fun w'=>w'.cell? ⟨gb307,0,none⟩=some (.int .i64 a1_0)∧w'.cell? ⟨gb307,1,none⟩=some (.int .i64 a1_1)∧w'.cell? ⟨gb307,2,none⟩=some (.bool a1_2)∧w'.cell? ⟨gb307,3,none⟩=some (.int .i64 a1_3)∧w'.cell? ⟨gb307,4,none⟩=some (.int .i64 a1_4)∧w'.cell? ⟨gb307,5,none⟩=some (.int .i64 a1_5)∧w'.cell? ⟨gb307,6,none⟩=some (.int .i64 a1_6)∧w'.cell? ⟨gb307,7,none⟩=some (.int .i64 a1_7)∧w'.cell? ⟨gb307,8,none⟩=some (.int .i64 a1_8)∧w'.cell? ⟨gb307,9,none⟩=some (.string a1_9)) (ds:=[]) #[false,false,false,false,false,false,false,false] (by kernel_rfl) rfl rfl ⟨(blk_cell BK307.out 0).trans rfl,(blk_cell BK307.out 1).trans rfl,(blk_cell BK307.out 2).trans rfl,(blk_cell BK307.out 3).trans rfl,(blk_cell BK307.out 4).trans rfl,(blk_cell BK307.out 5).trans rfl,(blk_cell BK307.out 6).trans rfl,(blk_cell BK307.out 7).trans rfl,(blk_cell BK307.out 8).trans rfl,(blk_cell BK307.out 9).trans rfl⟩ (fun hHeld => ?_);refine with_tabW impl_FollowPlan.tab3 impl_FollowPlan.bits3 (fun HT_ HW_ => ?_)
    generalize wc.drew=w14 at BK307 HB hHeld ⊢
    refine pure_ (i:=1) (N:=some 25) (v:=?_) (a':=?_) #[false,true,false,false,false,false,false,false] rfl rfl (any_of HT_.out (by kernel_rfl)) (fun _ _ _ h=>h) (Or.inl ⟨by rfl,?_⟩) ?_ ?_
    rotate_left
    ·intro w'
     go_simp
     with_reducible rfl
    rotate_left
    ·simp only[Act.put,List.setIfInBounds_toArray,List.set_cons_zero,List.set_cons_succ,i64_w,i32_w]
     rfl
    refine pure_ (i:=3) (N:=some 27) (v:=?_) (a':=?_) #[false,true,false,true,false,false,false,false] rfl rfl (any_of HT_.out (by kernel_rfl)) (fun _ _ _ h=>h) (Or.inl ⟨by rfl,?_⟩) ?_ ?_
    rotate_left
    ·intro w'
     go_simp
     with_reducible rfl
    rotate_left
    ·simp only[Act.put,List.setIfInBounds_toArray,List.set_cons_zero,List.set_cons_succ,i64_w,i32_w]
     rfl
    refine take_ (i:=2) (N:=some 26) (v:=?_) (a':=?_) #[false,true,true,true,false,false,false,false] rfl rfl (take_ofW HT_.out HW_.out (by kernel_rfl)) (fun _ _ _ h=>h) (Or.inl ⟨by rfl,?_⟩) hHeld ?_ ?_
    rotate_left
    ·rintro w' ⟨s0,s1,s2,s3,s4,s5,s6,s7,s8,s9⟩
     go_simp
     with_reducible rfl
    rotate_left
    ·simp only[Act.put,List.setIfInBounds_toArray,List.set_cons_zero,List.set_cons_succ,i64_w,i32_w]
     rfl
    refine take_ (i:=4) (N:=some 28) (v:=?_) (a':=?_) #[false,true,true,true,true,false,false,false] rfl rfl (take_ofW HT_.out HW_.out (by kernel_rfl)) (fun _ _ _ h=>h) (Or.inl ⟨by rfl,?_⟩) hHeld ?_ ?_
    rotate_left
    ·rintro w' ⟨s0,s1,s2,s3,s4,s5,s6,s7,s8,s9⟩
     go_simp
     with_reducible rfl
    rotate_left
    ·simp only[Act.put,List.setIfInBounds_toArray,List.set_cons_zero,List.set_cons_succ,i64_w,i32_w]
     rfl
    refine one_ (i:=0) (N:=some 24) #[true,true,true,true,true,false,false,false] rfl rfl (one_of HT_.out (by kernel_rfl)) (by decide) (fun K hK => ?_)
    refine Kd.R_lit_step (Kd.int .i64) _ 3 ?hg (N:=24) ?hd (xs:=([]:List Int)) (inner:=[]) (ok:=fun _=>True) (okp:=fun _=>True) ?hr ?hp (fun _ hk=>hk) trivial (Below.refl _ _) (Nat.le_refl _) (by simp) ?_;(case hd=>rfl);(case hg=>rfl);(case hr=>first|(go_simp;done)|(go_simp;rfl));(case hp=>exact(Reps.none _ _))
    intro v311 w15 ho16 hb hg_ hnew_
    clear hg_ hnew_
    (first|rw[← Ny310.out] at ho16|(simp only[Int.reduceToNat] at ho16;rw[← Ny310.out] at ho16))
    have n0_:=Aside0.mk (Kd.R_lower ho16 (below_size (bS GE307.out)))
    have n1_:=Aside0.mk (blk_below (g:=gb307) (o:=.cells #[.int .i64 a1_0,.int .i64 a1_1,.bool a1_2,.int .i64 a1_3,.int .i64 a1_4,.int .i64 a1_5,.int .i64 a1_6,.int .i64 a1_7,.int .i64 a1_8,.string a1_9] 86 (0,0)) (bL BK307.out) hb)
    have n2_:=Aside0.mk (below_step (bS GE307.out) hb)
    clear BK307 HB
    have HO312:=n0_
    have BK307:=n1_
    have HB:=n2_
    clear n0_ n1_ n2_ hb ho16
    refine hK.out _ _ ⟨(blk_cell BK307.out 0).trans rfl,(blk_cell BK307.out 1).trans rfl,(blk_cell BK307.out 2).trans rfl,(blk_cell BK307.out 3).trans rfl,(blk_cell BK307.out 4).trans rfl,(blk_cell BK307.out 5).trans rfl,(blk_cell BK307.out 6).trans rfl,(blk_cell BK307.out 7).trans rfl,(blk_cell BK307.out 8).trans rfl,(blk_cell BK307.out 9).trans rfl⟩ (fun hHeld => ?_)
    clear hK K
    refine norm_ (a':=?_) ?_ ?_
    rotate_left
    ·show Act.put _ (some 24) _=_
     simp only[Act.put,List.setIfInBounds_toArray,List.set_cons_zero,List.set_cons_succ,i64_w,i32_w]
     rfl
    refine pure_ (i:=5) (N:=some 9) (v:=?_) (a':=?_) #[true,true,true,true,true,true,false,false] rfl rfl (any_of HT_.out (by kernel_rfl)) (fun _ _ _ h=>h) (Or.inl ⟨by rfl,?_⟩) ?_ ?_
    rotate_left
    ·intro w'
     go_simp
     with_reducible rfl
    rotate_left
    ·simp only[Act.put,List.setIfInBounds_toArray,List.set_cons_zero,List.set_cons_succ,i64_w,i32_w]
     rfl
    refine pure_ (i:=6) (N:=some 10) (v:=?_) (a':=?_) #[true,true,true,true,true,true,true,false] rfl rfl (any_of HT_.out (by kernel_rfl)) (fun _ _ _ h=>h) (Or.inl ⟨by rfl,?_⟩) ?_ ?_
    rotate_left
    ·intro w'
     go_simp
     with_reducible rfl
    rotate_left
    ·simp only[Act.put,List.setIfInBounds_toArray,List.set_cons_zero,List.set_cons_succ,i64_w,i32_w]
     rfl
    refine pure_ (i:=7) (N:=some 11) (v:=?_) (a':=?_) #[true,true,true,true,true,true,true,true] rfl rfl (any_of HT_.out (by kernel_rfl)) (fun _ _ _ h=>h) (Or.inl ⟨by rfl,?_⟩) ?_ ?_
    rotate_left
    ·intro w'
     go_simp
     with_reducible rfl
    rotate_left
    ·simp only[Act.put,List.setIfInBounds_toArray,List.set_cons_zero,List.set_cons_succ,i64_w,i32_w]
     rfl
    refine done_ (done_of HT_.out (by kernel_rfl)) ?_
    try go_wp2
    go_loopg [9,10,11] kj3 (fun kq v9 v10 v11 w' => ∃ (x9_2:List Int) (x10_2:Int) (x11_2:Int),v10=.int .i64 x10_2∧v11=.int .i64 x11_2∧Aside0 (impl_FollowPlan.l0 kq l0 a2 x9_2 x10_2 x11_2 a1_0 a1_1 a1_2 a1_3 a1_4 a1_5 a1_6 a1_7 a1_8 a1_9=some (r1,r2,r3))∧Aside0 (kq≤kj3)∧Aside0 (Kd.R (Kd.int .i64) 3 w' w.heap.size (fun _=>True) v9 x9_2)∧Aside0 (w'.heap[gb307]?=some (.cells #[.int .i64 a1_0,.int .i64 a1_1,.bool a1_2,.int .i64 a1_3,.int .i64 a1_4,.int .i64 a1_5,.int .i64 a1_6,.int .i64 a1_7,.int .i64 a1_8,.string a1_9] 86 (0,0)))∧Aside0 (Below w.heap.size w w'))
    case atStart=>exact⟨(y310),(a1_0),(a1_3),(bR),(bR),H',⟨Nat.le_refl _⟩,⟨by(with_reducible repeat (first|apply Kd.R_alloc|apply Kd.R_drewN|apply Kd.R_drew));exact HO312.out⟩,⟨by(with_reducible repeat (first|refine blk_drewN ?_ _|refine blk_drew ?_|refine blk_alloc ?_ _));exact BK307.out⟩,⟨bS GE307.out⟩⟩
    case round =>
     clear H'
     try clear c1
     try clear p2
     try clear c5
     try clear c7
     try clear c12
     try clear c13
     try clear hcz11_0
     try clear hcz11_1
     try clear hcz11_2
     try clear hcz11_3
     try clear hcz11_4
     try clear hcz11_5
     try clear hcz11_6
     try clear hcz11_7
     try clear hcz11_8
     try clear hcz11_9
     try clear hcz9_0
     try clear hcz9_1
     try clear hcz9_2
     try clear hcz9_3
     try clear hcz9_4
     try clear hcz9_5
     try clear hcz9_6
     try clear hcz9_7
     try clear hcz9_8
     try clear hcz9_9
     try clear hfz11_0
     try clear hfz11_1
     try clear hfz11_2
     try clear hfz11_3
     try clear hfz11_4
     try clear hfz11_5
     try clear hfz11_6
     try clear hfz11_7
     try clear hfz11_8
     try clear hfz11_9
     try clear hfz9_0
     try clear hfz9_1
     try clear hfz9_2
     try clear hfz9_3
     try clear hfz9_4
     try clear hfz9_5
     try clear hfz9_6
     try clear hfz9_7
     try clear hfz9_8
     try clear hfz9_9
     try clear p2
     obtain⟨x9_2,x10_2,x11_2,rfl,rfl,HA,HK2,HO_9,BK307,HB⟩:=hrel
     cases gk with
     | zero=>exact absurd HA.out (by simp[impl_FollowPlan.l0])
     | succ k2 =>
      have H:=HA.out
      clear HA
      simp only[impl_FollowPlan.l0] at H
      by_cases c17:x10_2=a2
      ·rw[if_pos c17] at H
       have c17b0:(x10_2 == a2)=true:=beq_iff_eq.mpr c17
       have c17b1:(x10_2 != a2)=false:=bne_eq_false_iff_eq.mpr c17
       clear c17
       simp only[Option.some.injEq,Prod.mk.injEq] at H
       obtain⟨rfl,rfl,rfl⟩:=H
       go_wp2
       go_ret3
       exact⟨_,by first|rfl|(simp[errW_none,errW_some]<;>rfl)|(simp[*,errW_none,errW_some]<;>rfl),by(with_reducible repeat (first|apply Kd.R_alloc|apply Kd.R_drewN|apply Kd.R_drew));exact HO_9.out,bS GE307.out⟩
      ·rw[if_neg c17] at H
       have c17b0:(x10_2 == a2)=false:=beq_eq_false_iff_ne.mpr c17
       have c17b1:(x10_2 != a2)=true:=bne_iff_ne.mpr c17
       replace H:=Option.bind_eq_some_iff.mp H
       obtain⟨⟨t313,t314,t315⟩,A180,H⟩:=H
       replace H:(if t315=true then (if (x9_2.length:Int)=20 then (some (([]:List Int),0,false)) else (if x9_2.length < 17592186044416 then (if 0≤t313 then (if t313 < (l0.length:Int) then (impl_FollowPlan.l0 k2 l0 a2 (x9_2++[t313]) ((rd_T104 l0 t313).f1) t314 a1_0 a1_1 a1_2 a1_3 a1_4 a1_5 a1_6 a1_7 a1_8 a1_9) else (none)) else (none)) else (none))) else (some (([]:List Int),0,false)))=some (r1,r2,r3):=H
       have A18:=Aside0.mk A180
       clear A180
       by_cases c19:t315=true
       ·subst c19
        have H1:(if (x9_2.length:Int)=20 then (some (([]:List Int),0,false)) else (if x9_2.length < 17592186044416 then (if 0≤t313 then (if t313 < (l0.length:Int) then (impl_FollowPlan.l0 k2 l0 a2 (x9_2++[t313]) ((rd_T104 l0 t313).f1) t314 a1_0 a1_1 a1_2 a1_3 a1_4 a1_5 a1_6 a1_7 a1_8 a1_9) else (none)) else (none)) else (none)))=some (r1,r2,r3):=by rw[if_pos rfl] at H;exact H
        clear H
        have H:=H1
        clear H1
        by_cases c20:(x9_2.length:Int)=20
        ·rw[if_pos c20] at H
         have c20b0:((x9_2.length:Int) == 20)=true:=beq_iff_eq.mpr c20
         have c20b1:((x9_2.length:Int) != 20)=false:=bne_eq_false_iff_eq.mpr c20
         clear c20
         simp only[Option.some.injEq,Prod.mk.injEq] at H
         obtain⟨rfl,rfl,rfl⟩:=H
         have hcz21_0:wr.cell? ⟨gb307,0,none⟩=some (.int .i64 a1_0):=(blk_cell BK307.out 0).trans rfl
         have hcz21_1:wr.cell? ⟨gb307,1,none⟩=some (.int .i64 a1_1):=(blk_cell BK307.out 1).trans rfl
         have hcz21_2:wr.cell? ⟨gb307,2,none⟩=some (.bool a1_2):=(blk_cell BK307.out 2).trans rfl
         have hcz21_3:wr.cell? ⟨gb307,3,none⟩=some (.int .i64 a1_3):=(blk_cell BK307.out 3).trans rfl
         have hcz21_4:wr.cell? ⟨gb307,4,none⟩=some (.int .i64 a1_4):=(blk_cell BK307.out 4).trans rfl
         have hcz21_5:wr.cell? ⟨gb307,5,none⟩=some (.int .i64 a1_5):=(blk_cell BK307.out 5).trans rfl
         have hcz21_6:wr.cell? ⟨gb307,6,none⟩=some (.int .i64 a1_6):=(blk_cell BK307.out 6).trans rfl
         have hcz21_7:wr.cell? ⟨gb307,7,none⟩=some (.int .i64 a1_7):=(blk_cell BK307.out 7).trans rfl
         have hcz21_8:wr.cell? ⟨gb307,8,none⟩=some (.int .i64 a1_8):=(blk_cell BK307.out 8).trans rfl
         have hcz21_9:wr.cell? ⟨gb307,9,none⟩=some (.string a1_9):=(blk_cell BK307.out 9).trans rfl
         have hfz21_0:=blk_frozen BK307.out 0
         have hfz21_1:=blk_frozen BK307.out 1
         have hfz21_2:=blk_frozen BK307.out 2
         have hfz21_3:=blk_frozen BK307.out 3
         have hfz21_4:=blk_frozen BK307.out 4
         have hfz21_5:=blk_frozen BK307.out 5
         have hfz21_6:=blk_frozen BK307.out 6
         have hfz21_7:=blk_frozen BK307.out 7
         have hfz21_8:=blk_frozen BK307.out 8
         have hfz21_9:=blk_frozen BK307.out 9
         go_wp2_with (first|((with_reducible refine gate_callee (f:=54) rfl ?_);refine goesA (some 38) rfl rfl Try.func54 #[.slice A0 l0.length c0,.agg #[.int .i64 a1_0,.int .i64 a1_1,.bool a1_2,.int .i64 a1_3,.int .i64 a1_4,.int .i64 a1_5,.int .i64 a1_6,.int .i64 a1_7,.int .i64 a1_8,.string a1_9],.int .i64 x10_2,.int .i64 x11_2,.int .i64 a2] rfl ?_;(with_reducible refine(impl_ForwardStep.calls k2 _ _ l0 a1_0 a1_1 a1_2 a1_3 a1_4 a1_5 a1_6 a1_7 a1_8 a1_9 x10_2 x11_2 a2 t313 t314 true _ ?side1 ?side2 A18.out).mono ?_);(case side1=>exact bC HR0.out);(case side2=>exact HC0.out);rintro e w22 ⟨rfl,hb⟩;refine⟨_,rfl,?_⟩;have n0_:=Aside0.mk (Kd.R_below (bK HO_9.out) hb);have n1_:=Aside0.mk (blk_below (g:=gb307) (o:=.cells #[.int .i64 a1_0,.int .i64 a1_1,.bool a1_2,.int .i64 a1_3,.int .i64 a1_4,.int .i64 a1_5,.int .i64 a1_6,.int .i64 a1_7,.int .i64 a1_8,.string a1_9] 86 (0,0)) (bL BK307.out) hb);have n2_:=Aside0.mk (below_step (bS GE307.out) hb);clear HO_9 BK307 HB;have HO_9:=n0_;have BK307:=n1_;have HB:=n2_;clear n0_ n1_ n2_;(try clear hb);(try clear hb2);(try clear hk);(try clear hi);obtain⟨Ao23,co23,eo23⟩:=Kd.R_slice HO_9.out;subst eo23))
         go_ret3
         exact⟨_,by first|rfl|(simp[errW_none,errW_some]<;>rfl)|(simp[*,errW_none,errW_some]<;>rfl),by first|exact Kd.R_nil _ _ _ _ _|exact Kd.N_nil _ _ _ _ _|exact Kd.V_nil _ _ _ _ _|exact Kd.Q_nil _ _ _ _ _|exact Kd.S_nil _ _ _ _ _,bS GE307.out⟩
        ·rw[if_neg c20] at H
         have c20b0:((x9_2.length:Int) == 20)=false:=beq_eq_false_iff_ne.mpr c20
         have c20b1:((x9_2.length:Int) != 20)=true:=bne_iff_ne.mpr c20
         by_cases c24:x9_2.length < 17592186044416
         ·rw[if_pos c24] at H
          have LMc24:=Aside0.mk c24
          clear c24
          obtain⟨y316,hy316⟩ : ∃ y_:List Int,y_=(x9_2++[t313]):=⟨_,rfl⟩
          replace H:(if 0≤t313 then (if t313 < (l0.length:Int) then (impl_FollowPlan.l0 k2 l0 a2 y316 ((rd_T104 l0 t313).f1) t314 a1_0 a1_1 a1_2 a1_3 a1_4 a1_5 a1_6 a1_7 a1_8 a1_9) else (none)) else (none))=some (r1,r2,r3):=by first|(rw[hy316];with_reducible exact H)|(have H2_:=(Option.bind_some _ _).symm.trans H;rw[hy316];with_reducible exact H2_)|(have H2_:=(Option.bind_some _ _).symm.trans H;with_reducible exact H2_)|with_reducible exact H|(rw[hy316];exact H)|exact H
          have Ny316:=Aside0.mk hy316
          clear hy316
          by_cases c25:0≤t313
          ·rw[if_pos c25] at H
           have c25b0:decide (0≤t313)=true:=decide_eq_true c25
           clear c25
           by_cases c26:t313 < (l0.length:Int)
           ·rw[if_pos c26] at H
            have c26b0:decide (t313 < (l0.length:Int))=true:=decide_eq_true c26
            clear c26
            have H':=Aside0.mk H
            clear H
            have hcz27_0:wr.cell? ⟨gb307,0,none⟩=some (.int .i64 a1_0):=(blk_cell BK307.out 0).trans rfl
            have hcz27_1:wr.cell? ⟨gb307,1,none⟩=some (.int .i64 a1_1):=(blk_cell BK307.out 1).trans rfl
            have hcz27_2:wr.cell? ⟨gb307,2,none⟩=some (.bool a1_2):=(blk_cell BK307.out 2).trans rfl
            have hcz27_3:wr.cell? ⟨gb307,3,none⟩=some (.int .i64 a1_3):=(blk_cell BK307.out 3).trans rfl
            have hcz27_4:wr.cell? ⟨gb307,4,none⟩=some (.int .i64 a1_4):=(blk_cell BK307.out 4).trans rfl
            have hcz27_5:wr.cell? ⟨gb307,5,none⟩=some (.int .i64 a1_5):=(blk_cell BK307.out 5).trans rfl
            have hcz27_6:wr.cell? ⟨gb307,6,none⟩=some (.int .i64 a1_6):=(blk_cell BK307.out 6).trans rfl
            have hcz27_7:wr.cell? ⟨gb307,7,none⟩=some (.int .i64 a1_7):=(blk_cell BK307.out 7).trans rfl
            have hcz27_8:wr.cell? ⟨gb307,8,none⟩=some (.int .i64 a1_8):=(blk_cell BK307.out 8).trans rfl
            have hcz27_9:wr.cell? ⟨gb307,9,none⟩=some (.string a1_9):=(blk_cell BK307.out 9).trans rfl
            have hfz27_0:=blk_frozen BK307.out 0
            have hfz27_1:=blk_frozen BK307.out 1
            have hfz27_2:=blk_frozen BK307.out 2
            have hfz27_3:=blk_frozen BK307.out 3
            have hfz27_4:=blk_frozen BK307.out 4
            have hfz27_5:=blk_frozen BK307.out 5
            have hfz27_6:=blk_frozen BK307.out 6
            have hfz27_7:=blk_frozen BK307.out 7
            have hfz27_8:=blk_frozen BK307.out 8
            have hfz27_9:=blk_frozen BK307.out 9
            try go_wp2_with (first|((with_reducible refine gate_callee (f:=54) rfl ?_);refine goesA (some 38) rfl rfl Try.func54 #[.slice A0 l0.length c0,.agg #[.int .i64 a1_0,.int .i64 a1_1,.bool a1_2,.int .i64 a1_3,.int .i64 a1_4,.int .i64 a1_5,.int .i64 a1_6,.int .i64 a1_7,.int .i64 a1_8,.string a1_9],.int .i64 x10_2,.int .i64 x11_2,.int .i64 a2] rfl ?_;(with_reducible refine(impl_ForwardStep.calls k2 _ _ l0 a1_0 a1_1 a1_2 a1_3 a1_4 a1_5 a1_6 a1_7 a1_8 a1_9 x10_2 x11_2 a2 t313 t314 true _ ?side1 ?side2 A18.out).mono ?_);(case side1=>exact bC HR0.out);(case side2=>exact HC0.out);rintro e w28 ⟨rfl,hb⟩;refine⟨_,rfl,?_⟩;have n0_:=Aside0.mk (Kd.R_below (bK HO_9.out) hb);have n1_:=Aside0.mk (blk_below (g:=gb307) (o:=.cells #[.int .i64 a1_0,.int .i64 a1_1,.bool a1_2,.int .i64 a1_3,.int .i64 a1_4,.int .i64 a1_5,.int .i64 a1_6,.int .i64 a1_7,.int .i64 a1_8,.string a1_9] 86 (0,0)) (bL BK307.out) hb);have n2_:=Aside0.mk (below_step (bS GE307.out) hb);clear HO_9 BK307 HB;have HO_9:=n0_;have BK307:=n1_;have HB:=n2_;clear n0_ n1_ n2_;(try clear hb);(try clear hb2);(try clear hk);(try clear hi);obtain⟨Ao29,co29,eo29⟩:=Kd.R_slice HO_9.out;subst eo29))
            (try (rw[drewN_self w28];generalize hq_:World.drewN w28 _=w28;have n0_:=Aside0.mk (Kd.R_at hq_ HO_9.out);have n1_:=Aside0.mk (blk_at hq_ BK307.out);have n2_:=Aside0.mk (below_at hq_ HB.out);clear hq_ HO_9 BK307 HB;have HO_9:=n0_;have BK307:=n1_;have HB:=n2_;clear n0_ n1_ n2_))
            have n0_:=Aside0.mk (Kd.R_drew HO_9.out)
            have n1_:=Aside0.mk (blk_drew BK307.out)
            have n2_:=Aside0.mk (below_drew1 HB.out)
            clear HO_9 BK307 HB
            have HO_9:=n0_
            have BK307:=n1_
            have HB:=n2_
            clear n0_ n1_ n2_
            have p319:0≤(t313:Int):=of_decide_eq_true (bD)
            have q319:t313 < (l0.length:Int):=of_decide_eq_true (bD)
            obtain⟨ad319,e319,hx319_0,hx319_1,hx319_2,hx319_3,hx319_4⟩:=at_T104 HR0.out t313 p319 q319
            have hw319_4:=hx319_4
            have hw319_3:=hx319_3
            have hw319_2:=hx319_2
            have hw319_1:=hx319_1
            have hw319_0:=hx319_0
            cases e319
            replace hx319_0:=(HB.out.cell (World.block_lt_of_cell? w _ hx319_0)).trans hx319_0
            replace hx319_1:=(HB.out.cell (World.block_lt_of_cell? w _ hx319_1)).trans hx319_1
            replace hx319_2:=(HB.out.cell (World.block_lt_of_cell? w _ hx319_2)).trans hx319_2
            replace hx319_3:=(HB.out.cell (World.block_lt_of_cell? w _ hx319_3)).trans hx319_3
            replace hx319_4:=(HB.out.cell (World.block_lt_of_cell? w _ hx319_4)).trans hx319_4
            replace p319:=eq_true p319
            replace q319:=eq_true q319
            refine start_ (n:=13) (S:=fun w'=>w'.cell? (ad319.add ((t313).toNat * 5))=some (.int .i64 ((rd_T104 l0 t313).f0))∧w'.cell? ⟨(ad319.add ((t313).toNat * 5)).block,(ad319.add ((t313).toNat * 5)).off+1,none⟩=some (.int .i64 ((rd_T104 l0 t313).f1))∧w'.cell? ⟨(ad319.add ((t313).toNat * 5)).block,(ad319.add ((t313).toNat * 5)).off+2,none⟩=some (.int .i64 ((rd_T104 l0 t313).f2))∧w'.cell? ⟨(ad319.add ((t313).toNat * 5)).block,(ad319.add ((t313).toNat * 5)).off+3,none⟩=some (.int .i64 ((rd_T104 l0 t313).f3))∧w'.cell? ⟨(ad319.add ((t313).toNat * 5)).block,(ad319.add ((t313).toNat * 5)).off+4,none⟩=some (.int .i64 ((rd_T104 l0 t313).f4))) (ds:=[]) #[false,false,false,false,false,false,false,false,false,false,false,false,false] (by kernel_rfl) rfl rfl ⟨((HB.out.cell (World.block_lt_of_cell? w _ hw319_0)).trans hw319_0),((HB.out.cell (World.block_lt_of_cell? w _ hw319_1)).trans hw319_1),((HB.out.cell (World.block_lt_of_cell? w _ hw319_2)).trans hw319_2),((HB.out.cell (World.block_lt_of_cell? w _ hw319_3)).trans hw319_3),((HB.out.cell (World.block_lt_of_cell? w _ hw319_4)).trans hw319_4)⟩ (fun hHeld => ?_);refine with_tabW impl_FollowPlan.tab8 impl_FollowPlan.bits8 (fun HT_ HW_ => ?_)
            generalize w28.drew=w30 at HO_9 BK307 HB hx319_0 hx319_1 hx319_2 hx319_3 hx319_4 hHeld ⊢
            refine pure_ (i:=0) (N:=some 49) (v:=?_) (a':=?_) #[true,false,false,false,false,false,false,false,false,false,false,false,false] rfl rfl (any_of HT_.out (by kernel_rfl)) (fun _ _ _ h=>h) (Or.inl ⟨by rfl,?_⟩) ?_ ?_
            rotate_left
            ·intro w'
             go_simp
             with_reducible rfl
            rotate_left
            ·simp only[Act.put,List.setIfInBounds_toArray,List.set_cons_zero,List.set_cons_succ,i64_w,i32_w]
             rfl
            refine pure_ (i:=1) (N:=some 50) (v:=?_) (a':=?_) #[true,true,false,false,false,false,false,false,false,false,false,false,false] rfl rfl (any_of HT_.out (by kernel_rfl)) (fun _ _ _ h=>h) (Or.inl ⟨by rfl,?_⟩) ?_ ?_
            rotate_left
            ·intro w'
             go_simp
             with_reducible rfl
            rotate_left
            ·simp only[Act.put,List.setIfInBounds_toArray,List.set_cons_zero,List.set_cons_succ,i64_w,i32_w]
             rfl
            refine pure_ (i:=4) (N:=some 53) (v:=?_) (a':=?_) #[true,true,false,false,true,false,false,false,false,false,false,false,false] rfl rfl (any_of HT_.out (by kernel_rfl)) (fun _ _ _ h=>h) (Or.inl ⟨by rfl,?_⟩) ?_ ?_
            rotate_left
            ·intro w'
             go_simp
             with_reducible rfl
            rotate_left
            ·simp only[Act.put,List.setIfInBounds_toArray,List.set_cons_zero,List.set_cons_succ,i64_w,i32_w]
             rfl
            refine pure_ (i:=5) (N:=some 54) (v:=?_) (a':=?_) #[true,true,false,false,true,true,false,false,false,false,false,false,false] rfl rfl (any_of HT_.out (by kernel_rfl)) (fun _ _ _ h=>h) (Or.inl ⟨by rfl,?_⟩) ?_ ?_
            rotate_left
            ·intro w'
             go_simp
             with_reducible rfl
            rotate_left
            ·simp only[Act.put,List.setIfInBounds_toArray,List.set_cons_zero,List.set_cons_succ,i64_w,i32_w]
             rfl
            refine pure_ (i:=6) (N:=some 55) (v:=?_) (a':=?_) #[true,true,false,false,true,true,true,false,false,false,false,false,false] rfl rfl (any_of HT_.out (by kernel_rfl)) (fun _ _ _ h=>h) (Or.inl ⟨by rfl,?_⟩) ?_ ?_
            rotate_left
            ·intro w'
             go_simp
             with_reducible rfl
            rotate_left
            ·simp only[Act.put,List.setIfInBounds_toArray,List.set_cons_zero,List.set_cons_succ,i64_w,i32_w]
             rfl
            refine pure_ (i:=7) (N:=some 56) (v:=?_) (a':=?_) #[true,true,false,false,true,true,true,true,false,false,false,false,false] rfl rfl (any_of HT_.out (by kernel_rfl)) (fun _ _ _ h=>h) (Or.inl ⟨by rfl,?_⟩) ?_ ?_
            rotate_left
            ·intro w'
             go_simp
             with_reducible rfl
            rotate_left
            ·simp only[Act.put,List.setIfInBounds_toArray,List.set_cons_zero,List.set_cons_succ,i64_w,i32_w]
             rfl
            refine pure_ (i:=9) (N:=some 58) (v:=?_) (a':=?_) #[true,true,false,false,true,true,true,true,false,true,false,false,false] rfl rfl (any_of HT_.out (by kernel_rfl)) (fun _ _ _ h=>h) (Or.inl ⟨by rfl,?_⟩) ?_ ?_
            rotate_left
            ·intro w'
             go_simp
             with_reducible rfl
            rotate_left
            ·simp only[Act.put,List.setIfInBounds_toArray,List.set_cons_zero,List.set_cons_succ,i64_w,i32_w]
             rfl
            refine take_ (i:=8) (N:=some 57) (v:=?_) (a':=?_) #[true,true,false,false,true,true,true,true,true,true,false,false,false] rfl rfl (take_ofW HT_.out HW_.out (by kernel_rfl)) (fun _ _ _ h=>h) (Or.inl ⟨by rfl,?_⟩) hHeld ?_ ?_
            rotate_left
            ·rintro w' ⟨s0,s1,s2,s3,s4⟩
             go_simp
             with_reducible rfl
            rotate_left
            ·simp only[Act.put,List.setIfInBounds_toArray,List.set_cons_zero,List.set_cons_succ,i64_w,i32_w]
             rfl
            refine one_ (i:=2) (N:=some 51) #[true,true,true,false,true,true,true,true,true,true,false,false,false] rfl rfl (one_of HT_.out (by kernel_rfl)) (by decide) (fun K hK => ?_)
            refine value_ (w1:=?_) (v:=?_) (by rfl) rfl ?_ ?_
            rotate_left 2
            ·go_simp
             constructor
             ·rfl
             ·rfl
            refine hK.out _ _ ⟨(World.cell?_alloc_lt _ _ _ (World.block_lt_of_cell? _ _ (((HB.out.cell (World.block_lt_of_cell? w _ hw319_0)).trans hw319_0)))).trans (((HB.out.cell (World.block_lt_of_cell? w _ hw319_0)).trans hw319_0)),(World.cell?_alloc_lt _ _ _ (World.block_lt_of_cell? _ _ (((HB.out.cell (World.block_lt_of_cell? w _ hw319_1)).trans hw319_1)))).trans (((HB.out.cell (World.block_lt_of_cell? w _ hw319_1)).trans hw319_1)),(World.cell?_alloc_lt _ _ _ (World.block_lt_of_cell? _ _ (((HB.out.cell (World.block_lt_of_cell? w _ hw319_2)).trans hw319_2)))).trans (((HB.out.cell (World.block_lt_of_cell? w _ hw319_2)).trans hw319_2)),(World.cell?_alloc_lt _ _ _ (World.block_lt_of_cell? _ _ (((HB.out.cell (World.block_lt_of_cell? w _ hw319_3)).trans hw319_3)))).trans (((HB.out.cell (World.block_lt_of_cell? w _ hw319_3)).trans hw319_3)),(World.cell?_alloc_lt _ _ _ (World.block_lt_of_cell? _ _ (((HB.out.cell (World.block_lt_of_cell? w _ hw319_4)).trans hw319_4)))).trans (((HB.out.cell (World.block_lt_of_cell? w _ hw319_4)).trans hw319_4))⟩ (fun hHeld => ?_)
            clear hK K
            refine norm_ (a':=?_) ?_ ?_
            rotate_left
            ·show Act.put _ (some 51) _=_
             simp only[Act.put,List.setIfInBounds_toArray,List.set_cons_zero,List.set_cons_succ,i64_w,i32_w]
             rfl
            refine one_ (i:=3) (N:=some 52) #[true,true,true,true,true,true,true,true,true,true,false,false,false] rfl rfl (one_of HT_.out (by kernel_rfl)) (by decide) (fun K hK => ?_)
            refine Kd.R_append_step (Kd.int .i64) (w0:=w) w.heap.size (by rfl) (.tmp 49) (.tmp 51) 37 3 (.int .i64 0) 8 rfl Try.underlying37 info3 rfl (by decide) (by omega) (.slice Ao29 x9_2.length co29) x9_2 t313 [.int .i64 t313] (fun _=>True) (fun _=>False) rfl rfl ?aP (fun _ hk=>hk.elim) ?aF ?aO ?aB ?aS ?aL ?_
            (case aP=>exact rfl)
            (case aB=>exact(bS GE307.out))
            (case aF=>exact(fun _ _=>trivial))
            (case aO=>exact(bK HO_9.out))
            (case aS=>exact(below_size (bS GE307.out)))
            (case aL=>have:=LMc24.out;omega)
            intro v317 w31 ho hb hg hat
            rw[← Ny316.out] at ho
            have n0_:=Aside0.mk (blk_grown (g:=gb307) (o:=.cells #[.int .i64 a1_0,.int .i64 a1_1,.bool a1_2,.int .i64 a1_3,.int .i64 a1_4,.int .i64 a1_5,.int .i64 a1_6,.int .i64 a1_7,.int .i64 a1_8,.string a1_9] 86 (0,0)) (bL BK307.out) hg (Kd.R_ne HO_9.out BK307.out (by decide)))
            have n1_:=Aside0.mk (hb)
            have n2_:=Aside0.mk (ho)
            clear BK307 HB HO_9
            have BK307:=n0_
            have HB:=n1_
            have HO318:=n2_
            clear n0_ n1_ n2_ ho hb hg hat
            refine hK.out _ _ ⟨((HB.out.cell (World.block_lt_of_cell? w _ hw319_0)).trans hw319_0),((HB.out.cell (World.block_lt_of_cell? w _ hw319_1)).trans hw319_1),((HB.out.cell (World.block_lt_of_cell? w _ hw319_2)).trans hw319_2),((HB.out.cell (World.block_lt_of_cell? w _ hw319_3)).trans hw319_3),((HB.out.cell (World.block_lt_of_cell? w _ hw319_4)).trans hw319_4)⟩ (fun hHeld => ?_)
            clear hK K
            refine norm_ (a':=?_) ?_ ?_
            rotate_left
            ·show Act.put _ (some 52) _=_
             simp only[Act.put,List.setIfInBounds_toArray,List.set_cons_zero,List.set_cons_succ,i64_w,i32_w]
             rfl
            refine pure_ (i:=10) (N:=some 9) (v:=?_) (a':=?_) #[true,true,true,true,true,true,true,true,true,true,true,false,false] rfl rfl (any_of HT_.out (by kernel_rfl)) (fun _ _ _ h=>h) (Or.inl ⟨by rfl,?_⟩) ?_ ?_
            rotate_left
            ·intro w'
             go_simp
             with_reducible rfl
            rotate_left
            ·simp only[Act.put,List.setIfInBounds_toArray,List.set_cons_zero,List.set_cons_succ,i64_w,i32_w]
             rfl
            refine pure_ (i:=11) (N:=some 10) (v:=?_) (a':=?_) #[true,true,true,true,true,true,true,true,true,true,true,true,false] rfl rfl (any_of HT_.out (by kernel_rfl)) (fun _ _ _ h=>h) (Or.inl ⟨by rfl,?_⟩) ?_ ?_
            rotate_left
            ·intro w'
             go_simp
             with_reducible rfl
            rotate_left
            ·simp only[Act.put,List.setIfInBounds_toArray,List.set_cons_zero,List.set_cons_succ,i64_w,i32_w]
             rfl
            refine pure_ (i:=12) (N:=some 11) (v:=?_) (a':=?_) #[true,true,true,true,true,true,true,true,true,true,true,true,true] rfl rfl (any_of HT_.out (by kernel_rfl)) (fun _ _ _ h=>h) (Or.inl ⟨by rfl,?_⟩) ?_ ?_
            rotate_left
            ·intro w'
             go_simp
             with_reducible rfl
            rotate_left
            ·simp only[Act.put,List.setIfInBounds_toArray,List.set_cons_zero,List.set_cons_succ,i64_w,i32_w]
             rfl
            refine done_ (done_of HT_.out (by kernel_rfl)) ?_
            try go_wp2
            go_roundg k2
            case measure=>have:=HJ3.out;have:=HK2.out;omega
            case rel=>exact⟨(y316),((rd_T104 l0 t313).f1),(t314),(bR),(bR),H',⟨by have:=HJ3.out;have:=HK2.out;omega⟩,⟨by(with_reducible repeat (first|apply Kd.R_alloc|apply Kd.R_drewN|apply Kd.R_drew));exact HO318.out⟩,⟨by(with_reducible repeat (first|refine blk_drewN ?_ _|refine blk_drew ?_|refine blk_alloc ?_ _));exact BK307.out⟩,⟨bS GE307.out⟩⟩
           ·rw[if_neg c26] at H
            exact absurd H (by simp)
          ·rw[if_neg c25] at H
           exact absurd H (by simp)
         ·rw[if_neg c24] at H
          exact absurd H (by simp)
       ·replace c19:=Bool.eq_false_iff.mpr c19
        subst c19
        have H1:(some (([]:List Int),0,false))=some (r1,r2,r3):=by rw[if_neg (show ¬ (false=true) by decide)] at H;exact H
        clear H
        have H:=H1
        clear H1
        simp only[Option.some.injEq,Prod.mk.injEq] at H
        obtain⟨rfl,rfl,rfl⟩:=H
        have hcz32_0:wr.cell? ⟨gb307,0,none⟩=some (.int .i64 a1_0):=(blk_cell BK307.out 0).trans rfl
        have hcz32_1:wr.cell? ⟨gb307,1,none⟩=some (.int .i64 a1_1):=(blk_cell BK307.out 1).trans rfl
        have hcz32_2:wr.cell? ⟨gb307,2,none⟩=some (.bool a1_2):=(blk_cell BK307.out 2).trans rfl
        have hcz32_3:wr.cell? ⟨gb307,3,none⟩=some (.int .i64 a1_3):=(blk_cell BK307.out 3).trans rfl
        have hcz32_4:wr.cell? ⟨gb307,4,none⟩=some (.int .i64 a1_4):=(blk_cell BK307.out 4).trans rfl
        have hcz32_5:wr.cell? ⟨gb307,5,none⟩=some (.int .i64 a1_5):=(blk_cell BK307.out 5).trans rfl
        have hcz32_6:wr.cell? ⟨gb307,6,none⟩=some (.int .i64 a1_6):=(blk_cell BK307.out 6).trans rfl
        have hcz32_7:wr.cell? ⟨gb307,7,none⟩=some (.int .i64 a1_7):=(blk_cell BK307.out 7).trans rfl
        have hcz32_8:wr.cell? ⟨gb307,8,none⟩=some (.int .i64 a1_8):=(blk_cell BK307.out 8).trans rfl
        have hcz32_9:wr.cell? ⟨gb307,9,none⟩=some (.string a1_9):=(blk_cell BK307.out 9).trans rfl
        have hfz32_0:=blk_frozen BK307.out 0
        have hfz32_1:=blk_frozen BK307.out 1
        have hfz32_2:=blk_frozen BK307.out 2
        have hfz32_3:=blk_frozen BK307.out 3
        have hfz32_4:=blk_frozen BK307.out 4
        have hfz32_5:=blk_frozen BK307.out 5
        have hfz32_6:=blk_frozen BK307.out 6
        have hfz32_7:=blk_frozen BK307.out 7
        have hfz32_8:=blk_frozen BK307.out 8
        have hfz32_9:=blk_frozen BK307.out 9
        go_wp2_with (first|((with_reducible refine gate_callee (f:=54) rfl ?_);refine goesA (some 38) rfl rfl Try.func54 #[.slice A0 l0.length c0,.agg #[.int .i64 a1_0,.int .i64 a1_1,.bool a1_2,.int .i64 a1_3,.int .i64 a1_4,.int .i64 a1_5,.int .i64 a1_6,.int .i64 a1_7,.int .i64 a1_8,.string a1_9],.int .i64 x10_2,.int .i64 x11_2,.int .i64 a2] rfl ?_;(with_reducible refine(impl_ForwardStep.calls k2 _ _ l0 a1_0 a1_1 a1_2 a1_3 a1_4 a1_5 a1_6 a1_7 a1_8 a1_9 x10_2 x11_2 a2 t313 t314 false _ ?side1 ?side2 A18.out).mono ?_);(case side1=>exact bC HR0.out);(case side2=>exact HC0.out);rintro e w33 ⟨rfl,hb⟩;refine⟨_,rfl,?_⟩;have n0_:=Aside0.mk (Kd.R_below (bK HO_9.out) hb);have n1_:=Aside0.mk (blk_below (g:=gb307) (o:=.cells #[.int .i64 a1_0,.int .i64 a1_1,.bool a1_2,.int .i64 a1_3,.int .i64 a1_4,.int .i64 a1_5,.int .i64 a1_6,.int .i64 a1_7,.int .i64 a1_8,.string a1_9] 86 (0,0)) (bL BK307.out) hb);have n2_:=Aside0.mk (below_step (bS GE307.out) hb);clear HO_9 BK307 HB;have HO_9:=n0_;have BK307:=n1_;have HB:=n2_;clear n0_ n1_ n2_;(try clear hb);(try clear hb2);(try clear hk);(try clear hi)))
        go_ret3
        exact⟨_,by first|rfl|(simp[errW_none,errW_some]<;>rfl)|(simp[*,errW_none,errW_some]<;>rfl),by first|exact Kd.R_nil _ _ _ _ _|exact Kd.N_nil _ _ _ _ _|exact Kd.V_nil _ _ _ _ _|exact Kd.Q_nil _ _ _ _ _|exact Kd.S_nil _ _ _ _ _,bS GE307.out⟩

end Go.Proofs.Yteneeohaoplpbaa.XFnExactFollowPlan
