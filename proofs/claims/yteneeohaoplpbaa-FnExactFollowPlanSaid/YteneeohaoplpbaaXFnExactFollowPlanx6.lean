-- Written by this session's own program (wip/xprint.py) out of the translation; Lean checks it.
import Derived.Test.YteneeohaoplpbaaXFnExactFollowPlanx0
import Derived.Test.YteneeohaoplpbaaXFnExactFollowPlanx2
import Derived.Test.YteneeohaoplpbaaXFnExactFollowPlanx3
import Derived.Test.YteneeohaoplpbaaXFnExactFollowPlanx5
namespace Go.Proofs.Yteneeohaoplpbaa.XFnExactFollowPlan
open Go.RowKit Go.Proofs.YteneeohaoplpbaaW.PrintWords Go.Proofs.YteneeohaoplpbaaW.PrintLast Go.Proofs.YteneeohaoplpbaaW.PrintMore
attribute [local go_sem] max2_int min2_int max_two min_two max_three min_three max_four min_four   -- for this text's walks alone
set_option linter.unusedVariables false
set_option linter.unusedSimpArgs false

/-! ### spec_FollowPlan: function 57 -/
mutual
def spec_FollowPlan.j0:Nat→List (S104)→Int→Bool→Int→Int→Bool→Int→Int→Int→Int→Int→Int→ByteArray→Option (List Int × Int × Bool)
 | 0,_,_,_,_,_,_,_,_,_,_,_,_,_=>none
 | k+1,x0,x2,x23,x205000,x205001,x205002,x205003,x205004,x205005,x205006,x205007,x205008,x205009=>if x23=true then (some (([]:List Int),0,false)) else (spec_FollowPlan.l0 k x0 x2 x205000 x205003 ([]:List Int) x205000 x205001 x205002 x205003 x205004 x205005 x205006 x205007 x205008 x205009)
def spec_FollowPlan.l0:Nat→List (S104)→Int→Int→Int→List Int→Int→Int→Bool→Int→Int→Int→Int→Int→Int→ByteArray→Option (List Int × Int × Bool)
 | 0,_,_,_,_,_,_,_,_,_,_,_,_,_,_,_=>none
 | k+1,x0,x2,x9,x10,x11,x205000,x205001,x205002,x205003,x205004,x205005,x205006,x205007,x205008,x205009=>if x9=x2 then (some (x11,x10,true)) else ((spec_ForwardStep.f k x0 x205000 x205001 x205002 x205003 x205004 x205005 x205006 x205007 x205008 x205009 x9 x10 x2).bind fun bt207=>(if bt207.2.2=true then (if (x11.length:Int)=20 then (some (([]:List Int),0,false)) else (if x11.length < 17592186044416 then (if 0≤bt207.1 then (if bt207.1 < (x0.length:Int) then (spec_FollowPlan.l0 k x0 x2 ((rd_T104 x0 bt207.1).f1) bt207.2.1 (x11++[bt207.1]) x205000 x205001 x205002 x205003 x205004 x205005 x205006 x205007 x205008 x205009) else (none)) else (none)) else (none))) else (some (([]:List Int),0,false))))
end
def spec_FollowPlan.f (k:Nat) (l0:List (S104)) (a1_0:Int) (a1_1:Int) (a1_2:Bool) (a1_3:Int) (a1_4:Int) (a1_5:Int) (a1_6:Int) (a1_7:Int) (a1_8:Int) (a1_9:ByteArray) (a2:Int):Option (List Int × Int × Bool):=(spec_l17Fits.f k l0 a1_0 a1_1 a1_2 a1_3 a1_4 a1_5 a1_6 a1_7 a1_8 a1_9).bind fun t205=>(if t205=true then ((spec_l6Node.f a2).bind fun t206=>(spec_FollowPlan.j0 k l0 a2 (!t206) a1_0 a1_1 a1_2 a1_3 a1_4 a1_5 a1_6 a1_7 a1_8 a1_9)) else (spec_FollowPlan.j0 k l0 a2 true a1_0 a1_1 a1_2 a1_3 a1_4 a1_5 a1_6 a1_7 a1_8 a1_9))
theorem spec_FollowPlan.mono_l : ∀ k,(∀ y0 y1 y2 y3 y4 y5 y6 y7 y8 y9 y10 y11 y12,LeO (spec_FollowPlan.j0 k y0 y1 y2 y3 y4 y5 y6 y7 y8 y9 y10 y11 y12) (spec_FollowPlan.j0 (k+1) y0 y1 y2 y3 y4 y5 y6 y7 y8 y9 y10 y11 y12))∧(∀ y0 y1 y2 y3 y4 y5 y6 y7 y8 y9 y10 y11 y12 y13 y14,LeO (spec_FollowPlan.l0 k y0 y1 y2 y3 y4 y5 y6 y7 y8 y9 y10 y11 y12 y13 y14) (spec_FollowPlan.l0 (k+1) y0 y1 y2 y3 y4 y5 y6 y7 y8 y9 y10 y11 y12 y13 y14))
 | 0=>⟨fun _ _ _ _ _ _ _ _ _ _ _ _ _ r h=>by simp[spec_FollowPlan.j0] at h,fun _ _ _ _ _ _ _ _ _ _ _ _ _ _ _ r h=>by simp[spec_FollowPlan.l0] at h⟩
 | k+1=>by
  obtain⟨ih0,ih1⟩:=spec_FollowPlan.mono_l k
  refine⟨?_,?_⟩
  ·intro y0 y1 y2 y3 y4 y5 y6 y7 y8 y9 y10 y11 y12
   unfold spec_FollowPlan.j0
   repeat' first
   | (with_reducible exact ih0 _ _ _ _ _ _ _ _ _ _ _ _ _)
   | (with_reducible exact ih1 _ _ _ _ _ _ _ _ _ _ _ _ _ _ _)
   | (with_reducible exact spec_ForwardStep.mono _ _ _ _ _ _ _ _ _ _ _ _ _ _ _)
   | (with_reducible exact spec_l17Fits.mono _ _ _ _ _ _ _ _ _ _ _ _)
   | (with_reducible exact LeO.refl _)
   | (with_reducible exact LeO.none _)
   | (with_reducible refine LeO.ite ?_ ?_)
   | (with_reducible refine LeO.bind ?_ (fun _ => ?_))
   | exact ih0 _ _ _ _ _ _ _ _ _ _ _ _ _
   | exact ih1 _ _ _ _ _ _ _ _ _ _ _ _ _ _ _
   | exact spec_ForwardStep.mono _ _ _ _ _ _ _ _ _ _ _ _ _ _ _
   | exact spec_l17Fits.mono _ _ _ _ _ _ _ _ _ _ _ _
   | exact LeO.none _
   | refine LeO.ite ?_ ?_
   | refine LeO.bind ?_ (fun _ => ?_)
  ·intro y0 y1 y2 y3 y4 y5 y6 y7 y8 y9 y10 y11 y12 y13 y14
   unfold spec_FollowPlan.l0
   repeat' first
   | (with_reducible exact ih0 _ _ _ _ _ _ _ _ _ _ _ _ _)
   | (with_reducible exact ih1 _ _ _ _ _ _ _ _ _ _ _ _ _ _ _)
   | (with_reducible exact spec_ForwardStep.mono _ _ _ _ _ _ _ _ _ _ _ _ _ _ _)
   | (with_reducible exact spec_l17Fits.mono _ _ _ _ _ _ _ _ _ _ _ _)
   | (with_reducible exact LeO.refl _)
   | (with_reducible exact LeO.none _)
   | (with_reducible refine LeO.ite ?_ ?_)
   | (with_reducible refine LeO.bind ?_ (fun _ => ?_))
   | exact ih0 _ _ _ _ _ _ _ _ _ _ _ _ _
   | exact ih1 _ _ _ _ _ _ _ _ _ _ _ _ _ _ _
   | exact spec_ForwardStep.mono _ _ _ _ _ _ _ _ _ _ _ _ _ _ _
   | exact spec_l17Fits.mono _ _ _ _ _ _ _ _ _ _ _ _
   | exact LeO.none _
   | refine LeO.ite ?_ ?_
   | refine LeO.bind ?_ (fun _ => ?_)
theorem spec_FollowPlan.mono : ∀ a0 a1 a2 a3 a4 a5 a6 a7 a8 a9 a10 a11 k,LeO (spec_FollowPlan.f k a0 a1 a2 a3 a4 a5 a6 a7 a8 a9 a10 a11) (spec_FollowPlan.f (k+1) a0 a1 a2 a3 a4 a5 a6 a7 a8 a9 a10 a11):=by
 intro a0 a1 a2 a3 a4 a5 a6 a7 a8 a9 a10 a11 k
 obtain⟨ih0,ih1⟩:=spec_FollowPlan.mono_l k
 unfold spec_FollowPlan.f
 repeat' first
  | (with_reducible exact ih0 _ _ _ _ _ _ _ _ _ _ _ _ _)
  | (with_reducible exact ih1 _ _ _ _ _ _ _ _ _ _ _ _ _ _ _)
  | (with_reducible exact spec_ForwardStep.mono _ _ _ _ _ _ _ _ _ _ _ _ _ _ _)
  | (with_reducible exact spec_l17Fits.mono _ _ _ _ _ _ _ _ _ _ _ _)
  | (with_reducible exact LeO.refl _)
  | (with_reducible exact LeO.none _)
  | (with_reducible refine LeO.ite ?_ ?_)
  | (with_reducible refine LeO.bind ?_ (fun _ => ?_))
  | exact ih0 _ _ _ _ _ _ _ _ _ _ _ _ _
  | exact ih1 _ _ _ _ _ _ _ _ _ _ _ _ _ _ _
  | exact spec_ForwardStep.mono _ _ _ _ _ _ _ _ _ _ _ _ _ _ _
  | exact spec_l17Fits.mono _ _ _ _ _ _ _ _ _ _ _ _
  | exact LeO.none _
  | refine LeO.ite ?_ ?_
  | refine LeO.bind ?_ (fun _ => ?_)
set_option maxHeartbeats 8000000 in
set_option maxRecDepth 100000 in
theorem spec_FollowPlan.calls (k:Nat) (A0:Option Addr) (c0:Nat) (l0:List (S104)) (a1_0:Int) (a1_1:Int) (a1_2:Bool) (a1_3:Int) (a1_4:Int) (a1_5:Int) (a1_6:Int) (a1_7:Int) (a1_8:Int) (a1_9:ByteArray) (a2:Int) (r1:List Int) (r2:Int) (r3:Bool) (w:World) (hr0:Kd.C k104 w A0 l0.length l0) (hc0:l0.length≤c0) (h:spec_FollowPlan.f k l0 a1_0 a1_1 a1_2 a1_3 a1_4 a1_5 a1_6 a1_7 a1_8 a1_9 a2=some (r1,r2,r3)) :
  Calls Try.prog 57 #[.slice A0 l0.length c0,.agg #[.int .i64 a1_0,.int .i64 a1_1,.bool a1_2,.int .i64 a1_3,.int .i64 a1_4,.int .i64 a1_5,.int .i64 a1_6,.int .i64 a1_7,.int .i64 a1_8,.string a1_9],.int .i64 a2] w fun e w' => ∃ v0_:Value,e=.returned (.tuple #[v0_,.int .i64 r2,.bool r3])∧Kd.R (Kd.int .i64) 3 w' w.heap.size (fun _=>True) v0_ r1∧Below w.heap.size w w':=by
 have hu86:=Try.underlying86
 have HR0:=Aside0.mk hr0
 have HC0:=Aside0.mk hc0
 clear hr0 hc0
 have HB:=Aside0.mk (Below.refl w.heap.size w)
 have H:((spec_l17Fits.f k l0 a1_0 a1_1 a1_2 a1_3 a1_4 a1_5 a1_6 a1_7 a1_8 a1_9).bind fun t205=>(if t205=true then ((spec_l6Node.f a2).bind fun t206=>(spec_FollowPlan.j0 k l0 a2 (!t206) a1_0 a1_1 a1_2 a1_3 a1_4 a1_5 a1_6 a1_7 a1_8 a1_9)) else (spec_FollowPlan.j0 k l0 a2 true a1_0 a1_1 a1_2 a1_3 a1_4 a1_5 a1_6 a1_7 a1_8 a1_9)))=some (r1,r2,r3):=h
 clear h
 have HC4:=Aside0.mk H
 clear H
 go_enter Try.func57,Try.ntmps57
 go_upto_region 1 with (first|((with_reducible refine gate_dst (N:=4) rfl ?_);(try (refine gate_guard (by rfl) ?_;dsimp only));refine box_event ?hg (N:=4) ?hd (cs:=#[.int .i64 a1_0,.int .i64 a1_1,.bool a1_2,.int .i64 a1_3,.int .i64 a1_4,.int .i64 a1_5,.int .i64 a1_6,.int .i64 a1_7,.int .i64 a1_8,.string a1_9]) (t:=86) ?hr ?_;(case hd=>rfl);(case hg=>rfl);(case hr=>first|(go_simp;done)|(go_simp;rfl));intro gb204 hg w5 hbox hb;have n0_:=Aside0.mk (below_step (bB) hb);have n1_:=Aside0.mk (hbox);have n2_:=Aside0.mk ((bG:w.heap.size≤gb204));have n3_:=Aside0.mk ((bG:w.heap.size≤gb204));clear HB;have HB:=n0_;have BK204:=n1_;have GW204:=n2_;have GE204:=n3_;clear n0_ n1_ n2_ n3_;clear hb hbox hg))
 (try simp only[Act.put,List.setIfInBounds_toArray,List.set_cons_zero,List.set_cons_succ])
 go_cut [23] (fun v23 wc => ∃ (kq:Nat) (x23_3:Bool),v23=.bool x23_3∧Aside0 (spec_FollowPlan.j0 kq l0 a2 x23_3 a1_0 a1_1 a1_2 a1_3 a1_4 a1_5 a1_6 a1_7 a1_8 a1_9=some (r1,r2,r3))∧Aside0 (kq≤k)∧Aside0 (wc.heap[gb204]?=some (.cells #[.int .i64 a1_0,.int .i64 a1_1,.bool a1_2,.int .i64 a1_3,.int .i64 a1_4,.int .i64 a1_5,.int .i64 a1_6,.int .i64 a1_7,.int .i64 a1_8,.string a1_9] 86 (0,0)))∧Aside0 (Below w.heap.size w wc))
 case first =>
  have H:=HC4.out
  clear HC4
  replace H:=Option.bind_eq_some_iff.mp H
  obtain⟨t205,A60,H⟩:=H
  replace H:(if t205=true then ((spec_l6Node.f a2).bind fun t206=>(spec_FollowPlan.j0 k l0 a2 (!t206) a1_0 a1_1 a1_2 a1_3 a1_4 a1_5 a1_6 a1_7 a1_8 a1_9)) else (spec_FollowPlan.j0 k l0 a2 true a1_0 a1_1 a1_2 a1_3 a1_4 a1_5 a1_6 a1_7 a1_8 a1_9))=some (r1,r2,r3):=H
  have A6:=Aside0.mk A60
  clear A60
  by_cases c7:t205=true
  ·subst c7
   have H1:((spec_l6Node.f a2).bind fun t206=>(spec_FollowPlan.j0 k l0 a2 (!t206) a1_0 a1_1 a1_2 a1_3 a1_4 a1_5 a1_6 a1_7 a1_8 a1_9))=some (r1,r2,r3):=by rw[if_pos rfl] at H;exact H
   clear H
   have H:=H1
   clear H1
   replace H:=Option.bind_eq_some_iff.mp H
   obtain⟨t206,A80,H⟩:=H
   replace H:(spec_FollowPlan.j0 k l0 a2 (!t206) a1_0 a1_1 a1_2 a1_3 a1_4 a1_5 a1_6 a1_7 a1_8 a1_9)=some (r1,r2,r3):=H
   have A8:=Aside0.mk A80
   clear A80
   have H':=Aside0.mk H
   clear H
   have hcz9_0:w5.cell? ⟨gb204,0,none⟩=some (.int .i64 a1_0):=(blk_cell BK204.out 0).trans rfl
   have hcz9_1:w5.cell? ⟨gb204,1,none⟩=some (.int .i64 a1_1):=(blk_cell BK204.out 1).trans rfl
   have hcz9_2:w5.cell? ⟨gb204,2,none⟩=some (.bool a1_2):=(blk_cell BK204.out 2).trans rfl
   have hcz9_3:w5.cell? ⟨gb204,3,none⟩=some (.int .i64 a1_3):=(blk_cell BK204.out 3).trans rfl
   have hcz9_4:w5.cell? ⟨gb204,4,none⟩=some (.int .i64 a1_4):=(blk_cell BK204.out 4).trans rfl
   have hcz9_5:w5.cell? ⟨gb204,5,none⟩=some (.int .i64 a1_5):=(blk_cell BK204.out 5).trans rfl
   have hcz9_6:w5.cell? ⟨gb204,6,none⟩=some (.int .i64 a1_6):=(blk_cell BK204.out 6).trans rfl
   have hcz9_7:w5.cell? ⟨gb204,7,none⟩=some (.int .i64 a1_7):=(blk_cell BK204.out 7).trans rfl
   have hcz9_8:w5.cell? ⟨gb204,8,none⟩=some (.int .i64 a1_8):=(blk_cell BK204.out 8).trans rfl
   have hcz9_9:w5.cell? ⟨gb204,9,none⟩=some (.string a1_9):=(blk_cell BK204.out 9).trans rfl
   have hfz9_0:=blk_frozen BK204.out 0
   have hfz9_1:=blk_frozen BK204.out 1
   have hfz9_2:=blk_frozen BK204.out 2
   have hfz9_3:=blk_frozen BK204.out 3
   have hfz9_4:=blk_frozen BK204.out 4
   have hfz9_5:=blk_frozen BK204.out 5
   have hfz9_6:=blk_frozen BK204.out 6
   have hfz9_7:=blk_frozen BK204.out 7
   have hfz9_8:=blk_frozen BK204.out 8
   have hfz9_9:=blk_frozen BK204.out 9
   go_wp2_with (first|((with_reducible refine gate_callee (f:=118) rfl ?_);refine goesA (some 17) rfl rfl Try.func118 #[.slice A0 l0.length c0,.agg #[.int .i64 a1_0,.int .i64 a1_1,.bool a1_2,.int .i64 a1_3,.int .i64 a1_4,.int .i64 a1_5,.int .i64 a1_6,.int .i64 a1_7,.int .i64 a1_8,.string a1_9]] rfl ?_;(with_reducible refine(spec_l17Fits.calls k _ _ l0 a1_0 a1_1 a1_2 a1_3 a1_4 a1_5 a1_6 a1_7 a1_8 a1_9 true _ ?side1 ?side2 A6.out).mono ?_);(case side1=>exact bC HR0.out);(case side2=>exact HC0.out);rintro e w10 ⟨rfl,hb⟩;refine⟨_,rfl,?_⟩;have n0_:=Aside0.mk (blk_below (g:=gb204) (o:=.cells #[.int .i64 a1_0,.int .i64 a1_1,.bool a1_2,.int .i64 a1_3,.int .i64 a1_4,.int .i64 a1_5,.int .i64 a1_6,.int .i64 a1_7,.int .i64 a1_8,.string a1_9] 86 (0,0)) (bL BK204.out) hb);have n1_:=Aside0.mk (below_step (bS GE204.out) hb);clear BK204 HB;have BK204:=n0_;have HB:=n1_;clear n0_ n1_;(try clear hb);(try clear hb2);(try clear hk);(try clear hi))|(go_at_call 85;(with_reducible refine(spec_l6Node.calls a2 t206 _ A8.out).mono ?_);rintro e w' ⟨rfl,⟨nd,rfl⟩⟩))
   go_meet
   case rel=>exact⟨_,(!t206),(bR),H',⟨by first|omega|exact Nat.le_refl _⟩,⟨by(with_reducible repeat (first|refine blk_drewN ?_ _|refine blk_drew ?_|refine blk_alloc ?_ _));exact BK204.out⟩,⟨bS GE204.out⟩⟩
  ·replace c7:=Bool.eq_false_iff.mpr c7
   subst c7
   have H1:(spec_FollowPlan.j0 k l0 a2 true a1_0 a1_1 a1_2 a1_3 a1_4 a1_5 a1_6 a1_7 a1_8 a1_9)=some (r1,r2,r3):=by rw[if_neg (show ¬ (false=true) by decide)] at H;exact H
   clear H
   have H:=H1
   clear H1
   have H':=Aside0.mk H
   clear H
   have hcz11_0:w5.cell? ⟨gb204,0,none⟩=some (.int .i64 a1_0):=(blk_cell BK204.out 0).trans rfl
   have hcz11_1:w5.cell? ⟨gb204,1,none⟩=some (.int .i64 a1_1):=(blk_cell BK204.out 1).trans rfl
   have hcz11_2:w5.cell? ⟨gb204,2,none⟩=some (.bool a1_2):=(blk_cell BK204.out 2).trans rfl
   have hcz11_3:w5.cell? ⟨gb204,3,none⟩=some (.int .i64 a1_3):=(blk_cell BK204.out 3).trans rfl
   have hcz11_4:w5.cell? ⟨gb204,4,none⟩=some (.int .i64 a1_4):=(blk_cell BK204.out 4).trans rfl
   have hcz11_5:w5.cell? ⟨gb204,5,none⟩=some (.int .i64 a1_5):=(blk_cell BK204.out 5).trans rfl
   have hcz11_6:w5.cell? ⟨gb204,6,none⟩=some (.int .i64 a1_6):=(blk_cell BK204.out 6).trans rfl
   have hcz11_7:w5.cell? ⟨gb204,7,none⟩=some (.int .i64 a1_7):=(blk_cell BK204.out 7).trans rfl
   have hcz11_8:w5.cell? ⟨gb204,8,none⟩=some (.int .i64 a1_8):=(blk_cell BK204.out 8).trans rfl
   have hcz11_9:w5.cell? ⟨gb204,9,none⟩=some (.string a1_9):=(blk_cell BK204.out 9).trans rfl
   have hfz11_0:=blk_frozen BK204.out 0
   have hfz11_1:=blk_frozen BK204.out 1
   have hfz11_2:=blk_frozen BK204.out 2
   have hfz11_3:=blk_frozen BK204.out 3
   have hfz11_4:=blk_frozen BK204.out 4
   have hfz11_5:=blk_frozen BK204.out 5
   have hfz11_6:=blk_frozen BK204.out 6
   have hfz11_7:=blk_frozen BK204.out 7
   have hfz11_8:=blk_frozen BK204.out 8
   have hfz11_9:=blk_frozen BK204.out 9
   go_wp2_with (first|((with_reducible refine gate_callee (f:=118) rfl ?_);refine goesA (some 17) rfl rfl Try.func118 #[.slice A0 l0.length c0,.agg #[.int .i64 a1_0,.int .i64 a1_1,.bool a1_2,.int .i64 a1_3,.int .i64 a1_4,.int .i64 a1_5,.int .i64 a1_6,.int .i64 a1_7,.int .i64 a1_8,.string a1_9]] rfl ?_;(with_reducible refine(spec_l17Fits.calls k _ _ l0 a1_0 a1_1 a1_2 a1_3 a1_4 a1_5 a1_6 a1_7 a1_8 a1_9 false _ ?side1 ?side2 A6.out).mono ?_);(case side1=>exact bC HR0.out);(case side2=>exact HC0.out);rintro e w12 ⟨rfl,hb⟩;refine⟨_,rfl,?_⟩;have n0_:=Aside0.mk (blk_below (g:=gb204) (o:=.cells #[.int .i64 a1_0,.int .i64 a1_1,.bool a1_2,.int .i64 a1_3,.int .i64 a1_4,.int .i64 a1_5,.int .i64 a1_6,.int .i64 a1_7,.int .i64 a1_8,.string a1_9] 86 (0,0)) (bL BK204.out) hb);have n1_:=Aside0.mk (below_step (bS GE204.out) hb);clear BK204 HB;have BK204:=n0_;have HB:=n1_;clear n0_ n1_;(try clear hb);(try clear hb2);(try clear hk);(try clear hi)))
   go_meet
   case rel=>exact⟨_,(true),(bR),H',⟨by first|omega|exact Nat.le_refl _⟩,⟨by(with_reducible repeat (first|refine blk_drewN ?_ _|refine blk_drew ?_|refine blk_alloc ?_ _));exact BK204.out⟩,⟨bS GE204.out⟩⟩
 case rest =>
  clear HC4
  try clear c1
  try clear p2
  try clear c5
  try clear c7
  try clear c11
  try clear hcz11_0
  try clear hcz11_1
  try clear hcz11_2
  try clear hcz11_3
  try clear hcz11_4
  try clear hcz11_5
  try clear hcz11_6
  try clear hcz11_7
  try clear hcz11_8
  try clear hcz11_9
  try clear hcz9_0
  try clear hcz9_1
  try clear hcz9_2
  try clear hcz9_3
  try clear hcz9_4
  try clear hcz9_5
  try clear hcz9_6
  try clear hcz9_7
  try clear hcz9_8
  try clear hcz9_9
  try clear hfz11_0
  try clear hfz11_1
  try clear hfz11_2
  try clear hfz11_3
  try clear hfz11_4
  try clear hfz11_5
  try clear hfz11_6
  try clear hfz11_7
  try clear hfz11_8
  try clear hfz11_9
  try clear hfz9_0
  try clear hfz9_1
  try clear hfz9_2
  try clear hfz9_3
  try clear hfz9_4
  try clear hfz9_5
  try clear hfz9_6
  try clear hfz9_7
  try clear hfz9_8
  try clear hfz9_9
  obtain⟨kq,x23_3,rfl,HA,HJ3,BK204,HB⟩:=hcut
  cases kq with
  | zero=>exact absurd HA.out (by simp[spec_FollowPlan.j0])
  | succ kj3 =>
   have H:=HA.out
   clear HA
   simp only[spec_FollowPlan.j0] at H
   by_cases c13:x23_3=true
   ·subst c13
    have H1:(some (([]:List Int),0,false))=some (r1,r2,r3):=by rw[if_pos rfl] at H;exact H
    clear H
    have H:=H1
    clear H1
    simp only[Option.some.injEq,Prod.mk.injEq] at H
    obtain⟨rfl,rfl,rfl⟩:=H
    go_wp2
    go_ret3
    exact⟨_,by first|rfl|(simp[errW_none,errW_some]<;>rfl)|(simp[*,errW_none,errW_some]<;>rfl),by first|exact Kd.R_nil _ _ _ _ _|exact Kd.N_nil _ _ _ _ _|exact Kd.V_nil _ _ _ _ _|exact Kd.Q_nil _ _ _ _ _|exact Kd.S_nil _ _ _ _ _,bS GE204.out⟩
   ·replace c13:=Bool.eq_false_iff.mpr c13
    subst c13
    have H1:(spec_FollowPlan.l0 kj3 l0 a2 a1_0 a1_3 ([]:List Int) a1_0 a1_1 a1_2 a1_3 a1_4 a1_5 a1_6 a1_7 a1_8 a1_9)=some (r1,r2,r3):=by rw[if_neg (show ¬ (false=true) by decide)] at H;exact H
    clear H
    have H:=H1
    clear H1
    have H':=Aside0.mk H
    clear H
    have hcz14_0:wc.cell? ⟨gb204,0,none⟩=some (.int .i64 a1_0):=(blk_cell BK204.out 0).trans rfl
    have hcz14_1:wc.cell? ⟨gb204,1,none⟩=some (.int .i64 a1_1):=(blk_cell BK204.out 1).trans rfl
    have hcz14_2:wc.cell? ⟨gb204,2,none⟩=some (.bool a1_2):=(blk_cell BK204.out 2).trans rfl
    have hcz14_3:wc.cell? ⟨gb204,3,none⟩=some (.int .i64 a1_3):=(blk_cell BK204.out 3).trans rfl
    have hcz14_4:wc.cell? ⟨gb204,4,none⟩=some (.int .i64 a1_4):=(blk_cell BK204.out 4).trans rfl
    have hcz14_5:wc.cell? ⟨gb204,5,none⟩=some (.int .i64 a1_5):=(blk_cell BK204.out 5).trans rfl
    have hcz14_6:wc.cell? ⟨gb204,6,none⟩=some (.int .i64 a1_6):=(blk_cell BK204.out 6).trans rfl
    have hcz14_7:wc.cell? ⟨gb204,7,none⟩=some (.int .i64 a1_7):=(blk_cell BK204.out 7).trans rfl
    have hcz14_8:wc.cell? ⟨gb204,8,none⟩=some (.int .i64 a1_8):=(blk_cell BK204.out 8).trans rfl
    have hcz14_9:wc.cell? ⟨gb204,9,none⟩=some (.string a1_9):=(blk_cell BK204.out 9).trans rfl
    have hfz14_0:=blk_frozen BK204.out 0
    have hfz14_1:=blk_frozen BK204.out 1
    have hfz14_2:=blk_frozen BK204.out 2
    have hfz14_3:=blk_frozen BK204.out 3
    have hfz14_4:=blk_frozen BK204.out 4
    have hfz14_5:=blk_frozen BK204.out 5
    have hfz14_6:=blk_frozen BK204.out 6
    have hfz14_7:=blk_frozen BK204.out 7
    have hfz14_8:=blk_frozen BK204.out 8
    have hfz14_9:=blk_frozen BK204.out 9
    go_wp2
    go_loopg [9,10,11] kj3 (fun kq v9 v10 v11 w' => ∃ (x9_2:Int) (x10_2:Int) (x11_2:List Int),v9=.int .i64 x9_2∧v10=.int .i64 x10_2∧Aside0 (spec_FollowPlan.l0 kq l0 a2 x9_2 x10_2 x11_2 a1_0 a1_1 a1_2 a1_3 a1_4 a1_5 a1_6 a1_7 a1_8 a1_9=some (r1,r2,r3))∧Aside0 (kq≤kj3)∧Aside0 (Kd.R (Kd.int .i64) 3 w' w.heap.size (fun _=>True) v11 x11_2)∧Aside0 (w'.heap[gb204]?=some (.cells #[.int .i64 a1_0,.int .i64 a1_1,.bool a1_2,.int .i64 a1_3,.int .i64 a1_4,.int .i64 a1_5,.int .i64 a1_6,.int .i64 a1_7,.int .i64 a1_8,.string a1_9] 86 (0,0)))∧Aside0 (Below w.heap.size w w'))
    case atStart=>exact⟨(a1_0),(a1_3),(([]:List Int)),(bR),(bR),H',⟨Nat.le_refl _⟩,⟨by first|exact Kd.R_nil _ _ _ _ _|exact Kd.N_nil _ _ _ _ _|exact Kd.V_nil _ _ _ _ _|exact Kd.Q_nil _ _ _ _ _|exact Kd.S_nil _ _ _ _ _⟩,⟨by(with_reducible repeat (first|refine blk_drewN ?_ _|refine blk_drew ?_|refine blk_alloc ?_ _));exact BK204.out⟩,⟨bS GE204.out⟩⟩
    case round =>
     clear H'
     try clear c1
     try clear p2
     try clear c5
     try clear c7
     try clear c11
     try clear c13
     try clear hcz11_0
     try clear hcz11_1
     try clear hcz11_2
     try clear hcz11_3
     try clear hcz11_4
     try clear hcz11_5
     try clear hcz11_6
     try clear hcz11_7
     try clear hcz11_8
     try clear hcz11_9
     try clear hcz14_0
     try clear hcz14_1
     try clear hcz14_2
     try clear hcz14_3
     try clear hcz14_4
     try clear hcz14_5
     try clear hcz14_6
     try clear hcz14_7
     try clear hcz14_8
     try clear hcz14_9
     try clear hcz9_0
     try clear hcz9_1
     try clear hcz9_2
     try clear hcz9_3
     try clear hcz9_4
     try clear hcz9_5
     try clear hcz9_6
     try clear hcz9_7
     try clear hcz9_8
     try clear hcz9_9
     try clear hfz11_0
     try clear hfz11_1
     try clear hfz11_2
     try clear hfz11_3
     try clear hfz11_4
     try clear hfz11_5
     try clear hfz11_6
     try clear hfz11_7
     try clear hfz11_8
     try clear hfz11_9
     try clear hfz14_0
     try clear hfz14_1
     try clear hfz14_2
     try clear hfz14_3
     try clear hfz14_4
     try clear hfz14_5
     try clear hfz14_6
     try clear hfz14_7
     try clear hfz14_8
     try clear hfz14_9
     try clear hfz9_0
     try clear hfz9_1
     try clear hfz9_2
     try clear hfz9_3
     try clear hfz9_4
     try clear hfz9_5
     try clear hfz9_6
     try clear hfz9_7
     try clear hfz9_8
     try clear hfz9_9
     try clear p2
     obtain⟨x9_2,x10_2,x11_2,rfl,rfl,HA,HK2,HO_11,BK204,HB⟩:=hrel
     cases gk with
     | zero=>exact absurd HA.out (by simp[spec_FollowPlan.l0])
     | succ k2 =>
      have H:=HA.out
      clear HA
      simp only[spec_FollowPlan.l0] at H
      by_cases c15:x9_2=a2
      ·rw[if_pos c15] at H
       have c15b0:(x9_2 == a2)=true:=beq_iff_eq.mpr c15
       have c15b1:(x9_2 != a2)=false:=bne_eq_false_iff_eq.mpr c15
       clear c15
       simp only[Option.some.injEq,Prod.mk.injEq] at H
       obtain⟨rfl,rfl,rfl⟩:=H
       go_wp2
       go_ret3
       exact⟨_,by first|rfl|(simp[errW_none,errW_some]<;>rfl)|(simp[*,errW_none,errW_some]<;>rfl),by(with_reducible repeat (first|apply Kd.R_alloc|apply Kd.R_drewN|apply Kd.R_drew));exact HO_11.out,bS GE204.out⟩
      ·rw[if_neg c15] at H
       have c15b0:(x9_2 == a2)=false:=beq_eq_false_iff_ne.mpr c15
       have c15b1:(x9_2 != a2)=true:=bne_iff_ne.mpr c15
       replace H:=Option.bind_eq_some_iff.mp H
       obtain⟨⟨t207,t208,t209⟩,A160,H⟩:=H
       replace H:(if t209=true then (if (x11_2.length:Int)=20 then (some (([]:List Int),0,false)) else (if x11_2.length < 17592186044416 then (if 0≤t207 then (if t207 < (l0.length:Int) then (spec_FollowPlan.l0 k2 l0 a2 ((rd_T104 l0 t207).f1) t208 (x11_2++[t207]) a1_0 a1_1 a1_2 a1_3 a1_4 a1_5 a1_6 a1_7 a1_8 a1_9) else (none)) else (none)) else (none))) else (some (([]:List Int),0,false)))=some (r1,r2,r3):=H
       have A16:=Aside0.mk A160
       clear A160
       by_cases c17:t209=true
       ·subst c17
        have H1:(if (x11_2.length:Int)=20 then (some (([]:List Int),0,false)) else (if x11_2.length < 17592186044416 then (if 0≤t207 then (if t207 < (l0.length:Int) then (spec_FollowPlan.l0 k2 l0 a2 ((rd_T104 l0 t207).f1) t208 (x11_2++[t207]) a1_0 a1_1 a1_2 a1_3 a1_4 a1_5 a1_6 a1_7 a1_8 a1_9) else (none)) else (none)) else (none)))=some (r1,r2,r3):=by rw[if_pos rfl] at H;exact H
        clear H
        have H:=H1
        clear H1
        by_cases c18:(x11_2.length:Int)=20
        ·rw[if_pos c18] at H
         have c18b0:((x11_2.length:Int) == 20)=true:=beq_iff_eq.mpr c18
         have c18b1:((x11_2.length:Int) != 20)=false:=bne_eq_false_iff_eq.mpr c18
         clear c18
         simp only[Option.some.injEq,Prod.mk.injEq] at H
         obtain⟨rfl,rfl,rfl⟩:=H
         have hcz19_0:wr.cell? ⟨gb204,0,none⟩=some (.int .i64 a1_0):=(blk_cell BK204.out 0).trans rfl
         have hcz19_1:wr.cell? ⟨gb204,1,none⟩=some (.int .i64 a1_1):=(blk_cell BK204.out 1).trans rfl
         have hcz19_2:wr.cell? ⟨gb204,2,none⟩=some (.bool a1_2):=(blk_cell BK204.out 2).trans rfl
         have hcz19_3:wr.cell? ⟨gb204,3,none⟩=some (.int .i64 a1_3):=(blk_cell BK204.out 3).trans rfl
         have hcz19_4:wr.cell? ⟨gb204,4,none⟩=some (.int .i64 a1_4):=(blk_cell BK204.out 4).trans rfl
         have hcz19_5:wr.cell? ⟨gb204,5,none⟩=some (.int .i64 a1_5):=(blk_cell BK204.out 5).trans rfl
         have hcz19_6:wr.cell? ⟨gb204,6,none⟩=some (.int .i64 a1_6):=(blk_cell BK204.out 6).trans rfl
         have hcz19_7:wr.cell? ⟨gb204,7,none⟩=some (.int .i64 a1_7):=(blk_cell BK204.out 7).trans rfl
         have hcz19_8:wr.cell? ⟨gb204,8,none⟩=some (.int .i64 a1_8):=(blk_cell BK204.out 8).trans rfl
         have hcz19_9:wr.cell? ⟨gb204,9,none⟩=some (.string a1_9):=(blk_cell BK204.out 9).trans rfl
         have hfz19_0:=blk_frozen BK204.out 0
         have hfz19_1:=blk_frozen BK204.out 1
         have hfz19_2:=blk_frozen BK204.out 2
         have hfz19_3:=blk_frozen BK204.out 3
         have hfz19_4:=blk_frozen BK204.out 4
         have hfz19_5:=blk_frozen BK204.out 5
         have hfz19_6:=blk_frozen BK204.out 6
         have hfz19_7:=blk_frozen BK204.out 7
         have hfz19_8:=blk_frozen BK204.out 8
         have hfz19_9:=blk_frozen BK204.out 9
         go_wp2_with (first|((with_reducible refine gate_callee (f:=52) rfl ?_);refine goesA (some 37) rfl rfl Try.func52 #[.slice A0 l0.length c0,.agg #[.int .i64 a1_0,.int .i64 a1_1,.bool a1_2,.int .i64 a1_3,.int .i64 a1_4,.int .i64 a1_5,.int .i64 a1_6,.int .i64 a1_7,.int .i64 a1_8,.string a1_9],.int .i64 x9_2,.int .i64 x10_2,.int .i64 a2] rfl ?_;(with_reducible refine(spec_ForwardStep.calls k2 _ _ l0 a1_0 a1_1 a1_2 a1_3 a1_4 a1_5 a1_6 a1_7 a1_8 a1_9 x9_2 x10_2 a2 t207 t208 true _ ?side1 ?side2 A16.out).mono ?_);(case side1=>exact bC HR0.out);(case side2=>exact HC0.out);rintro e w20 ⟨rfl,hb⟩;refine⟨_,rfl,?_⟩;have n0_:=Aside0.mk (Kd.R_below (bK HO_11.out) hb);have n1_:=Aside0.mk (blk_below (g:=gb204) (o:=.cells #[.int .i64 a1_0,.int .i64 a1_1,.bool a1_2,.int .i64 a1_3,.int .i64 a1_4,.int .i64 a1_5,.int .i64 a1_6,.int .i64 a1_7,.int .i64 a1_8,.string a1_9] 86 (0,0)) (bL BK204.out) hb);have n2_:=Aside0.mk (below_step (bS GE204.out) hb);clear HO_11 BK204 HB;have HO_11:=n0_;have BK204:=n1_;have HB:=n2_;clear n0_ n1_ n2_;(try clear hb);(try clear hb2);(try clear hk);(try clear hi);obtain⟨Ao21,co21,eo21⟩:=Kd.R_slice HO_11.out;subst eo21))
         go_ret3
         exact⟨_,by first|rfl|(simp[errW_none,errW_some]<;>rfl)|(simp[*,errW_none,errW_some]<;>rfl),by first|exact Kd.R_nil _ _ _ _ _|exact Kd.N_nil _ _ _ _ _|exact Kd.V_nil _ _ _ _ _|exact Kd.Q_nil _ _ _ _ _|exact Kd.S_nil _ _ _ _ _,bS GE204.out⟩
        ·rw[if_neg c18] at H
         have c18b0:((x11_2.length:Int) == 20)=false:=beq_eq_false_iff_ne.mpr c18
         have c18b1:((x11_2.length:Int) != 20)=true:=bne_iff_ne.mpr c18
         by_cases c22:x11_2.length < 17592186044416
         ·rw[if_pos c22] at H
          have LMc22:=Aside0.mk c22
          clear c22
          obtain⟨y210,hy210⟩ : ∃ y_:List Int,y_=(x11_2++[t207]):=⟨_,rfl⟩
          replace H:(if 0≤t207 then (if t207 < (l0.length:Int) then (spec_FollowPlan.l0 k2 l0 a2 ((rd_T104 l0 t207).f1) t208 y210 a1_0 a1_1 a1_2 a1_3 a1_4 a1_5 a1_6 a1_7 a1_8 a1_9) else (none)) else (none))=some (r1,r2,r3):=by first|(rw[hy210];with_reducible exact H)|(have H2_:=(Option.bind_some _ _).symm.trans H;rw[hy210];with_reducible exact H2_)|(have H2_:=(Option.bind_some _ _).symm.trans H;with_reducible exact H2_)|with_reducible exact H|(rw[hy210];exact H)|exact H
          have Ny210:=Aside0.mk hy210
          clear hy210
          by_cases c23:0≤t207
          ·rw[if_pos c23] at H
           have c23b0:decide (0≤t207)=true:=decide_eq_true c23
           clear c23
           by_cases c24:t207 < (l0.length:Int)
           ·rw[if_pos c24] at H
            have c24b0:decide (t207 < (l0.length:Int))=true:=decide_eq_true c24
            clear c24
            have H':=Aside0.mk H
            clear H
            have hcz25_0:wr.cell? ⟨gb204,0,none⟩=some (.int .i64 a1_0):=(blk_cell BK204.out 0).trans rfl
            have hcz25_1:wr.cell? ⟨gb204,1,none⟩=some (.int .i64 a1_1):=(blk_cell BK204.out 1).trans rfl
            have hcz25_2:wr.cell? ⟨gb204,2,none⟩=some (.bool a1_2):=(blk_cell BK204.out 2).trans rfl
            have hcz25_3:wr.cell? ⟨gb204,3,none⟩=some (.int .i64 a1_3):=(blk_cell BK204.out 3).trans rfl
            have hcz25_4:wr.cell? ⟨gb204,4,none⟩=some (.int .i64 a1_4):=(blk_cell BK204.out 4).trans rfl
            have hcz25_5:wr.cell? ⟨gb204,5,none⟩=some (.int .i64 a1_5):=(blk_cell BK204.out 5).trans rfl
            have hcz25_6:wr.cell? ⟨gb204,6,none⟩=some (.int .i64 a1_6):=(blk_cell BK204.out 6).trans rfl
            have hcz25_7:wr.cell? ⟨gb204,7,none⟩=some (.int .i64 a1_7):=(blk_cell BK204.out 7).trans rfl
            have hcz25_8:wr.cell? ⟨gb204,8,none⟩=some (.int .i64 a1_8):=(blk_cell BK204.out 8).trans rfl
            have hcz25_9:wr.cell? ⟨gb204,9,none⟩=some (.string a1_9):=(blk_cell BK204.out 9).trans rfl
            have hfz25_0:=blk_frozen BK204.out 0
            have hfz25_1:=blk_frozen BK204.out 1
            have hfz25_2:=blk_frozen BK204.out 2
            have hfz25_3:=blk_frozen BK204.out 3
            have hfz25_4:=blk_frozen BK204.out 4
            have hfz25_5:=blk_frozen BK204.out 5
            have hfz25_6:=blk_frozen BK204.out 6
            have hfz25_7:=blk_frozen BK204.out 7
            have hfz25_8:=blk_frozen BK204.out 8
            have hfz25_9:=blk_frozen BK204.out 9
            go_wp2_with (first|((with_reducible refine gate_callee (f:=52) rfl ?_);refine goesA (some 37) rfl rfl Try.func52 #[.slice A0 l0.length c0,.agg #[.int .i64 a1_0,.int .i64 a1_1,.bool a1_2,.int .i64 a1_3,.int .i64 a1_4,.int .i64 a1_5,.int .i64 a1_6,.int .i64 a1_7,.int .i64 a1_8,.string a1_9],.int .i64 x9_2,.int .i64 x10_2,.int .i64 a2] rfl ?_;(with_reducible refine(spec_ForwardStep.calls k2 _ _ l0 a1_0 a1_1 a1_2 a1_3 a1_4 a1_5 a1_6 a1_7 a1_8 a1_9 x9_2 x10_2 a2 t207 t208 true _ ?side1 ?side2 A16.out).mono ?_);(case side1=>exact bC HR0.out);(case side2=>exact HC0.out);rintro e w26 ⟨rfl,hb⟩;refine⟨_,rfl,?_⟩;have n0_:=Aside0.mk (Kd.R_below (bK HO_11.out) hb);have n1_:=Aside0.mk (blk_below (g:=gb204) (o:=.cells #[.int .i64 a1_0,.int .i64 a1_1,.bool a1_2,.int .i64 a1_3,.int .i64 a1_4,.int .i64 a1_5,.int .i64 a1_6,.int .i64 a1_7,.int .i64 a1_8,.string a1_9] 86 (0,0)) (bL BK204.out) hb);have n2_:=Aside0.mk (below_step (bS GE204.out) hb);clear HO_11 BK204 HB;have HO_11:=n0_;have BK204:=n1_;have HB:=n2_;clear n0_ n1_ n2_;(try clear hb);(try clear hb2);(try clear hk);(try clear hi);obtain⟨Ao27,co27,eo27⟩:=Kd.R_slice HO_11.out;subst eo27)|((with_reducible refine gate_builtin (b:=.append) (xs:=#[.tmp 48,.tmp 50]) rfl ?_);(try (refine gate_guard (by rfl) ?_;dsimp only));at_builtin;refine Kd.R_append (Kd.int .i64) (w0:=w) w.heap.size rfl (.tmp 48) (.tmp 50) 37 3 (.int .i64 0) 8 rfl Try.underlying37 info3 rfl (by decide) (by omega) (.slice Ao27 x11_2.length co27) x11_2 t207 [.int .i64 t207] (fun _=>True) (fun _=>False) rfl rfl ?aP (fun _ hk=>hk.elim) ?aF ?aO ?aB ?aS ?aL ?_;(case aP=>exact rfl);(case aB=>exact(bS GE204.out));(case aF=>exact(fun _ _=>trivial));(case aO=>exact(bK HO_11.out));(case aS=>exact(below_size (bS GE204.out)));(case aL=>have:=LMc22.out;omega);intro v211 w28 ho hb hg hat;rw[← Ny210.out] at ho;have n0_:=Aside0.mk (blk_grown (g:=gb204) (o:=.cells #[.int .i64 a1_0,.int .i64 a1_1,.bool a1_2,.int .i64 a1_3,.int .i64 a1_4,.int .i64 a1_5,.int .i64 a1_6,.int .i64 a1_7,.int .i64 a1_8,.string a1_9] 86 (0,0)) (bL BK204.out) hg (Kd.R_ne HO_11.out BK204.out (by decide)));have n1_:=Aside0.mk (hb);have n2_:=Aside0.mk (ho);clear BK204 HB HO_11;have BK204:=n0_;have HB:=n1_;have HO212:=n2_;clear n0_ n1_ n2_;clear ho hb hg hat;have p213:0≤(t207:Int):=of_decide_eq_true (bD);have q213:t207 < (l0.length:Int):=of_decide_eq_true (bD);obtain⟨ad213,e213,hx213_0,hx213_1,hx213_2,hx213_3,hx213_4⟩:=at_T104 HR0.out t207 p213 q213;cases e213;replace hx213_0:=(HB.out.cell (World.block_lt_of_cell? w _ hx213_0)).trans hx213_0;replace hx213_1:=(HB.out.cell (World.block_lt_of_cell? w _ hx213_1)).trans hx213_1;replace hx213_2:=(HB.out.cell (World.block_lt_of_cell? w _ hx213_2)).trans hx213_2;replace hx213_3:=(HB.out.cell (World.block_lt_of_cell? w _ hx213_3)).trans hx213_3;replace hx213_4:=(HB.out.cell (World.block_lt_of_cell? w _ hx213_4)).trans hx213_4;replace p213:=eq_true p213;replace q213:=eq_true q213))
            go_roundg k2
            case measure=>have:=HJ3.out;have:=HK2.out;omega
            case rel=>exact⟨((rd_T104 l0 t207).f1),(t208),(y210),(bR),(bR),H',⟨by have:=HJ3.out;have:=HK2.out;omega⟩,⟨by(with_reducible repeat (first|apply Kd.R_alloc|apply Kd.R_drewN|apply Kd.R_drew));exact HO212.out⟩,⟨by(with_reducible repeat (first|refine blk_drewN ?_ _|refine blk_drew ?_|refine blk_alloc ?_ _));exact BK204.out⟩,⟨bS GE204.out⟩⟩
           ·rw[if_neg c24] at H
            exact absurd H (by simp)
          ·rw[if_neg c23] at H
           exact absurd H (by simp)
         ·rw[if_neg c22] at H
          exact absurd H (by simp)
       ·replace c17:=Bool.eq_false_iff.mpr c17
        subst c17
        have H1:(some (([]:List Int),0,false))=some (r1,r2,r3):=by rw[if_neg (show ¬ (false=true) by decide)] at H;exact H
        clear H
        have H:=H1
        clear H1
        simp only[Option.some.injEq,Prod.mk.injEq] at H
        obtain⟨rfl,rfl,rfl⟩:=H
        have hcz29_0:wr.cell? ⟨gb204,0,none⟩=some (.int .i64 a1_0):=(blk_cell BK204.out 0).trans rfl
        have hcz29_1:wr.cell? ⟨gb204,1,none⟩=some (.int .i64 a1_1):=(blk_cell BK204.out 1).trans rfl
        have hcz29_2:wr.cell? ⟨gb204,2,none⟩=some (.bool a1_2):=(blk_cell BK204.out 2).trans rfl
        have hcz29_3:wr.cell? ⟨gb204,3,none⟩=some (.int .i64 a1_3):=(blk_cell BK204.out 3).trans rfl
        have hcz29_4:wr.cell? ⟨gb204,4,none⟩=some (.int .i64 a1_4):=(blk_cell BK204.out 4).trans rfl
        have hcz29_5:wr.cell? ⟨gb204,5,none⟩=some (.int .i64 a1_5):=(blk_cell BK204.out 5).trans rfl
        have hcz29_6:wr.cell? ⟨gb204,6,none⟩=some (.int .i64 a1_6):=(blk_cell BK204.out 6).trans rfl
        have hcz29_7:wr.cell? ⟨gb204,7,none⟩=some (.int .i64 a1_7):=(blk_cell BK204.out 7).trans rfl
        have hcz29_8:wr.cell? ⟨gb204,8,none⟩=some (.int .i64 a1_8):=(blk_cell BK204.out 8).trans rfl
        have hcz29_9:wr.cell? ⟨gb204,9,none⟩=some (.string a1_9):=(blk_cell BK204.out 9).trans rfl
        have hfz29_0:=blk_frozen BK204.out 0
        have hfz29_1:=blk_frozen BK204.out 1
        have hfz29_2:=blk_frozen BK204.out 2
        have hfz29_3:=blk_frozen BK204.out 3
        have hfz29_4:=blk_frozen BK204.out 4
        have hfz29_5:=blk_frozen BK204.out 5
        have hfz29_6:=blk_frozen BK204.out 6
        have hfz29_7:=blk_frozen BK204.out 7
        have hfz29_8:=blk_frozen BK204.out 8
        have hfz29_9:=blk_frozen BK204.out 9
        go_wp2_with (first|((with_reducible refine gate_callee (f:=52) rfl ?_);refine goesA (some 37) rfl rfl Try.func52 #[.slice A0 l0.length c0,.agg #[.int .i64 a1_0,.int .i64 a1_1,.bool a1_2,.int .i64 a1_3,.int .i64 a1_4,.int .i64 a1_5,.int .i64 a1_6,.int .i64 a1_7,.int .i64 a1_8,.string a1_9],.int .i64 x9_2,.int .i64 x10_2,.int .i64 a2] rfl ?_;(with_reducible refine(spec_ForwardStep.calls k2 _ _ l0 a1_0 a1_1 a1_2 a1_3 a1_4 a1_5 a1_6 a1_7 a1_8 a1_9 x9_2 x10_2 a2 t207 t208 false _ ?side1 ?side2 A16.out).mono ?_);(case side1=>exact bC HR0.out);(case side2=>exact HC0.out);rintro e w30 ⟨rfl,hb⟩;refine⟨_,rfl,?_⟩;have n0_:=Aside0.mk (Kd.R_below (bK HO_11.out) hb);have n1_:=Aside0.mk (blk_below (g:=gb204) (o:=.cells #[.int .i64 a1_0,.int .i64 a1_1,.bool a1_2,.int .i64 a1_3,.int .i64 a1_4,.int .i64 a1_5,.int .i64 a1_6,.int .i64 a1_7,.int .i64 a1_8,.string a1_9] 86 (0,0)) (bL BK204.out) hb);have n2_:=Aside0.mk (below_step (bS GE204.out) hb);clear HO_11 BK204 HB;have HO_11:=n0_;have BK204:=n1_;have HB:=n2_;clear n0_ n1_ n2_;(try clear hb);(try clear hb2);(try clear hk);(try clear hi)))
        go_ret3
        exact⟨_,by first|rfl|(simp[errW_none,errW_some]<;>rfl)|(simp[*,errW_none,errW_some]<;>rfl),by first|exact Kd.R_nil _ _ _ _ _|exact Kd.N_nil _ _ _ _ _|exact Kd.V_nil _ _ _ _ _|exact Kd.Q_nil _ _ _ _ _|exact Kd.S_nil _ _ _ _ _,bS GE204.out⟩

-- NOT PRINTED: function 169 (impl_Contact_169)

-- NOT PRINTED: function 144 (impl_Contact_144)

/-! ### impl_within: function 79 -/
def impl_within.f (a0:Int) (a1:Int) (a2:Int):Option (Bool):=if a1≤a0 then (some (decide (a0≤a2))) else (some false)
set_option maxHeartbeats 8000000 in
set_option maxRecDepth 100000 in
theorem impl_within.calls (a0:Int) (a1:Int) (a2:Int) (r:Bool) (w:World) (h:impl_within.f a0 a1 a2=some r) :
  Calls Try.prog 79 #[.int .i64 a0,.int .i64 a1,.int .i64 a2] w fun e w'=>e=.returned (.bool r)∧Drawn0 w w':=by
 have H:(if a1≤a0 then (some (decide (a0≤a2))) else (some false))=some r:=h
 clear h
 by_cases c4:a1≤a0
 ·rw[if_pos c4] at H
  have c4b0:decide (a1≤a0)=true:=decide_eq_true c4
  clear c4
  obtain rfl:=Option.some.inj H
  go_enter Try.func79,Try.ntmps79
  go_wp2
  go_ret
  exact⟨bR,bW⟩
 ·rw[if_neg c4] at H
  have c4b0:decide (a1≤a0)=false:=decide_eq_false c4
  clear c4
  obtain rfl:=Option.some.inj H
  go_enter Try.func79,Try.ntmps79
  go_wp2
  go_ret
  exact⟨bR,bW⟩

/-! ### impl_isNode: function 89 -/
def impl_isNode.f (a0:Int):Option (Bool):=(impl_within.f a0 0 7).bind fun t216=>(some t216)
set_option maxHeartbeats 8000000 in
set_option maxRecDepth 100000 in
theorem impl_isNode.calls (a0:Int) (r:Bool) (w:World) (h:impl_isNode.f a0=some r) :
  Calls Try.prog 89 #[.int .i64 a0] w fun e w'=>e=.returned (.bool r)∧Drawn0 w w':=by
 have H:((impl_within.f a0 0 7).bind fun t216=>(some t216))=some r:=h
 clear h
 replace H:=Option.bind_eq_some_iff.mp H
 obtain⟨t216,A20,H⟩:=H
 have A2:=Aside0.mk A20
 clear A20
 obtain rfl:=Option.some.inj H
 go_enter Try.func89,Try.ntmps89
 go_wp2_with (first|((with_reducible refine gate_callee (f:=79) rfl ?_);refine goesA (some 4) rfl rfl Try.func79 #[.int .i64 a0,.int .i64 0,.int .i64 7] rfl ?_;(with_reducible refine(impl_within.calls a0 0 7 t216 _ A2.out).mono ?_);rintro e w' ⟨rfl,⟨nd,rfl⟩⟩;refine⟨_,rfl,?_⟩))
 go_ret
 exact⟨bR,bW⟩

/-! ### impl_areUnlike: function 146 -/
def impl_areUnlike.f (a0:Int) (a1:Int):Option (Bool):=(impl_isNode.f a0).bind fun t217=>(if t217=true then ((impl_isNode.f a1).bind fun t218=>(if t218=true then (some (a0 != a1)) else (some false))) else (some false))
set_option maxHeartbeats 8000000 in
set_option maxRecDepth 100000 in
theorem impl_areUnlike.calls (a0:Int) (a1:Int) (r:Bool) (w:World) (h:impl_areUnlike.f a0 a1=some r) :
  Calls Try.prog 146 #[.int .i64 a0,.int .i64 a1] w fun e w'=>e=.returned (.bool r)∧Drawn0 w w':=by
 have H:((impl_isNode.f a0).bind fun t217=>(if t217=true then ((impl_isNode.f a1).bind fun t218=>(if t218=true then (some (a0 != a1)) else (some false))) else (some false)))=some r:=h
 clear h
 replace H:=Option.bind_eq_some_iff.mp H
 obtain⟨t217,A30,H⟩:=H
 have A3:=Aside0.mk A30
 clear A30
 by_cases c4:t217=true
 ·subst c4
  have H1:((impl_isNode.f a1).bind fun t218=>(if t218=true then (some (a0 != a1)) else (some false)))=some r:=by rw[if_pos rfl] at H;exact H
  clear H
  have H:=H1
  clear H1
  replace H:=Option.bind_eq_some_iff.mp H
  obtain⟨t218,A50,H⟩:=H
  have A5:=Aside0.mk A50
  clear A50
  by_cases c6:t218=true
  ·subst c6
   have H1:(some (a0 != a1))=some r:=by rw[if_pos rfl] at H;exact H
   clear H
   have H:=H1
   clear H1
   obtain rfl:=Option.some.inj H
   go_enter Try.func146,Try.ntmps146
   go_wp2_with (first|((with_reducible refine gate_callee (f:=89) rfl ?_);refine goesA (some 6) rfl rfl Try.func89 #[.int .i64 a0] rfl ?_;(with_reducible refine(impl_isNode.calls a0 true _ A3.out).mono ?_);rintro e w' ⟨rfl,⟨nd,rfl⟩⟩;refine⟨_,rfl,?_⟩)|(go_at_call 89;(with_reducible refine(impl_isNode.calls a1 true _ A5.out).mono ?_);rintro e w' ⟨rfl,⟨nd,rfl⟩⟩))
   go_ret
   exact⟨bR,bW⟩
  ·replace c6:=Bool.eq_false_iff.mpr c6
   subst c6
   have H1:(some false)=some r:=by rw[if_neg (show ¬ (false=true) by decide)] at H;exact H
   clear H
   have H:=H1
   clear H1
   obtain rfl:=Option.some.inj H
   go_enter Try.func146,Try.ntmps146
   go_wp2_with (first|((with_reducible refine gate_callee (f:=89) rfl ?_);refine goesA (some 6) rfl rfl Try.func89 #[.int .i64 a0] rfl ?_;(with_reducible refine(impl_isNode.calls a0 true _ A3.out).mono ?_);rintro e w' ⟨rfl,⟨nd,rfl⟩⟩;refine⟨_,rfl,?_⟩)|(go_at_call 89;(with_reducible refine(impl_isNode.calls a1 false _ A5.out).mono ?_);rintro e w' ⟨rfl,⟨nd,rfl⟩⟩))
   go_ret
   exact⟨bR,bW⟩
 ·replace c4:=Bool.eq_false_iff.mpr c4
  subst c4
  have H1:(some false)=some r:=by rw[if_neg (show ¬ (false=true) by decide)] at H;exact H
  clear H
  have H:=H1
  clear H1
  obtain rfl:=Option.some.inj H
  go_enter Try.func146,Try.ntmps146
  go_wp2_with (first|((with_reducible refine gate_callee (f:=89) rfl ?_);refine goesA (some 6) rfl rfl Try.func89 #[.int .i64 a0] rfl ?_;(with_reducible refine(impl_isNode.calls a0 false _ A3.out).mono ?_);rintro e w' ⟨rfl,⟨nd,rfl⟩⟩;refine⟨_,rfl,?_⟩))
  go_ret
  exact⟨bR,bW⟩

/-! ### impl_GoodPlan_lit1: function 145 -/
def impl_GoodPlan_lit1.f (a0_0:Int) (a0_1:Int) (a0_2:Int) (a0_3:Int) (a0_4:Int):Option (Bool):=(impl_areUnlike.f a0_0 a0_1).bind fun t220=>(if t220=true then (if a0_2 < 0 then (some true) else (if a0_2 ≥ a0_3 then (some true) else (if a0_3 > 1000 then (some true) else ((impl_within.f a0_4 0 100).bind fun t221=>(some (!t221)))))) else (some true))
set_option maxHeartbeats 8000000 in
set_option maxRecDepth 100000 in
theorem impl_GoodPlan_lit1.calls (a0_0:Int) (a0_1:Int) (a0_2:Int) (a0_3:Int) (a0_4:Int) (r:Bool) (w:World) (h:impl_GoodPlan_lit1.f a0_0 a0_1 a0_2 a0_3 a0_4=some r) :
  Calls Try.prog 145 #[.agg #[.int .i64 a0_0,.int .i64 a0_1,.int .i64 a0_2,.int .i64 a0_3,.int .i64 a0_4]] w fun e w'=>e=.returned (.bool r)∧Below w.heap.size w w':=by
 have hu104:=Try.underlying104
 have HB:=Aside0.mk (Below.refl w.heap.size w)
 have H:((impl_areUnlike.f a0_0 a0_1).bind fun t220=>(if t220=true then (if a0_2 < 0 then (some true) else (if a0_2 ≥ a0_3 then (some true) else (if a0_3 > 1000 then (some true) else ((impl_within.f a0_4 0 100).bind fun t221=>(some (!t221)))))) else (some true)))=some r:=h
 clear h
 replace H:=Option.bind_eq_some_iff.mp H
 obtain⟨t220,A20,H⟩:=H
 have A2:=Aside0.mk A20
 clear A20
 by_cases c3:t220=true
 ·subst c3
  have H1:(if a0_2 < 0 then (some true) else (if a0_2 ≥ a0_3 then (some true) else (if a0_3 > 1000 then (some true) else ((impl_within.f a0_4 0 100).bind fun t221=>(some (!t221))))))=some r:=by rw[if_pos rfl] at H;exact H
  clear H
  have H:=H1
  clear H1
  by_cases c4:a0_2 < 0
  ·rw[if_pos c4] at H
   have c4b0:decide (a0_2 < 0)=true:=decide_eq_true c4
   clear c4
   obtain rfl:=Option.some.inj H
   go_enter Try.func145,Try.ntmps145
   go_wp2_with (first|((with_reducible refine gate_dst (N:=1) rfl ?_);refine box_event ?hg (N:=1) ?hd (cs:=#[.int .i64 a0_0,.int .i64 a0_1,.int .i64 a0_2,.int .i64 a0_3,.int .i64 a0_4]) (t:=104) ?hr ?_;(case hd=>rfl);(case hg=>rfl);(case hr=>first|(go_simp;done)|(go_simp;rfl));intro gb219 hg w5 hbox hb;have n0_:=Aside0.mk (below_step (bB) hb);have n1_:=Aside0.mk (hbox);have n2_:=Aside0.mk ((bG:w.heap.size≤gb219));have n3_:=Aside0.mk ((bG:w.heap.size≤gb219));clear HB;have HB:=n0_;have BK219:=n1_;have GW219:=n2_;have GE219:=n3_;clear n0_ n1_ n2_ n3_;clear hb hbox hg;have hcz6_0:w5.cell? ⟨gb219,0,none⟩=some (.int .i64 a0_0):=(blk_cell BK219.out 0).trans rfl;have hcz6_1:w5.cell? ⟨gb219,1,none⟩=some (.int .i64 a0_1):=(blk_cell BK219.out 1).trans rfl;have hcz6_2:w5.cell? ⟨gb219,2,none⟩=some (.int .i64 a0_2):=(blk_cell BK219.out 2).trans rfl;have hcz6_3:w5.cell? ⟨gb219,3,none⟩=some (.int .i64 a0_3):=(blk_cell BK219.out 3).trans rfl;have hcz6_4:w5.cell? ⟨gb219,4,none⟩=some (.int .i64 a0_4):=(blk_cell BK219.out 4).trans rfl;have hfz6_0:=blk_frozen BK219.out 0;have hfz6_1:=blk_frozen BK219.out 1;have hfz6_2:=blk_frozen BK219.out 2;have hfz6_3:=blk_frozen BK219.out 3;have hfz6_4:=blk_frozen BK219.out 4)|((with_reducible refine gate_callee (f:=146) rfl ?_);refine goesA (some 7) rfl rfl Try.func146 #[.int .i64 a0_0,.int .i64 a0_1] rfl ?_;(with_reducible refine(impl_areUnlike.calls a0_0 a0_1 true _ A2.out).mono ?_);rintro e w' ⟨rfl,⟨nd,rfl⟩⟩;refine⟨_,rfl,?_⟩))
   go_ret
   exact⟨bE,bS GE219.out⟩
  ·rw[if_neg c4] at H
   have c4b0:decide (a0_2 < 0)=false:=decide_eq_false c4
   clear c4
   by_cases c7:a0_2 ≥ a0_3
   ·rw[if_pos c7] at H
    have c7b0:decide (a0_3≤a0_2)=true:=decide_eq_true c7
    clear c7
    obtain rfl:=Option.some.inj H
    go_enter Try.func145,Try.ntmps145
    go_wp2_with (first|((with_reducible refine gate_dst (N:=1) rfl ?_);refine box_event ?hg (N:=1) ?hd (cs:=#[.int .i64 a0_0,.int .i64 a0_1,.int .i64 a0_2,.int .i64 a0_3,.int .i64 a0_4]) (t:=104) ?hr ?_;(case hd=>rfl);(case hg=>rfl);(case hr=>first|(go_simp;done)|(go_simp;rfl));intro gb219 hg w8 hbox hb;have n0_:=Aside0.mk (below_step (bB) hb);have n1_:=Aside0.mk (hbox);have n2_:=Aside0.mk ((bG:w.heap.size≤gb219));have n3_:=Aside0.mk ((bG:w.heap.size≤gb219));clear HB;have HB:=n0_;have BK219:=n1_;have GW219:=n2_;have GE219:=n3_;clear n0_ n1_ n2_ n3_;clear hb hbox hg;have hcz9_0:w8.cell? ⟨gb219,0,none⟩=some (.int .i64 a0_0):=(blk_cell BK219.out 0).trans rfl;have hcz9_1:w8.cell? ⟨gb219,1,none⟩=some (.int .i64 a0_1):=(blk_cell BK219.out 1).trans rfl;have hcz9_2:w8.cell? ⟨gb219,2,none⟩=some (.int .i64 a0_2):=(blk_cell BK219.out 2).trans rfl;have hcz9_3:w8.cell? ⟨gb219,3,none⟩=some (.int .i64 a0_3):=(blk_cell BK219.out 3).trans rfl;have hcz9_4:w8.cell? ⟨gb219,4,none⟩=some (.int .i64 a0_4):=(blk_cell BK219.out 4).trans rfl;have hfz9_0:=blk_frozen BK219.out 0;have hfz9_1:=blk_frozen BK219.out 1;have hfz9_2:=blk_frozen BK219.out 2;have hfz9_3:=blk_frozen BK219.out 3;have hfz9_4:=blk_frozen BK219.out 4)|((with_reducible refine gate_callee (f:=146) rfl ?_);refine goesA (some 7) rfl rfl Try.func146 #[.int .i64 a0_0,.int .i64 a0_1] rfl ?_;(with_reducible refine(impl_areUnlike.calls a0_0 a0_1 true _ A2.out).mono ?_);rintro e w' ⟨rfl,⟨nd,rfl⟩⟩;refine⟨_,rfl,?_⟩))
    go_ret
    exact⟨bE,bS GE219.out⟩
   ·rw[if_neg c7] at H
    have c7b0:decide (a0_3≤a0_2)=false:=decide_eq_false c7
    clear c7
    by_cases c10:a0_3 > 1000
    ·rw[if_pos c10] at H
     have c10b0:decide (1000 < a0_3)=true:=decide_eq_true c10
     clear c10
     obtain rfl:=Option.some.inj H
     go_enter Try.func145,Try.ntmps145
     go_wp2_with (first|((with_reducible refine gate_dst (N:=1) rfl ?_);refine box_event ?hg (N:=1) ?hd (cs:=#[.int .i64 a0_0,.int .i64 a0_1,.int .i64 a0_2,.int .i64 a0_3,.int .i64 a0_4]) (t:=104) ?hr ?_;(case hd=>rfl);(case hg=>rfl);(case hr=>first|(go_simp;done)|(go_simp;rfl));intro gb219 hg w11 hbox hb;have n0_:=Aside0.mk (below_step (bB) hb);have n1_:=Aside0.mk (hbox);have n2_:=Aside0.mk ((bG:w.heap.size≤gb219));have n3_:=Aside0.mk ((bG:w.heap.size≤gb219));clear HB;have HB:=n0_;have BK219:=n1_;have GW219:=n2_;have GE219:=n3_;clear n0_ n1_ n2_ n3_;clear hb hbox hg;have hcz12_0:w11.cell? ⟨gb219,0,none⟩=some (.int .i64 a0_0):=(blk_cell BK219.out 0).trans rfl;have hcz12_1:w11.cell? ⟨gb219,1,none⟩=some (.int .i64 a0_1):=(blk_cell BK219.out 1).trans rfl;have hcz12_2:w11.cell? ⟨gb219,2,none⟩=some (.int .i64 a0_2):=(blk_cell BK219.out 2).trans rfl;have hcz12_3:w11.cell? ⟨gb219,3,none⟩=some (.int .i64 a0_3):=(blk_cell BK219.out 3).trans rfl;have hcz12_4:w11.cell? ⟨gb219,4,none⟩=some (.int .i64 a0_4):=(blk_cell BK219.out 4).trans rfl;have hfz12_0:=blk_frozen BK219.out 0;have hfz12_1:=blk_frozen BK219.out 1;have hfz12_2:=blk_frozen BK219.out 2;have hfz12_3:=blk_frozen BK219.out 3;have hfz12_4:=blk_frozen BK219.out 4)|((with_reducible refine gate_callee (f:=146) rfl ?_);refine goesA (some 7) rfl rfl Try.func146 #[.int .i64 a0_0,.int .i64 a0_1] rfl ?_;(with_reducible refine(impl_areUnlike.calls a0_0 a0_1 true _ A2.out).mono ?_);rintro e w' ⟨rfl,⟨nd,rfl⟩⟩;refine⟨_,rfl,?_⟩))
     go_ret
     exact⟨bE,bS GE219.out⟩
    ·rw[if_neg c10] at H
     have c10b0:decide (1000 < a0_3)=false:=decide_eq_false c10
     clear c10
     replace H:=Option.bind_eq_some_iff.mp H
     obtain⟨t221,A130,H⟩:=H
     have A13:=Aside0.mk A130
     clear A130
     obtain rfl:=Option.some.inj H
     go_enter Try.func145,Try.ntmps145
     go_wp2_with (first|((with_reducible refine gate_dst (N:=1) rfl ?_);refine box_event ?hg (N:=1) ?hd (cs:=#[.int .i64 a0_0,.int .i64 a0_1,.int .i64 a0_2,.int .i64 a0_3,.int .i64 a0_4]) (t:=104) ?hr ?_;(case hd=>rfl);(case hg=>rfl);(case hr=>first|(go_simp;done)|(go_simp;rfl));intro gb219 hg w14 hbox hb;have n0_:=Aside0.mk (below_step (bB) hb);have n1_:=Aside0.mk (hbox);have n2_:=Aside0.mk ((bG:w.heap.size≤gb219));have n3_:=Aside0.mk ((bG:w.heap.size≤gb219));clear HB;have HB:=n0_;have BK219:=n1_;have GW219:=n2_;have GE219:=n3_;clear n0_ n1_ n2_ n3_;clear hb hbox hg;have hcz15_0:w14.cell? ⟨gb219,0,none⟩=some (.int .i64 a0_0):=(blk_cell BK219.out 0).trans rfl;have hcz15_1:w14.cell? ⟨gb219,1,none⟩=some (.int .i64 a0_1):=(blk_cell BK219.out 1).trans rfl;have hcz15_2:w14.cell? ⟨gb219,2,none⟩=some (.int .i64 a0_2):=(blk_cell BK219.out 2).trans rfl;have hcz15_3:w14.cell? ⟨gb219,3,none⟩=some (.int .i64 a0_3):=(blk_cell BK219.out 3).trans rfl;have hcz15_4:w14.cell? ⟨gb219,4,none⟩=some (.int .i64 a0_4):=(blk_cell BK219.out 4).trans rfl;have hfz15_0:=blk_frozen BK219.out 0;have hfz15_1:=blk_frozen BK219.out 1;have hfz15_2:=blk_frozen BK219.out 2;have hfz15_3:=blk_frozen BK219.out 3;have hfz15_4:=blk_frozen BK219.out 4)|((with_reducible refine gate_callee (f:=146) rfl ?_);refine goesA (some 7) rfl rfl Try.func146 #[.int .i64 a0_0,.int .i64 a0_1] rfl ?_;(with_reducible refine(impl_areUnlike.calls a0_0 a0_1 true _ A2.out).mono ?_);rintro e w' ⟨rfl,⟨nd,rfl⟩⟩;refine⟨_,rfl,?_⟩)|(go_at_call 79;(with_reducible refine(impl_within.calls a0_4 0 100 t221 _ A13.out).mono ?_);rintro e w' ⟨rfl,⟨nd,rfl⟩⟩))
     go_ret
     exact⟨bE,bS GE219.out⟩
 ·replace c3:=Bool.eq_false_iff.mpr c3
  subst c3
  have H1:(some true)=some r:=by rw[if_neg (show ¬ (false=true) by decide)] at H;exact H
  clear H
  have H:=H1
  clear H1
  obtain rfl:=Option.some.inj H
  go_enter Try.func145,Try.ntmps145
  go_wp2_with (first|((with_reducible refine gate_dst (N:=1) rfl ?_);refine box_event ?hg (N:=1) ?hd (cs:=#[.int .i64 a0_0,.int .i64 a0_1,.int .i64 a0_2,.int .i64 a0_3,.int .i64 a0_4]) (t:=104) ?hr ?_;(case hd=>rfl);(case hg=>rfl);(case hr=>first|(go_simp;done)|(go_simp;rfl));intro gb219 hg w16 hbox hb;have n0_:=Aside0.mk (below_step (bB) hb);have n1_:=Aside0.mk (hbox);have n2_:=Aside0.mk ((bG:w.heap.size≤gb219));have n3_:=Aside0.mk ((bG:w.heap.size≤gb219));clear HB;have HB:=n0_;have BK219:=n1_;have GW219:=n2_;have GE219:=n3_;clear n0_ n1_ n2_ n3_;clear hb hbox hg;have hcz17_0:w16.cell? ⟨gb219,0,none⟩=some (.int .i64 a0_0):=(blk_cell BK219.out 0).trans rfl;have hcz17_1:w16.cell? ⟨gb219,1,none⟩=some (.int .i64 a0_1):=(blk_cell BK219.out 1).trans rfl;have hcz17_2:w16.cell? ⟨gb219,2,none⟩=some (.int .i64 a0_2):=(blk_cell BK219.out 2).trans rfl;have hcz17_3:w16.cell? ⟨gb219,3,none⟩=some (.int .i64 a0_3):=(blk_cell BK219.out 3).trans rfl;have hcz17_4:w16.cell? ⟨gb219,4,none⟩=some (.int .i64 a0_4):=(blk_cell BK219.out 4).trans rfl;have hfz17_0:=blk_frozen BK219.out 0;have hfz17_1:=blk_frozen BK219.out 1;have hfz17_2:=blk_frozen BK219.out 2;have hfz17_3:=blk_frozen BK219.out 3;have hfz17_4:=blk_frozen BK219.out 4)|((with_reducible refine gate_callee (f:=146) rfl ?_);refine goesA (some 7) rfl rfl Try.func146 #[.int .i64 a0_0,.int .i64 a0_1] rfl ?_;(with_reducible refine(impl_areUnlike.calls a0_0 a0_1 false _ A2.out).mono ?_);rintro e w' ⟨rfl,⟨nd,rfl⟩⟩;refine⟨_,rfl,?_⟩))
  go_ret
  exact⟨bE,bS GE219.out⟩

/-! ### impl_Contact_impl_GoodPlan_lit1_2: function 169 -/
def impl_Contact_impl_GoodPlan_lit1_2.l0:Nat→List (S104)→Int→Int→Option (Int)
 | 0,_,_,_=>none
 | k+1,x0,x7,x8=>if x8 < x7 then (if 0≤x8 then (if x8 < (x0.length:Int) then ((impl_GoodPlan_lit1.f ((rd_T104 x0 x8).f0) ((rd_T104 x0 x8).f1) ((rd_T104 x0 x8).f2) ((rd_T104 x0 x8).f3) ((rd_T104 x0 x8).f4)).bind fun t223=>(if t223=true then (some x8) else (impl_Contact_impl_GoodPlan_lit1_2.l0 k x0 x7 (wrap64 (x8+1))))) else (none)) else (none)) else (some (-1))
def impl_Contact_impl_GoodPlan_lit1_2.f (k:Nat) (l0:List (S104))  : Option (Int):=impl_Contact_impl_GoodPlan_lit1_2.l0 k l0 (l0.length:Int) 0
theorem impl_Contact_impl_GoodPlan_lit1_2.mono_l : ∀ k,(∀ y0 y1 y2,LeO (impl_Contact_impl_GoodPlan_lit1_2.l0 k y0 y1 y2) (impl_Contact_impl_GoodPlan_lit1_2.l0 (k+1) y0 y1 y2))
 | 0=>fun _ _ _ r h=>by simp[impl_Contact_impl_GoodPlan_lit1_2.l0] at h
 | k+1=>by
  have ih0:=impl_Contact_impl_GoodPlan_lit1_2.mono_l k
  ·intro y0 y1 y2
   unfold impl_Contact_impl_GoodPlan_lit1_2.l0
   repeat' first
   | (with_reducible exact ih0 _ _ _)
   | (with_reducible exact LeO.refl _)
   | (with_reducible exact LeO.none _)
   | (with_reducible refine LeO.ite ?_ ?_)
   | (with_reducible refine LeO.bind ?_ (fun _ => ?_))
   | exact ih0 _ _ _
   | exact LeO.none _
   | refine LeO.ite ?_ ?_
   | refine LeO.bind ?_ (fun _ => ?_)
theorem impl_Contact_impl_GoodPlan_lit1_2.mono : ∀ a0 k,LeO (impl_Contact_impl_GoodPlan_lit1_2.f k a0) (impl_Contact_impl_GoodPlan_lit1_2.f (k+1) a0):=by
 intro a0 k
 have ih0:=impl_Contact_impl_GoodPlan_lit1_2.mono_l k
 unfold impl_Contact_impl_GoodPlan_lit1_2.f
 repeat' first
  | (with_reducible exact ih0 _ _ _)
  | (with_reducible exact LeO.refl _)
  | (with_reducible exact LeO.none _)
  | (with_reducible refine LeO.ite ?_ ?_)
  | (with_reducible refine LeO.bind ?_ (fun _ => ?_))
  | exact ih0 _ _ _
  | exact LeO.none _
  | refine LeO.ite ?_ ?_
  | refine LeO.bind ?_ (fun _ => ?_)
set_option maxHeartbeats 8000000 in
set_option maxRecDepth 100000 in
theorem impl_Contact_impl_GoodPlan_lit1_2.calls (k:Nat) (A0:Option Addr) (c0:Nat) (l0:List (S104))  (r:Int) (w:World) (hr0:Kd.C k104 w A0 l0.length l0) (hc0:l0.length≤c0) (h:impl_Contact_impl_GoodPlan_lit1_2.f k l0=some r) :
  Calls Try.prog 169 #[.slice A0 l0.length c0,(.func (.func 145) #[] #[])] w fun e w'=>e=.returned (.int .i64 r)∧Below w.heap.size w w':=by
 have hu104:=Try.underlying104
 have HR0:=Aside0.mk hr0
 have HC0:=Aside0.mk hc0
 clear hr0 hc0
 have HB:=Aside0.mk (Below.refl w.heap.size w)
 have H:(impl_Contact_impl_GoodPlan_lit1_2.l0 k l0 (l0.length:Int) 0)=some r:=h
 clear h
 have H':=Aside0.mk H
 clear H
 go_enter Try.func169,Try.ntmps169
 go_wp2
 go_loopg [8] k (fun kq v8 w' => ∃ (x8_1:Int),v8=.int .i64 x8_1∧Aside0 (impl_Contact_impl_GoodPlan_lit1_2.l0 kq l0 (l0.length:Int) x8_1=some r)∧Aside0 (kq≤k)∧Aside0 (Below w.heap.size w w'))
 case atStart=>exact⟨(0),(bR),H',⟨Nat.le_refl _⟩,⟨by repeat (first|(with_reducible first|exact HB.out|apply below_alloc|apply pw_below_drewN|apply below_drew1)|exact HB.out)⟩⟩
 case round =>
  clear H'
  try clear p2
  obtain⟨x8_1,rfl,HA,HK1,HB⟩:=hrel
  cases gk with
  | zero=>exact absurd HA.out (by simp[impl_Contact_impl_GoodPlan_lit1_2.l0])
  | succ k1 =>
   have H:=HA.out
   clear HA
   simp only[impl_Contact_impl_GoodPlan_lit1_2.l0] at H
   by_cases c3:x8_1 < (l0.length:Int)
   ·rw[if_pos c3] at H
    have c3b0:decide (x8_1 < (l0.length:Int))=true:=decide_eq_true c3
    clear c3
    by_cases c4:0≤x8_1
    ·rw[if_pos c4] at H
     have c4b0:decide (0≤x8_1)=true:=decide_eq_true c4
     clear c4
     by_cases c5:x8_1 < (l0.length:Int)
     ·rw[if_pos c5] at H
      have c5b0:decide (x8_1 < (l0.length:Int))=true:=decide_eq_true c5
      clear c5
      replace H:=Option.bind_eq_some_iff.mp H
      obtain⟨t223,A60,H⟩:=H
      have A6:=Aside0.mk A60
      clear A60
      by_cases c7:t223=true
      ·subst c7
       have H1:(some x8_1)=some r:=by rw[if_pos rfl] at H;exact H
       clear H
       have H:=H1
       clear H1
       obtain rfl:=Option.some.inj H
       have p222:0≤(x8_1:Int):=of_decide_eq_true (bD)
       have q222:x8_1 < (l0.length:Int):=of_decide_eq_true (bD)
       obtain⟨ad222,e222,hx222_0,hx222_1,hx222_2,hx222_3,hx222_4⟩:=at_T104 HR0.out x8_1 p222 q222
       cases e222
       replace hx222_0:=(HB.out.cell (World.block_lt_of_cell? w _ hx222_0)).trans hx222_0
       replace hx222_1:=(HB.out.cell (World.block_lt_of_cell? w _ hx222_1)).trans hx222_1
       replace hx222_2:=(HB.out.cell (World.block_lt_of_cell? w _ hx222_2)).trans hx222_2
       replace hx222_3:=(HB.out.cell (World.block_lt_of_cell? w _ hx222_3)).trans hx222_3
       replace hx222_4:=(HB.out.cell (World.block_lt_of_cell? w _ hx222_4)).trans hx222_4
       replace p222:=eq_true p222
       replace q222:=eq_true q222
       go_wp2_with (first|(go_at_call 145;(with_reducible refine(impl_GoodPlan_lit1.calls ((rd_T104 l0 x8_1).f0) ((rd_T104 l0 x8_1).f1) ((rd_T104 l0 x8_1).f2) ((rd_T104 l0 x8_1).f3) ((rd_T104 l0 x8_1).f4) true _ A6.out).mono ?_);rintro e w8 ⟨rfl,hb⟩;have n0_:=Aside0.mk (below_step (bB) hb);clear HB;have HB:=n0_;clear n0_;(try clear hb);(try clear hb2);(try clear hk);(try clear hi)))
       go_ret
       exact⟨bE,bB⟩
      ·replace c7:=Bool.eq_false_iff.mpr c7
       subst c7
       have H1:(impl_Contact_impl_GoodPlan_lit1_2.l0 k1 l0 (l0.length:Int) (wrap64 (x8_1+1)))=some r:=by rw[if_neg (show ¬ (false=true) by decide)] at H;exact H
       clear H
       have H:=H1
       clear H1
       have H':=Aside0.mk H
       clear H
       have p222:0≤(x8_1:Int):=of_decide_eq_true (bD)
       have q222:x8_1 < (l0.length:Int):=of_decide_eq_true (bD)
       obtain⟨ad222,e222,hx222_0,hx222_1,hx222_2,hx222_3,hx222_4⟩:=at_T104 HR0.out x8_1 p222 q222
       cases e222
       replace hx222_0:=(HB.out.cell (World.block_lt_of_cell? w _ hx222_0)).trans hx222_0
       replace hx222_1:=(HB.out.cell (World.block_lt_of_cell? w _ hx222_1)).trans hx222_1
       replace hx222_2:=(HB.out.cell (World.block_lt_of_cell? w _ hx222_2)).trans hx222_2
       replace hx222_3:=(HB.out.cell (World.block_lt_of_cell? w _ hx222_3)).trans hx222_3
       replace hx222_4:=(HB.out.cell (World.block_lt_of_cell? w _ hx222_4)).trans hx222_4
       replace p222:=eq_true p222
       replace q222:=eq_true q222
       go_wp2_with (first|(go_at_call 145;(with_reducible refine(impl_GoodPlan_lit1.calls ((rd_T104 l0 x8_1).f0) ((rd_T104 l0 x8_1).f1) ((rd_T104 l0 x8_1).f2) ((rd_T104 l0 x8_1).f3) ((rd_T104 l0 x8_1).f4) false _ A6.out).mono ?_);rintro e w9 ⟨rfl,hb⟩;have n0_:=Aside0.mk (below_step (bB) hb);clear HB;have HB:=n0_;clear n0_;(try clear hb);(try clear hb2);(try clear hk);(try clear hi)))
       go_roundg k1
       case measure=>have:=HK1.out;omega
       case rel=>exact⟨(wrap64 (x8_1+1)),(bR),H',⟨by have:=HK1.out;omega⟩,⟨by repeat (first|(with_reducible first|exact HB.out|apply below_alloc|apply pw_below_drewN|apply below_drew1)|exact HB.out)⟩⟩
     ·rw[if_neg c5] at H
      exact absurd H (by simp)
    ·rw[if_neg c4] at H
     exact absurd H (by simp)
   ·rw[if_neg c3] at H
    have c3b0:decide (x8_1 < (l0.length:Int))=false:=decide_eq_false c3
    clear c3
    obtain rfl:=Option.some.inj H
    go_wp2
    go_ret
    exact⟨bE,bB⟩

/-! ### impl_Contact_impl_GoodPlan_lit1: function 144 -/
def impl_Contact_impl_GoodPlan_lit1.f (k:Nat) (l0:List (S104))  : Option (Bool):=(impl_Contact_impl_GoodPlan_lit1_2.f k l0).bind fun t224=>(some (decide (t224 ≥ 0)))
theorem impl_Contact_impl_GoodPlan_lit1.mono : ∀ a0 k,LeO (impl_Contact_impl_GoodPlan_lit1.f k a0) (impl_Contact_impl_GoodPlan_lit1.f (k+1) a0):=by
 intro a0 k
 unfold impl_Contact_impl_GoodPlan_lit1.f
 repeat' first
  | (with_reducible exact impl_Contact_impl_GoodPlan_lit1_2.mono _ _)
  | (with_reducible exact LeO.refl _)
  | (with_reducible exact LeO.none _)
  | (with_reducible refine LeO.ite ?_ ?_)
  | (with_reducible refine LeO.bind ?_ (fun _ => ?_))
  | exact impl_Contact_impl_GoodPlan_lit1_2.mono _ _
  | exact LeO.none _
  | refine LeO.ite ?_ ?_
  | refine LeO.bind ?_ (fun _ => ?_)
set_option maxHeartbeats 8000000 in
set_option maxRecDepth 100000 in
theorem impl_Contact_impl_GoodPlan_lit1.calls (k:Nat) (A0:Option Addr) (c0:Nat) (l0:List (S104))  (r:Bool) (w:World) (hr0:Kd.C k104 w A0 l0.length l0) (hc0:l0.length≤c0) (h:impl_Contact_impl_GoodPlan_lit1.f k l0=some r) :
  Calls Try.prog 144 #[.slice A0 l0.length c0,(.func (.func 145) #[] #[])] w fun e w'=>e=.returned (.bool r)∧Below w.heap.size w w':=by
 have HR0:=Aside0.mk hr0
 have HC0:=Aside0.mk hc0
 clear hr0 hc0
 have HB:=Aside0.mk (Below.refl w.heap.size w)
 have H:((impl_Contact_impl_GoodPlan_lit1_2.f k l0).bind fun t224=>(some (decide (t224 ≥ 0))))=some r:=h
 clear h
 replace H:=Option.bind_eq_some_iff.mp H
 obtain⟨t224,A30,H⟩:=H
 have A3:=Aside0.mk A30
 clear A30
 obtain rfl:=Option.some.inj H
 go_enter Try.func144,Try.ntmps144
 go_wp2_with (first|((with_reducible refine gate_callee (f:=169) rfl ?_);refine goesA (some 7) rfl rfl Try.func169 #[.slice A0 l0.length c0,(.func (.func 145) #[] #[])] rfl ?_;(with_reducible refine(impl_Contact_impl_GoodPlan_lit1_2.calls k _ _ l0  t224 _ ?side1 ?side2 A3.out).mono ?_);(case side1=>repeat (first|exact HR0.out|(with_reducible refine Kd.C_alloc ?_ _)|(with_reducible refine Kd.C_drewN ?_ _)|(with_reducible refine Kd.C_drew ?_)));(case side2=>exact HC0.out);rintro e w4 ⟨rfl,hb⟩;refine⟨_,rfl,?_⟩;have n0_:=Aside0.mk (below_step (bB) hb);clear HB;have HB:=n0_;clear n0_;(try clear hb);(try clear hb2);(try clear hk);(try clear hi)))
 go_ret
 exact⟨bE,bB⟩

/-! ### impl_GoodPlan: function 88 -/
def impl_GoodPlan.f (k:Nat) (l0:List (S104)):Option (Bool):=if (l0.length:Int)≤20 then ((impl_Contact_impl_GoodPlan_lit1.f k l0).bind fun t225=>(some (!t225))) else (some false)
theorem impl_GoodPlan.mono : ∀ a0 k,LeO (impl_GoodPlan.f k a0) (impl_GoodPlan.f (k+1) a0):=by
 intro a0 k
 unfold impl_GoodPlan.f
 repeat' first
  | (with_reducible exact impl_Contact_impl_GoodPlan_lit1.mono _ _)
  | (with_reducible exact LeO.refl _)
  | (with_reducible exact LeO.none _)
  | (with_reducible refine LeO.ite ?_ ?_)
  | (with_reducible refine LeO.bind ?_ (fun _ => ?_))
  | exact impl_Contact_impl_GoodPlan_lit1.mono _ _
  | exact LeO.none _
  | refine LeO.ite ?_ ?_
  | refine LeO.bind ?_ (fun _ => ?_)
set_option maxHeartbeats 8000000 in
set_option maxRecDepth 100000 in
theorem impl_GoodPlan.calls (k:Nat) (A0:Option Addr) (c0:Nat) (l0:List (S104)) (r:Bool) (w:World) (hr0:Kd.C k104 w A0 l0.length l0) (hc0:l0.length≤c0) (h:impl_GoodPlan.f k l0=some r) :
  Calls Try.prog 88 #[.slice A0 l0.length c0] w fun e w'=>e=.returned (.bool r)∧Below w.heap.size w w':=by
 have HR0:=Aside0.mk hr0
 have HC0:=Aside0.mk hc0
 clear hr0 hc0
 have HB:=Aside0.mk (Below.refl w.heap.size w)
 have H:(if (l0.length:Int)≤20 then ((impl_Contact_impl_GoodPlan_lit1.f k l0).bind fun t225=>(some (!t225))) else (some false))=some r:=h
 clear h
 by_cases c2:(l0.length:Int)≤20
 ·rw[if_pos c2] at H
  have c2b0:decide ((l0.length:Int)≤20)=true:=decide_eq_true c2
  have c2b1:decide (l0.length≤20)=true:=decide_eq_true (by omega)
  clear c2
  replace H:=Option.bind_eq_some_iff.mp H
  obtain⟨t225,A30,H⟩:=H
  have A3:=Aside0.mk A30
  clear A30
  obtain rfl:=Option.some.inj H
  go_enter Try.func88,Try.ntmps88
  go_wp2_with (first|(go_at_call 144;(with_reducible refine(impl_Contact_impl_GoodPlan_lit1.calls k _ _ l0  t225 _ ?side1 ?side2 A3.out).mono ?_);(case side1=>repeat (first|exact HR0.out|(with_reducible refine Kd.C_alloc ?_ _)|(with_reducible refine Kd.C_drewN ?_ _)|(with_reducible refine Kd.C_drew ?_)));(case side2=>exact HC0.out);rintro e w4 ⟨rfl,hb⟩;have n0_:=Aside0.mk (below_step (bB) hb);clear HB;have HB:=n0_;clear n0_;(try clear hb);(try clear hb2);(try clear hk);(try clear hi)))
  go_ret
  exact⟨bE,bB⟩
 ·rw[if_neg c2] at H
  have c2b0:decide ((l0.length:Int)≤20)=false:=decide_eq_false c2
  have c2b1:decide (l0.length≤20)=false:=decide_eq_false (by omega)
  clear c2
  obtain rfl:=Option.some.inj H
  go_enter Try.func88,Try.ntmps88
  go_wp2
  go_ret
  exact⟨bE,bB⟩

/-! ### impl_isWhen: function 90 -/
def impl_isWhen.f (a0:Int):Option (Bool):=(impl_within.f a0 0 1000).bind fun t226=>(some t226)
set_option maxHeartbeats 8000000 in
set_option maxRecDepth 100000 in
theorem impl_isWhen.calls (a0:Int) (r:Bool) (w:World) (h:impl_isWhen.f a0=some r) :
  Calls Try.prog 90 #[.int .i64 a0] w fun e w'=>e=.returned (.bool r)∧Drawn0 w w':=by
 have H:((impl_within.f a0 0 1000).bind fun t226=>(some t226))=some r:=h
 clear h
 replace H:=Option.bind_eq_some_iff.mp H
 obtain⟨t226,A20,H⟩:=H
 have A2:=Aside0.mk A20
 clear A20
 obtain rfl:=Option.some.inj H
 go_enter Try.func90,Try.ntmps90
 go_wp2_with (first|((with_reducible refine gate_callee (f:=79) rfl ?_);refine goesA (some 4) rfl rfl Try.func79 #[.int .i64 a0,.int .i64 0,.int .i64 1000] rfl ?_;(with_reducible refine(impl_within.calls a0 0 1000 t226 _ A2.out).mono ?_);rintro e w' ⟨rfl,⟨nd,rfl⟩⟩;refine⟨_,rfl,?_⟩))
 go_ret
 exact⟨bR,bW⟩

end Go.Proofs.Yteneeohaoplpbaa.XFnExactFollowPlan
