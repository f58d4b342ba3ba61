-- Written by this session's own program (wip/xprint.py) out of the translation; Lean checks it.
import Derived.Test.YteneeohaoplpbaaXFnExactDeliveredByx0
import Derived.Test.YteneeohaoplpbaaXFnExactDeliveredByx2
import Derived.Test.YteneeohaoplpbaaXFnExactDeliveredByx3
import Derived.Test.YteneeohaoplpbaaXFnExactDeliveredByx5
namespace Go.Proofs.Yteneeohaoplpbaa.XFnExactDeliveredBy
open Go.RowKit Go.Proofs.YteneeohaoplpbaaW.PrintWords Go.Proofs.YteneeohaoplpbaaW.PrintLast Go.Proofs.YteneeohaoplpbaaW.PrintMore
attribute [local go_sem] max2_int min2_int max_two min_two max_three min_three max_four min_four   -- for this text's walks alone
set_option linter.unusedVariables false
set_option linter.unusedSimpArgs false

/-! ### spec_DeliveredBy: function 59 -/
mutual
def spec_DeliveredBy.j0:Nat→List (S104)→List Int→Int→Bool→Int→Int→Bool→Int→Int→Int→Int→Int→Int→ByteArray→Option (List Int × Bool)
 | 0,_,_,_,_,_,_,_,_,_,_,_,_,_,_=>none
 | k+1,x0,x2,x3,x22,x214000,x214001,x214002,x214003,x214004,x214005,x214006,x214007,x214008,x214009=>if x22=true then (some (([]:List Int),false)) else ((spec_l17Reach.f k x0 x214000 x214001 x214002 x214003 x214004 x214005 x214006 x214007 x214008 x214009 x2).bind fun t216=>(spec_DeliveredBy.l0 k x3 ([]:List Int) t216 (t216.length:Int) 0))
def spec_DeliveredBy.l0:Nat→Int→List Int→List (S157)→Int→Int→Option (List Int × Bool)
 | 0,_,_,_,_,_=>none
 | k+1,x3,x10,x26,x27,x28=>if x28 < x27 then (if 0≤x28 then (if x28 < (x26.length:Int) then (if ((rd_T157 x26 x28).f1)≤x3 then (if x10.length < 17592186044416 then (spec_DeliveredBy.l0 k x3 (x10++[(rd_T157 x26 x28).f0]) x26 x27 (wrap64 (x28+1))) else (none)) else (spec_DeliveredBy.l0 k x3 x10 x26 x27 (wrap64 (x28+1)))) else (none)) else (none)) else (some (x10,true))
end
def spec_DeliveredBy.f (k:Nat) (l0:List (S104)) (a1_0:Int) (a1_1:Int) (a1_2:Bool) (a1_3:Int) (a1_4:Int) (a1_5:Int) (a1_6:Int) (a1_7:Int) (a1_8:Int) (a1_9:ByteArray) (l2:List Int) (a3:Int):Option (List Int × Bool):=(spec_l17Ask.f k l0 a1_0 a1_1 a1_2 a1_3 a1_4 a1_5 a1_6 a1_7 a1_8 a1_9 l2).bind fun t214=>(if t214=true then ((spec_l1In.f a3 0 2000).bind fun t215=>(spec_DeliveredBy.j0 k l0 l2 a3 (!t215) a1_0 a1_1 a1_2 a1_3 a1_4 a1_5 a1_6 a1_7 a1_8 a1_9)) else (spec_DeliveredBy.j0 k l0 l2 a3 true a1_0 a1_1 a1_2 a1_3 a1_4 a1_5 a1_6 a1_7 a1_8 a1_9))
theorem spec_DeliveredBy.mono_l : ∀ k,(∀ y0 y1 y2 y3 y4 y5 y6 y7 y8 y9 y10 y11 y12 y13,LeO (spec_DeliveredBy.j0 k y0 y1 y2 y3 y4 y5 y6 y7 y8 y9 y10 y11 y12 y13) (spec_DeliveredBy.j0 (k+1) y0 y1 y2 y3 y4 y5 y6 y7 y8 y9 y10 y11 y12 y13))∧(∀ y0 y1 y2 y3 y4,LeO (spec_DeliveredBy.l0 k y0 y1 y2 y3 y4) (spec_DeliveredBy.l0 (k+1) y0 y1 y2 y3 y4))
 | 0=>⟨fun _ _ _ _ _ _ _ _ _ _ _ _ _ _ r h=>by simp[spec_DeliveredBy.j0] at h,fun _ _ _ _ _ r h=>by simp[spec_DeliveredBy.l0] at h⟩
 | k+1=>by
  obtain⟨ih0,ih1⟩:=spec_DeliveredBy.mono_l k
  refine⟨?_,?_⟩
  ·intro y0 y1 y2 y3 y4 y5 y6 y7 y8 y9 y10 y11 y12 y13
   unfold spec_DeliveredBy.j0
   repeat' first
   | (with_reducible exact ih0 _ _ _ _ _ _ _ _ _ _ _ _ _ _)
   | (with_reducible exact ih1 _ _ _ _ _)
   | (with_reducible exact spec_l17Ask.mono _ _ _ _ _ _ _ _ _ _ _ _ _)
   | (with_reducible exact spec_l17Reach.mono _ _ _ _ _ _ _ _ _ _ _ _ _)
   | (with_reducible exact LeO.refl _)
   | (with_reducible exact LeO.none _)
   | (with_reducible refine LeO.ite ?_ ?_)
   | (with_reducible refine LeO.bind ?_ (fun _ => ?_))
   | exact ih0 _ _ _ _ _ _ _ _ _ _ _ _ _ _
   | exact ih1 _ _ _ _ _
   | exact spec_l17Ask.mono _ _ _ _ _ _ _ _ _ _ _ _ _
   | exact spec_l17Reach.mono _ _ _ _ _ _ _ _ _ _ _ _ _
   | exact LeO.none _
   | refine LeO.ite ?_ ?_
   | refine LeO.bind ?_ (fun _ => ?_)
  ·intro y0 y1 y2 y3 y4
   unfold spec_DeliveredBy.l0
   repeat' first
   | (with_reducible exact ih0 _ _ _ _ _ _ _ _ _ _ _ _ _ _)
   | (with_reducible exact ih1 _ _ _ _ _)
   | (with_reducible exact spec_l17Ask.mono _ _ _ _ _ _ _ _ _ _ _ _ _)
   | (with_reducible exact spec_l17Reach.mono _ _ _ _ _ _ _ _ _ _ _ _ _)
   | (with_reducible exact LeO.refl _)
   | (with_reducible exact LeO.none _)
   | (with_reducible refine LeO.ite ?_ ?_)
   | (with_reducible refine LeO.bind ?_ (fun _ => ?_))
   | exact ih0 _ _ _ _ _ _ _ _ _ _ _ _ _ _
   | exact ih1 _ _ _ _ _
   | exact spec_l17Ask.mono _ _ _ _ _ _ _ _ _ _ _ _ _
   | exact spec_l17Reach.mono _ _ _ _ _ _ _ _ _ _ _ _ _
   | exact LeO.none _
   | refine LeO.ite ?_ ?_
   | refine LeO.bind ?_ (fun _ => ?_)
theorem spec_DeliveredBy.mono : ∀ a0 a1 a2 a3 a4 a5 a6 a7 a8 a9 a10 a11 a12 k,LeO (spec_DeliveredBy.f k a0 a1 a2 a3 a4 a5 a6 a7 a8 a9 a10 a11 a12) (spec_DeliveredBy.f (k+1) a0 a1 a2 a3 a4 a5 a6 a7 a8 a9 a10 a11 a12):=by
 intro a0 a1 a2 a3 a4 a5 a6 a7 a8 a9 a10 a11 a12 k
 obtain⟨ih0,ih1⟩:=spec_DeliveredBy.mono_l k
 unfold spec_DeliveredBy.f
 repeat' first
  | (with_reducible exact ih0 _ _ _ _ _ _ _ _ _ _ _ _ _ _)
  | (with_reducible exact ih1 _ _ _ _ _)
  | (with_reducible exact spec_l17Ask.mono _ _ _ _ _ _ _ _ _ _ _ _ _)
  | (with_reducible exact spec_l17Reach.mono _ _ _ _ _ _ _ _ _ _ _ _ _)
  | (with_reducible exact LeO.refl _)
  | (with_reducible exact LeO.none _)
  | (with_reducible refine LeO.ite ?_ ?_)
  | (with_reducible refine LeO.bind ?_ (fun _ => ?_))
  | exact ih0 _ _ _ _ _ _ _ _ _ _ _ _ _ _
  | exact ih1 _ _ _ _ _
  | exact spec_l17Ask.mono _ _ _ _ _ _ _ _ _ _ _ _ _
  | exact spec_l17Reach.mono _ _ _ _ _ _ _ _ _ _ _ _ _
  | exact LeO.none _
  | refine LeO.ite ?_ ?_
  | refine LeO.bind ?_ (fun _ => ?_)
set_option maxHeartbeats 8000000 in
set_option maxRecDepth 100000 in
theorem spec_DeliveredBy.calls (k:Nat) (A0:Option Addr) (c0:Nat) (l0:List (S104)) (a1_0:Int) (a1_1:Int) (a1_2:Bool) (a1_3:Int) (a1_4:Int) (a1_5:Int) (a1_6:Int) (a1_7:Int) (a1_8:Int) (a1_9:ByteArray) (A2:Option Addr) (c2:Nat) (l2:List Int) (a3:Int) (r1:List Int) (r2:Bool) (w:World) (hr0:Kd.C k104 w A0 l0.length l0) (hc0:l0.length≤c0) (hr2:Kd.C (Kd.int .i64) w A2 l2.length l2) (hc2:l2.length≤c2) (h:spec_DeliveredBy.f k l0 a1_0 a1_1 a1_2 a1_3 a1_4 a1_5 a1_6 a1_7 a1_8 a1_9 l2 a3=some (r1,r2)) :
  Calls Try.prog 59 #[.slice A0 l0.length c0,.agg #[.int .i64 a1_0,.int .i64 a1_1,.bool a1_2,.int .i64 a1_3,.int .i64 a1_4,.int .i64 a1_5,.int .i64 a1_6,.int .i64 a1_7,.int .i64 a1_8,.string a1_9],.slice A2 l2.length c2,.int .i64 a3] w fun e w' => ∃ v0_:Value,e=.returned (.tuple #[v0_,.bool r2])∧Kd.R (Kd.int .i64) 3 w' w.heap.size (fun _=>True) v0_ r1∧Below w.heap.size w w':=by
 have hu86:=Try.underlying86
 have hu157:=Try.underlying157
 have HR0:=Aside0.mk hr0
 have HC0:=Aside0.mk hc0
 clear hr0 hc0
 have HR2:=Aside0.mk hr2
 have HC2:=Aside0.mk hc2
 clear hr2 hc2
 have HB:=Aside0.mk (Below.refl w.heap.size w)
 have H:((spec_l17Ask.f k l0 a1_0 a1_1 a1_2 a1_3 a1_4 a1_5 a1_6 a1_7 a1_8 a1_9 l2).bind fun t214=>(if t214=true then ((spec_l1In.f a3 0 2000).bind fun t215=>(spec_DeliveredBy.j0 k l0 l2 a3 (!t215) a1_0 a1_1 a1_2 a1_3 a1_4 a1_5 a1_6 a1_7 a1_8 a1_9)) else (spec_DeliveredBy.j0 k l0 l2 a3 true a1_0 a1_1 a1_2 a1_3 a1_4 a1_5 a1_6 a1_7 a1_8 a1_9)))=some (r1,r2):=h
 clear h
 have HC5:=Aside0.mk H
 clear H
 go_enter Try.func59,Try.ntmps59
 go_upto_region 1 with (first|((with_reducible refine gate_dst (N:=5) rfl ?_);refine box_event ?hg (N:=5) ?hd (cs:=#[.int .i64 a1_0,.int .i64 a1_1,.bool a1_2,.int .i64 a1_3,.int .i64 a1_4,.int .i64 a1_5,.int .i64 a1_6,.int .i64 a1_7,.int .i64 a1_8,.string a1_9]) (t:=86) ?hr ?_;(case hd=>rfl);(case hg=>rfl);(case hr=>first|(go_simp;done)|(go_simp;rfl));intro gb213 hg w6 hbox hb;have n0_:=Aside0.mk (below_step (bB) hb);have n1_:=Aside0.mk (hbox);have n2_:=Aside0.mk ((bG:w.heap.size≤gb213));have n3_:=Aside0.mk ((bG:w.heap.size≤gb213));clear HB;have HB:=n0_;have BK213:=n1_;have GW213:=n2_;have GE213:=n3_;clear n0_ n1_ n2_ n3_;clear hb hbox hg))
 (try simp only[Act.put,List.setIfInBounds_toArray,List.set_cons_zero,List.set_cons_succ])
 go_cut [22] (fun v22 wc => ∃ (kq:Nat) (x22_4:Bool),v22=.bool x22_4∧Aside0 (spec_DeliveredBy.j0 kq l0 l2 a3 x22_4 a1_0 a1_1 a1_2 a1_3 a1_4 a1_5 a1_6 a1_7 a1_8 a1_9=some (r1,r2))∧Aside0 (kq≤k)∧Aside0 (wc.heap[gb213]?=some (.cells #[.int .i64 a1_0,.int .i64 a1_1,.bool a1_2,.int .i64 a1_3,.int .i64 a1_4,.int .i64 a1_5,.int .i64 a1_6,.int .i64 a1_7,.int .i64 a1_8,.string a1_9] 86 (0,0)))∧Aside0 (Below w.heap.size w wc))
 case first =>
  have H:=HC5.out
  clear HC5
  replace H:=Option.bind_eq_some_iff.mp H
  obtain⟨t214,A70,H⟩:=H
  replace H:(if t214=true then ((spec_l1In.f a3 0 2000).bind fun t215=>(spec_DeliveredBy.j0 k l0 l2 a3 (!t215) a1_0 a1_1 a1_2 a1_3 a1_4 a1_5 a1_6 a1_7 a1_8 a1_9)) else (spec_DeliveredBy.j0 k l0 l2 a3 true a1_0 a1_1 a1_2 a1_3 a1_4 a1_5 a1_6 a1_7 a1_8 a1_9))=some (r1,r2):=H
  have A7:=Aside0.mk A70
  clear A70
  by_cases c8:t214=true
  ·subst c8
   have H1:((spec_l1In.f a3 0 2000).bind fun t215=>(spec_DeliveredBy.j0 k l0 l2 a3 (!t215) a1_0 a1_1 a1_2 a1_3 a1_4 a1_5 a1_6 a1_7 a1_8 a1_9))=some (r1,r2):=by rw[if_pos rfl] at H;exact H
   clear H
   have H:=H1
   clear H1
   replace H:=Option.bind_eq_some_iff.mp H
   obtain⟨t215,A90,H⟩:=H
   replace H:(spec_DeliveredBy.j0 k l0 l2 a3 (!t215) a1_0 a1_1 a1_2 a1_3 a1_4 a1_5 a1_6 a1_7 a1_8 a1_9)=some (r1,r2):=H
   have A9:=Aside0.mk A90
   clear A90
   have H':=Aside0.mk H
   clear H
   have hcz10_0:w6.cell? ⟨gb213,0,none⟩=some (.int .i64 a1_0):=(blk_cell BK213.out 0).trans rfl
   have hcz10_1:w6.cell? ⟨gb213,1,none⟩=some (.int .i64 a1_1):=(blk_cell BK213.out 1).trans rfl
   have hcz10_2:w6.cell? ⟨gb213,2,none⟩=some (.bool a1_2):=(blk_cell BK213.out 2).trans rfl
   have hcz10_3:w6.cell? ⟨gb213,3,none⟩=some (.int .i64 a1_3):=(blk_cell BK213.out 3).trans rfl
   have hcz10_4:w6.cell? ⟨gb213,4,none⟩=some (.int .i64 a1_4):=(blk_cell BK213.out 4).trans rfl
   have hcz10_5:w6.cell? ⟨gb213,5,none⟩=some (.int .i64 a1_5):=(blk_cell BK213.out 5).trans rfl
   have hcz10_6:w6.cell? ⟨gb213,6,none⟩=some (.int .i64 a1_6):=(blk_cell BK213.out 6).trans rfl
   have hcz10_7:w6.cell? ⟨gb213,7,none⟩=some (.int .i64 a1_7):=(blk_cell BK213.out 7).trans rfl
   have hcz10_8:w6.cell? ⟨gb213,8,none⟩=some (.int .i64 a1_8):=(blk_cell BK213.out 8).trans rfl
   have hcz10_9:w6.cell? ⟨gb213,9,none⟩=some (.string a1_9):=(blk_cell BK213.out 9).trans rfl
   have hfz10_0:=blk_frozen BK213.out 0
   have hfz10_1:=blk_frozen BK213.out 1
   have hfz10_2:=blk_frozen BK213.out 2
   have hfz10_3:=blk_frozen BK213.out 3
   have hfz10_4:=blk_frozen BK213.out 4
   have hfz10_5:=blk_frozen BK213.out 5
   have hfz10_6:=blk_frozen BK213.out 6
   have hfz10_7:=blk_frozen BK213.out 7
   have hfz10_8:=blk_frozen BK213.out 8
   have hfz10_9:=blk_frozen BK213.out 9
   go_wp2_with (first|((with_reducible refine gate_callee (f:=123) rfl ?_);refine goesA (some 16) rfl rfl Try.func123 #[.slice A0 l0.length c0,.agg #[.int .i64 a1_0,.int .i64 a1_1,.bool a1_2,.int .i64 a1_3,.int .i64 a1_4,.int .i64 a1_5,.int .i64 a1_6,.int .i64 a1_7,.int .i64 a1_8,.string a1_9],.slice A2 l2.length c2] rfl ?_;(with_reducible refine(spec_l17Ask.calls k _ _ l0 a1_0 a1_1 a1_2 a1_3 a1_4 a1_5 a1_6 a1_7 a1_8 a1_9 _ _ l2 true _ ?side1 ?side2 ?side3 ?side4 A7.out).mono ?_);(case side1=>exact bC HR0.out);(case side2=>exact HC0.out);(case side3=>exact bC HR2.out);(case side4=>exact HC2.out);rintro e w11 ⟨rfl,hb⟩;refine⟨_,rfl,?_⟩;have n0_:=Aside0.mk (blk_below (g:=gb213) (o:=.cells #[.int .i64 a1_0,.int .i64 a1_1,.bool a1_2,.int .i64 a1_3,.int .i64 a1_4,.int .i64 a1_5,.int .i64 a1_6,.int .i64 a1_7,.int .i64 a1_8,.string a1_9] 86 (0,0)) (bL BK213.out) hb);have n1_:=Aside0.mk (below_step (bS GE213.out) hb);clear BK213 HB;have BK213:=n0_;have HB:=n1_;clear n0_ n1_;(try clear hb);(try clear hb2);(try clear hk);(try clear hi))|(go_at_call 75;(with_reducible refine(spec_l1In.calls a3 0 2000 t215 _ A9.out).mono ?_);rintro e w' ⟨rfl,⟨nd,rfl⟩⟩))
   go_meet
   case rel=>exact⟨_,(!t215),(bR),H',⟨by first|omega|exact Nat.le_refl _⟩,⟨by(with_reducible repeat (first|refine blk_drewN ?_ _|refine blk_drew ?_|refine blk_alloc ?_ _));exact BK213.out⟩,⟨bS GE213.out⟩⟩
  ·replace c8:=Bool.eq_false_iff.mpr c8
   subst c8
   have H1:(spec_DeliveredBy.j0 k l0 l2 a3 true a1_0 a1_1 a1_2 a1_3 a1_4 a1_5 a1_6 a1_7 a1_8 a1_9)=some (r1,r2):=by rw[if_neg (show ¬ (false=true) by decide)] at H;exact H
   clear H
   have H:=H1
   clear H1
   have H':=Aside0.mk H
   clear H
   have hcz12_0:w6.cell? ⟨gb213,0,none⟩=some (.int .i64 a1_0):=(blk_cell BK213.out 0).trans rfl
   have hcz12_1:w6.cell? ⟨gb213,1,none⟩=some (.int .i64 a1_1):=(blk_cell BK213.out 1).trans rfl
   have hcz12_2:w6.cell? ⟨gb213,2,none⟩=some (.bool a1_2):=(blk_cell BK213.out 2).trans rfl
   have hcz12_3:w6.cell? ⟨gb213,3,none⟩=some (.int .i64 a1_3):=(blk_cell BK213.out 3).trans rfl
   have hcz12_4:w6.cell? ⟨gb213,4,none⟩=some (.int .i64 a1_4):=(blk_cell BK213.out 4).trans rfl
   have hcz12_5:w6.cell? ⟨gb213,5,none⟩=some (.int .i64 a1_5):=(blk_cell BK213.out 5).trans rfl
   have hcz12_6:w6.cell? ⟨gb213,6,none⟩=some (.int .i64 a1_6):=(blk_cell BK213.out 6).trans rfl
   have hcz12_7:w6.cell? ⟨gb213,7,none⟩=some (.int .i64 a1_7):=(blk_cell BK213.out 7).trans rfl
   have hcz12_8:w6.cell? ⟨gb213,8,none⟩=some (.int .i64 a1_8):=(blk_cell BK213.out 8).trans rfl
   have hcz12_9:w6.cell? ⟨gb213,9,none⟩=some (.string a1_9):=(blk_cell BK213.out 9).trans rfl
   have hfz12_0:=blk_frozen BK213.out 0
   have hfz12_1:=blk_frozen BK213.out 1
   have hfz12_2:=blk_frozen BK213.out 2
   have hfz12_3:=blk_frozen BK213.out 3
   have hfz12_4:=blk_frozen BK213.out 4
   have hfz12_5:=blk_frozen BK213.out 5
   have hfz12_6:=blk_frozen BK213.out 6
   have hfz12_7:=blk_frozen BK213.out 7
   have hfz12_8:=blk_frozen BK213.out 8
   have hfz12_9:=blk_frozen BK213.out 9
   go_wp2_with (first|((with_reducible refine gate_callee (f:=123) rfl ?_);refine goesA (some 16) rfl rfl Try.func123 #[.slice A0 l0.length c0,.agg #[.int .i64 a1_0,.int .i64 a1_1,.bool a1_2,.int .i64 a1_3,.int .i64 a1_4,.int .i64 a1_5,.int .i64 a1_6,.int .i64 a1_7,.int .i64 a1_8,.string a1_9],.slice A2 l2.length c2] rfl ?_;(with_reducible refine(spec_l17Ask.calls k _ _ l0 a1_0 a1_1 a1_2 a1_3 a1_4 a1_5 a1_6 a1_7 a1_8 a1_9 _ _ l2 false _ ?side1 ?side2 ?side3 ?side4 A7.out).mono ?_);(case side1=>exact bC HR0.out);(case side2=>exact HC0.out);(case side3=>exact bC HR2.out);(case side4=>exact HC2.out);rintro e w13 ⟨rfl,hb⟩;refine⟨_,rfl,?_⟩;have n0_:=Aside0.mk (blk_below (g:=gb213) (o:=.cells #[.int .i64 a1_0,.int .i64 a1_1,.bool a1_2,.int .i64 a1_3,.int .i64 a1_4,.int .i64 a1_5,.int .i64 a1_6,.int .i64 a1_7,.int .i64 a1_8,.string a1_9] 86 (0,0)) (bL BK213.out) hb);have n1_:=Aside0.mk (below_step (bS GE213.out) hb);clear BK213 HB;have BK213:=n0_;have HB:=n1_;clear n0_ n1_;(try clear hb);(try clear hb2);(try clear hk);(try clear hi)))
   go_meet
   case rel=>exact⟨_,(true),(bR),H',⟨by first|omega|exact Nat.le_refl _⟩,⟨by(with_reducible repeat (first|refine blk_drewN ?_ _|refine blk_drew ?_|refine blk_alloc ?_ _));exact BK213.out⟩,⟨bS GE213.out⟩⟩
 case rest =>
  clear HC5
  try clear c1
  try clear c2
  try clear p2
  try clear c5
  try clear c8
  try clear c12
  try clear hcz10_0
  try clear hcz10_1
  try clear hcz10_2
  try clear hcz10_3
  try clear hcz10_4
  try clear hcz10_5
  try clear hcz10_6
  try clear hcz10_7
  try clear hcz10_8
  try clear hcz10_9
  try clear hcz12_0
  try clear hcz12_1
  try clear hcz12_2
  try clear hcz12_3
  try clear hcz12_4
  try clear hcz12_5
  try clear hcz12_6
  try clear hcz12_7
  try clear hcz12_8
  try clear hcz12_9
  try clear hfz10_0
  try clear hfz10_1
  try clear hfz10_2
  try clear hfz10_3
  try clear hfz10_4
  try clear hfz10_5
  try clear hfz10_6
  try clear hfz10_7
  try clear hfz10_8
  try clear hfz10_9
  try clear hfz12_0
  try clear hfz12_1
  try clear hfz12_2
  try clear hfz12_3
  try clear hfz12_4
  try clear hfz12_5
  try clear hfz12_6
  try clear hfz12_7
  try clear hfz12_8
  try clear hfz12_9
  obtain⟨kq,x22_4,rfl,HA,HJ4,BK213,HB⟩:=hcut
  cases kq with
  | zero=>exact absurd HA.out (by simp[spec_DeliveredBy.j0])
  | succ kj4 =>
   have H:=HA.out
   clear HA
   simp only[spec_DeliveredBy.j0] at H
   by_cases c14:x22_4=true
   ·subst c14
    have H1:(some (([]:List Int),false))=some (r1,r2):=by rw[if_pos rfl] at H;exact H
    clear H
    have H:=H1
    clear H1
    simp only[Option.some.injEq,Prod.mk.injEq] at H
    obtain⟨rfl,rfl⟩:=H
    go_wp2
    go_ret2
    exact⟨_,by first|rfl|(simp[errW_none,errW_some]<;>rfl)|(simp[*,errW_none,errW_some]<;>rfl),by first|exact Kd.R_nil _ _ _ _ _|exact Kd.N_nil _ _ _ _ _|exact Kd.V_nil _ _ _ _ _|exact Kd.Q_nil _ _ _ _ _|exact Kd.S_nil _ _ _ _ _,bS GE213.out⟩
   ·replace c14:=Bool.eq_false_iff.mpr c14
    subst c14
    have H1:((spec_l17Reach.f kj4 l0 a1_0 a1_1 a1_2 a1_3 a1_4 a1_5 a1_6 a1_7 a1_8 a1_9 l2).bind fun t216=>(spec_DeliveredBy.l0 kj4 a3 ([]:List Int) t216 (t216.length:Int) 0))=some (r1,r2):=by rw[if_neg (show ¬ (false=true) by decide)] at H;exact H
    clear H
    have H:=H1
    clear H1
    replace H:=Option.bind_eq_some_iff.mp H
    obtain⟨t216,A150,H⟩:=H
    replace H:(spec_DeliveredBy.l0 kj4 a3 ([]:List Int) t216 (t216.length:Int) 0)=some (r1,r2):=H
    have A15:=Aside0.mk A150
    clear A150
    have H':=Aside0.mk H
    clear H
    have hcz16_0:wc.cell? ⟨gb213,0,none⟩=some (.int .i64 a1_0):=(blk_cell BK213.out 0).trans rfl
    have hcz16_1:wc.cell? ⟨gb213,1,none⟩=some (.int .i64 a1_1):=(blk_cell BK213.out 1).trans rfl
    have hcz16_2:wc.cell? ⟨gb213,2,none⟩=some (.bool a1_2):=(blk_cell BK213.out 2).trans rfl
    have hcz16_3:wc.cell? ⟨gb213,3,none⟩=some (.int .i64 a1_3):=(blk_cell BK213.out 3).trans rfl
    have hcz16_4:wc.cell? ⟨gb213,4,none⟩=some (.int .i64 a1_4):=(blk_cell BK213.out 4).trans rfl
    have hcz16_5:wc.cell? ⟨gb213,5,none⟩=some (.int .i64 a1_5):=(blk_cell BK213.out 5).trans rfl
    have hcz16_6:wc.cell? ⟨gb213,6,none⟩=some (.int .i64 a1_6):=(blk_cell BK213.out 6).trans rfl
    have hcz16_7:wc.cell? ⟨gb213,7,none⟩=some (.int .i64 a1_7):=(blk_cell BK213.out 7).trans rfl
    have hcz16_8:wc.cell? ⟨gb213,8,none⟩=some (.int .i64 a1_8):=(blk_cell BK213.out 8).trans rfl
    have hcz16_9:wc.cell? ⟨gb213,9,none⟩=some (.string a1_9):=(blk_cell BK213.out 9).trans rfl
    have hfz16_0:=blk_frozen BK213.out 0
    have hfz16_1:=blk_frozen BK213.out 1
    have hfz16_2:=blk_frozen BK213.out 2
    have hfz16_3:=blk_frozen BK213.out 3
    have hfz16_4:=blk_frozen BK213.out 4
    have hfz16_5:=blk_frozen BK213.out 5
    have hfz16_6:=blk_frozen BK213.out 6
    have hfz16_7:=blk_frozen BK213.out 7
    have hfz16_8:=blk_frozen BK213.out 8
    have hfz16_9:=blk_frozen BK213.out 9
    go_wp2_with (first|((with_reducible refine gate_callee (f:=124) rfl ?_);refine goesA (some 26) rfl rfl Try.func124 #[.slice A0 l0.length c0,.agg #[.int .i64 a1_0,.int .i64 a1_1,.bool a1_2,.int .i64 a1_3,.int .i64 a1_4,.int .i64 a1_5,.int .i64 a1_6,.int .i64 a1_7,.int .i64 a1_8,.string a1_9],.slice A2 l2.length c2] rfl ?_;(with_reducible refine(spec_l17Reach.calls kj4 _ _ l0 a1_0 a1_1 a1_2 a1_3 a1_4 a1_5 a1_6 a1_7 a1_8 a1_9 _ _ l2 t216 _ ?side1 ?side2 ?side3 ?side4 A15.out).mono ?_);(case side1=>exact bC HR0.out);(case side2=>exact HC0.out);(case side3=>exact bC HR2.out);(case side4=>exact HC2.out);rintro e w17 ⟨v217,rfl,ho0,hb⟩;refine⟨_,rfl,?_⟩;have n0_:=Aside0.mk (Kd.S_lower ho0 (below_size (bS GE213.out)));have n1_:=Aside0.mk (blk_below (g:=gb213) (o:=.cells #[.int .i64 a1_0,.int .i64 a1_1,.bool a1_2,.int .i64 a1_3,.int .i64 a1_4,.int .i64 a1_5,.int .i64 a1_6,.int .i64 a1_7,.int .i64 a1_8,.string a1_9] 86 (0,0)) (bL BK213.out) hb);have n2_:=Aside0.mk (below_step (bS GE213.out) hb);clear BK213 HB;have HO218:=n0_;have BK213:=n1_;have HB:=n2_;clear n0_ n1_ n2_;(try clear hb);(try clear hb2);(try clear hk);(try clear hi);(try clear ho0);obtain⟨Ao18,co18,eo18⟩:=Kd.S_slice HO218.out;subst eo18))
    go_loopg [10,28] kj4 (fun kq v10 v28 w' => ∃ (x10_2:List Int) (x28_2:Int),v28=.int .i64 x28_2∧Aside0 (spec_DeliveredBy.l0 kq a3 x10_2 t216 (t216.length:Int) x28_2=some (r1,r2))∧Aside0 (kq≤kj4)∧Aside0 (Kd.R (Kd.int .i64) 3 w' w.heap.size (fun _=>True) v10 x10_2)∧Aside0 (Kd.S k157 157 w' w.heap.size (fun k_=>some k_≠(v10:Value).ownBlock) (.slice Ao18 t216.length co18) t216)∧Aside0 (w'.heap[gb213]?=some (.cells #[.int .i64 a1_0,.int .i64 a1_1,.bool a1_2,.int .i64 a1_3,.int .i64 a1_4,.int .i64 a1_5,.int .i64 a1_6,.int .i64 a1_7,.int .i64 a1_8,.string a1_9] 86 (0,0)))∧Aside0 (Below w.heap.size w w'))
    case atStart=>exact⟨(([]:List Int)),(0),(bR),H',⟨Nat.le_refl _⟩,⟨by first|exact Kd.R_nil _ _ _ _ _|exact Kd.N_nil _ _ _ _ _|exact Kd.V_nil _ _ _ _ _|exact Kd.Q_nil _ _ _ _ _|exact Kd.S_nil _ _ _ _ _⟩,⟨by(with_reducible repeat (first|apply Kd.S_alloc|apply Kd.S_drewN|apply Kd.S_drew));exact Kd.S_mono HO218.out (fun _ hk=>(by simp[Value.ownBlock]))⟩,⟨by(with_reducible repeat (first|refine blk_drewN ?_ _|refine blk_drew ?_|refine blk_alloc ?_ _));exact BK213.out⟩,⟨bS GE213.out⟩⟩
    case round =>
     clear H'
     try clear c1
     try clear c2
     try clear p2
     try clear c5
     try clear c8
     try clear c12
     try clear c14
     try clear hcz10_0
     try clear hcz10_1
     try clear hcz10_2
     try clear hcz10_3
     try clear hcz10_4
     try clear hcz10_5
     try clear hcz10_6
     try clear hcz10_7
     try clear hcz10_8
     try clear hcz10_9
     try clear hcz12_0
     try clear hcz12_1
     try clear hcz12_2
     try clear hcz12_3
     try clear hcz12_4
     try clear hcz12_5
     try clear hcz12_6
     try clear hcz12_7
     try clear hcz12_8
     try clear hcz12_9
     try clear hcz16_0
     try clear hcz16_1
     try clear hcz16_2
     try clear hcz16_3
     try clear hcz16_4
     try clear hcz16_5
     try clear hcz16_6
     try clear hcz16_7
     try clear hcz16_8
     try clear hcz16_9
     try clear hfz10_0
     try clear hfz10_1
     try clear hfz10_2
     try clear hfz10_3
     try clear hfz10_4
     try clear hfz10_5
     try clear hfz10_6
     try clear hfz10_7
     try clear hfz10_8
     try clear hfz10_9
     try clear hfz12_0
     try clear hfz12_1
     try clear hfz12_2
     try clear hfz12_3
     try clear hfz12_4
     try clear hfz12_5
     try clear hfz12_6
     try clear hfz12_7
     try clear hfz12_8
     try clear hfz12_9
     try clear hfz16_0
     try clear hfz16_1
     try clear hfz16_2
     try clear hfz16_3
     try clear hfz16_4
     try clear hfz16_5
     try clear hfz16_6
     try clear hfz16_7
     try clear hfz16_8
     try clear hfz16_9
     try clear p2
     obtain⟨x10_2,x28_2,rfl,HA,HK2,HO_10,HO_26,BK213,HB⟩:=hrel
     cases gk with
     | zero=>exact absurd HA.out (by simp[spec_DeliveredBy.l0])
     | succ k2 =>
      have H:=HA.out
      clear HA
      simp only[spec_DeliveredBy.l0] at H
      by_cases c19:x28_2 < (t216.length:Int)
      ·rw[if_pos c19] at H
       have c19b0:decide (x28_2 < (t216.length:Int))=true:=decide_eq_true c19
       clear c19
       by_cases c20:0≤x28_2
       ·rw[if_pos c20] at H
        have c20b0:decide (0≤x28_2)=true:=decide_eq_true c20
        clear c20
        by_cases c21:x28_2 < (t216.length:Int)
        ·rw[if_pos c21] at H
         have c21b0:decide (x28_2 < (t216.length:Int))=true:=decide_eq_true c21
         clear c21
         by_cases c22:((rd_T157 t216 x28_2).f1)≤a3
         ·rw[if_pos c22] at H
          have c22b0:decide (((rd_T157 t216 x28_2).f1)≤a3)=true:=decide_eq_true c22
          clear c22
          by_cases c23:x10_2.length < 17592186044416
          ·rw[if_pos c23] at H
           have LMc23:=Aside0.mk c23
           clear c23
           obtain⟨y221,hy221⟩ : ∃ y_:List Int,y_=(x10_2++[(rd_T157 t216 x28_2).f0]):=⟨_,rfl⟩
           replace H:(spec_DeliveredBy.l0 k2 a3 y221 t216 (t216.length:Int) (wrap64 (x28_2+1)))=some (r1,r2):=by first|(rw[hy221];with_reducible exact H)|(have H2_:=(Option.bind_some _ _).symm.trans H;rw[hy221];with_reducible exact H2_)|(have H2_:=(Option.bind_some _ _).symm.trans H;with_reducible exact H2_)|with_reducible exact H|(rw[hy221];exact H)|exact H
           have Ny221:=Aside0.mk hy221
           clear hy221
           have H':=Aside0.mk H
           clear H
           have p219:0≤(x28_2:Int):=of_decide_eq_true (bD)
           have q219:x28_2 < (t216.length:Int):=of_decide_eq_true (bD)
           obtain⟨ad219,A219_2,c219_2,e219,hx219_0,hx219_1,hx219_2,hl219_2,hi219_2⟩:=at_T157 (Kd.S_reads' HO_26.out).2.2 x28_2 p219 q219
           cases e219
           obtain⟨ce219,hce219,hMe219,hcc219⟩:=Kd.S_get HO_26.out z157 x28_2 p219 (by first|exact q219|exact of_decide_eq_true (bD)|(have e_:=(Kd.S_reads' HO_26.out).1;omega))
           obtain⟨ve219_2,rfl,ge219_2⟩:=k157_openM hMe219
           have hv219_2:=hcc219 2 _ rfl
           rw[add_field _ _ 2 (by omega)] at hv219_2
           replace hv219_2:=Option.some.inj (hv219_2.symm.trans hx219_2)
           rw[hv219_2] at ge219_2
           have HL219_2:=Aside0.mk (show Kd.R (Kd.int .i64) 3 _ _ _ _ ((rd_T157 t216 x28_2).f2) from ge219_2)
           clear hv219_2 ge219_2 hcc219 hce219
           have HR219_2:=Aside0.mk hi219_2
           have HC219_2:=Aside0.mk hl219_2
           clear hi219_2 hl219_2
           replace p219:=eq_true p219
           replace q219:=eq_true q219
           go_wp2_with (first|((with_reducible refine gate_dst (N:=12) rfl ?_);refine box_event ?hg (N:=12) ?hd (cs:=#[.int .i64 0,.int .i64 0,.slice none 0 0]) (t:=157) ?hr ?_;(case hd=>rfl);(case hg=>rfl);(case hr=>first|(go_simp;done)|(go_simp;rfl));intro gb220 hg w24 hbox hb;have n0_:=Aside0.mk (Kd.R_below (bK HO_10.out) hb);have n1_:=Aside0.mk (Kd.S_below (Kd.S_elderB (by(with_reducible repeat (first|apply Kd.S_alloc|apply Kd.S_drewN|apply Kd.S_drew));exact HO_26.out) gb220 (Nat.le_of_eq hg.symm)) hb);have n2_:=Aside0.mk (Kd.R_below (bK HL219_2.out) hb);have n3_:=Aside0.mk (blk_below (g:=gb213) (o:=.cells #[.int .i64 a1_0,.int .i64 a1_1,.bool a1_2,.int .i64 a1_3,.int .i64 a1_4,.int .i64 a1_5,.int .i64 a1_6,.int .i64 a1_7,.int .i64 a1_8,.string a1_9] 86 (0,0)) (bL BK213.out) hb);have n4_:=Aside0.mk (Kd.C_below (by repeat (first|(with_reducible exact HR219_2.out)|(with_reducible refine Kd.C_alloc ?_ _)|(with_reducible refine Kd.C_drewN ?_ _)|(with_reducible refine Kd.C_drew ?_)|exact HR219_2.out)) hb);have n5_:=Aside0.mk (below_step (bS GE213.out) hb);have n6_:=Aside0.mk (hbox);have n7_:=Aside0.mk ((by rw[hg];exact(below_size (bS GE213.out)):w.heap.size≤gb220));have n8_:=Aside0.mk ((by rw[hg];exact(below_size (bS GE213.out)):w.heap.size≤gb220));have n9_:=Aside0.mk ((by rw[hg];exact Nat.ne_of_lt (blk_lt (g:=gb213) (o:=.cells #[.int .i64 a1_0,.int .i64 a1_1,.bool a1_2,.int .i64 a1_3,.int .i64 a1_4,.int .i64 a1_5,.int .i64 a1_6,.int .i64 a1_7,.int .i64 a1_8,.string a1_9] 86 (0,0)) (bL BK213.out)):gb213≠gb220));have n10_:=Aside0.mk ((by rw[hg];exact Nat.ne_of_gt (blk_lt (g:=gb213) (o:=.cells #[.int .i64 a1_0,.int .i64 a1_1,.bool a1_2,.int .i64 a1_3,.int .i64 a1_4,.int .i64 a1_5,.int .i64 a1_6,.int .i64 a1_7,.int .i64 a1_8,.string a1_9] 86 (0,0)) (bL BK213.out)):gb220≠gb213));clear HO_10 HO_26 HL219_2 BK213 HR219_2 HB;have HO_10:=n0_;have HO_26:=n1_;have HL219_2:=n2_;have BK213:=n3_;have HR219_2:=n4_;have HB:=n5_;have BK220:=n6_;have GW220:=n7_;have GE220:=n8_;have NB213_220:=n9_;have NB220_213:=n10_;clear n0_ n1_ n2_ n3_ n4_ n5_ n6_ n7_ n8_ n9_ n10_;clear hb hbox hg;have hnb25:=NB220_213.out;have hnc25:=NB213_220.out;have hcz26_0:w24.cell? ⟨gb220,0,none⟩=some (.int .i64 0):=(blk_cell BK220.out 0).trans rfl;have hcz26_1:w24.cell? ⟨gb220,1,none⟩=some (.int .i64 0):=(blk_cell BK220.out 1).trans rfl;have hcz26_2:w24.cell? ⟨gb220,2,none⟩=some (.slice none 0 0):=(blk_cell BK220.out 2).trans rfl;have hfz26_0:=blk_frozen BK220.out 0;have hfz26_1:=blk_frozen BK220.out 1;have hfz26_2:=blk_frozen BK220.out 2)|((with_reducible refine gate_builtin (b:=.append) (xs:=#[.tmp 36,.tmp 39]) rfl ?_);at_builtin;refine Kd.R_append (Kd.int .i64) (w0:=w) w.heap.size rfl (.tmp 36) (.tmp 39) 37 3 (.int .i64 0) 8 rfl Try.underlying37 info3 rfl (by decide) (by omega) u10 x10_2 ((rd_T157 t216 x28_2).f0) [.int .i64 ((rd_T157 t216 x28_2).f0)] (fun _=>True) (fun _=>False) rfl (by first|(go_simp;done)|(go_simp;rfl)) ?aP (fun _ hk=>hk.elim) ?aF ?aO ?aB ?aS ?aL ?_;(case aP=>exact rfl);(case aB=>exact(by repeat (first|(with_reducible first|exact HB.out|apply below_alloc|apply pw_below_drewN|apply below_drew1|refine below_set ?_ GE213.out|refine below_set ?_ GE220.out)|exact HB.out)));(case aF=>exact(fun _ _=>trivial));(case aO=>exact(by(with_reducible repeat (first|apply Kd.R_alloc|apply Kd.R_drewN|apply Kd.R_drew));exact Kd.R_mono (Kd.R_far (p:=⟨gb220,2,none⟩) (Kd.R_far (p:=⟨gb220,1,none⟩) (Kd.R_far (p:=⟨gb220,0,none⟩) (Kd.R_types HO_10.out BK220.out (by decide)) (fun _ hk=>hk.2) (.int .i64 ((rd_T157 t216 x28_2).f0))) (fun _ hk=>hk.2) (.int .i64 ((rd_T157 t216 x28_2).f1))) (fun _ hk=>hk.2) (.slice A219_2 ((rd_T157 t216 x28_2).f2).length c219_2)) (fun _ hk=>trivial)));(case aS=>exact(below_size (by repeat (first|(with_reducible first|exact HB.out|apply below_alloc|apply pw_below_drewN|apply below_drew1|refine below_set ?_ GE213.out|refine below_set ?_ GE220.out)|exact HB.out))));(case aL=>have:=LMc23.out;omega);intro v222 w27 ho hb hg hat;rw[← Ny221.out] at ho;have n0_:=Aside0.mk (Kd.S_after (ok:=(fun k_=>k_≠gb220)) (by(with_reducible repeat (first|apply Kd.S_alloc|apply Kd.S_drewN|apply Kd.S_drew));exact Kd.S_mono (Kd.S_far (p:=⟨gb220,2,none⟩) (Kd.S_far (p:=⟨gb220,1,none⟩) (Kd.S_far (p:=⟨gb220,0,none⟩) (Kd.S_mono HO_26.out (fun k_ hk=>(⟨hk,hk.2⟩:_∧k_≠gb220))) (fun _ hk=>hk.2) (.int .i64 ((rd_T157 t216 x28_2).f0))) (fun _ hk=>hk.2) (.int .i64 ((rd_T157 t216 x28_2).f1))) (fun _ hk=>hk.2) (.slice A219_2 ((rd_T157 t216 x28_2).f2).length c219_2)) (fun _ hk=>⟨hk.1.2,hk.1.1⟩)) hg hat);have n1_:=Aside0.mk (blk_grown (g:=gb213) (o:=.cells #[.int .i64 a1_0,.int .i64 a1_1,.bool a1_2,.int .i64 a1_3,.int .i64 a1_4,.int .i64 a1_5,.int .i64 a1_6,.int .i64 a1_7,.int .i64 a1_8,.string a1_9] 86 (0,0)) (by(with_reducible repeat (first|refine blk_drewN ?_ _|refine blk_drew ?_|refine blk_alloc ?_ _));refine blk_far ?_ NB213_220.out _;(with_reducible repeat (first|refine blk_drewN ?_ _|refine blk_drew ?_|refine blk_alloc ?_ _));refine blk_far ?_ NB213_220.out _;(with_reducible repeat (first|refine blk_drewN ?_ _|refine blk_drew ?_|refine blk_alloc ?_ _));refine blk_far ?_ NB213_220.out _;(with_reducible repeat (first|refine blk_drewN ?_ _|refine blk_drew ?_|refine blk_alloc ?_ _));exact BK213.out) hg (Kd.R_ne HO_10.out BK213.out (by decide)));have n2_:=Aside0.mk (Kd.R_after (ok:=(fun k_=>some k_≠(.slice (some ad219) t216.length co18:Value).ownBlock)) (by(with_reducible repeat (first|apply Kd.R_alloc|apply Kd.R_drewN|apply Kd.R_drew));exact Kd.R_mono (Kd.R_far (p:=⟨gb220,2,none⟩) (Kd.R_far (p:=⟨gb220,1,none⟩) (Kd.R_far (p:=⟨gb220,0,none⟩) (Kd.R_types HL219_2.out BK220.out (by decide)) (fun _ hk=>hk.2) (.int .i64 ((rd_T157 t216 x28_2).f0))) (fun _ hk=>hk.2) (.int .i64 ((rd_T157 t216 x28_2).f1))) (fun _ hk=>hk.2) (.slice A219_2 ((rd_T157 t216 x28_2).f2).length c219_2)) (fun _ hk=>⟨hk.1.2,hk.1.1⟩)) hg hat);have n3_:=Aside0.mk (blk_grown (g:=gb220) (o:=.cells #[.int .i64 ((rd_T157 t216 x28_2).f0),.int .i64 ((rd_T157 t216 x28_2).f1),.slice A219_2 ((rd_T157 t216 x28_2).f2).length c219_2] 157 (0,0)) (by(with_reducible repeat (first|refine blk_drewN ?_ _|refine blk_drew ?_|refine blk_alloc ?_ _));refine blk_put (cs:=#[.int .i64 ((rd_T157 t216 x28_2).f0),.int .i64 ((rd_T157 t216 x28_2).f1),.slice none 0 0]) ?_ 2 _ rfl;(with_reducible repeat (first|refine blk_drewN ?_ _|refine blk_drew ?_|refine blk_alloc ?_ _));refine blk_put (cs:=#[.int .i64 ((rd_T157 t216 x28_2).f0),.int .i64 0,.slice none 0 0]) ?_ 1 _ rfl;(with_reducible repeat (first|refine blk_drewN ?_ _|refine blk_drew ?_|refine blk_alloc ?_ _));refine blk_put (cs:=#[.int .i64 0,.int .i64 0,.slice none 0 0]) ?_ 0 _ rfl;(with_reducible repeat (first|refine blk_drewN ?_ _|refine blk_drew ?_|refine blk_alloc ?_ _));exact BK220.out) hg (Kd.R_ne HO_10.out BK220.out (by decide)));have n4_:=Aside0.mk (hb);have n5_:=Aside0.mk (ho);clear HO_26 BK213 HL219_2 BK220 HB HO_10;have HO_26:=n0_;have BK213:=n1_;have HL219_2:=n2_;have BK220:=n3_;have HB:=n4_;have HO223:=n5_;clear n0_ n1_ n2_ n3_ n4_ n5_;clear ho hb hg hat))
           go_roundg k2
           case measure=>have:=HJ4.out;have:=HK2.out;omega
           case rel=>exact⟨(y221),(wrap64 (x28_2+1)),(bR),H',⟨by have:=HJ4.out;have:=HK2.out;omega⟩,⟨by(with_reducible repeat (first|apply Kd.R_alloc|apply Kd.R_drewN|apply Kd.R_drew));exact HO223.out⟩,⟨by(with_reducible repeat (first|apply Kd.S_alloc|apply Kd.S_drewN|apply Kd.S_drew));exact Kd.S_mono HO_26.out (fun _ hk=>hk.2)⟩,⟨by(with_reducible repeat (first|refine blk_drewN ?_ _|refine blk_drew ?_|refine blk_alloc ?_ _));exact BK213.out⟩,⟨by repeat (first|(with_reducible first|exact HB.out|apply below_alloc|apply pw_below_drewN|apply below_drew1|refine below_set ?_ GE213.out|refine below_set ?_ GE220.out)|exact HB.out)⟩⟩
          ·rw[if_neg c23] at H
           exact absurd H (by simp)
         ·rw[if_neg c22] at H
          have c22b0:decide (((rd_T157 t216 x28_2).f1)≤a3)=false:=decide_eq_false c22
          clear c22
          have H':=Aside0.mk H
          clear H
          have p219:0≤(x28_2:Int):=of_decide_eq_true (bD)
          have q219:x28_2 < (t216.length:Int):=of_decide_eq_true (bD)
          obtain⟨ad219,A219_2,c219_2,e219,hx219_0,hx219_1,hx219_2,hl219_2,hi219_2⟩:=at_T157 (Kd.S_reads' HO_26.out).2.2 x28_2 p219 q219
          cases e219
          obtain⟨ce219,hce219,hMe219,hcc219⟩:=Kd.S_get HO_26.out z157 x28_2 p219 (by first|exact q219|exact of_decide_eq_true (bD)|(have e_:=(Kd.S_reads' HO_26.out).1;omega))
          obtain⟨ve219_2,rfl,ge219_2⟩:=k157_openM hMe219
          have hv219_2:=hcc219 2 _ rfl
          rw[add_field _ _ 2 (by omega)] at hv219_2
          replace hv219_2:=Option.some.inj (hv219_2.symm.trans hx219_2)
          rw[hv219_2] at ge219_2
          have HL219_2:=Aside0.mk (show Kd.R (Kd.int .i64) 3 _ _ _ _ ((rd_T157 t216 x28_2).f2) from ge219_2)
          clear hv219_2 ge219_2 hcc219 hce219
          have HR219_2:=Aside0.mk hi219_2
          have HC219_2:=Aside0.mk hl219_2
          clear hi219_2 hl219_2
          replace p219:=eq_true p219
          replace q219:=eq_true q219
          go_wp2_with (first|((with_reducible refine gate_dst (N:=12) rfl ?_);refine box_event ?hg (N:=12) ?hd (cs:=#[.int .i64 0,.int .i64 0,.slice none 0 0]) (t:=157) ?hr ?_;(case hd=>rfl);(case hg=>rfl);(case hr=>first|(go_simp;done)|(go_simp;rfl));intro gb220 hg w28 hbox hb;have n0_:=Aside0.mk (Kd.R_below (bK HO_10.out) hb);have n1_:=Aside0.mk (Kd.S_below (Kd.S_elderB (by(with_reducible repeat (first|apply Kd.S_alloc|apply Kd.S_drewN|apply Kd.S_drew));exact HO_26.out) gb220 (Nat.le_of_eq hg.symm)) hb);have n2_:=Aside0.mk (Kd.R_below (bK HL219_2.out) hb);have n3_:=Aside0.mk (blk_below (g:=gb213) (o:=.cells #[.int .i64 a1_0,.int .i64 a1_1,.bool a1_2,.int .i64 a1_3,.int .i64 a1_4,.int .i64 a1_5,.int .i64 a1_6,.int .i64 a1_7,.int .i64 a1_8,.string a1_9] 86 (0,0)) (bL BK213.out) hb);have n4_:=Aside0.mk (Kd.C_below (by repeat (first|(with_reducible exact HR219_2.out)|(with_reducible refine Kd.C_alloc ?_ _)|(with_reducible refine Kd.C_drewN ?_ _)|(with_reducible refine Kd.C_drew ?_)|exact HR219_2.out)) hb);have n5_:=Aside0.mk (below_step (bS GE213.out) hb);have n6_:=Aside0.mk (hbox);have n7_:=Aside0.mk ((by rw[hg];exact(below_size (bS GE213.out)):w.heap.size≤gb220));have n8_:=Aside0.mk ((by rw[hg];exact(below_size (bS GE213.out)):w.heap.size≤gb220));have n9_:=Aside0.mk ((by rw[hg];exact Nat.ne_of_lt (blk_lt (g:=gb213) (o:=.cells #[.int .i64 a1_0,.int .i64 a1_1,.bool a1_2,.int .i64 a1_3,.int .i64 a1_4,.int .i64 a1_5,.int .i64 a1_6,.int .i64 a1_7,.int .i64 a1_8,.string a1_9] 86 (0,0)) (bL BK213.out)):gb213≠gb220));have n10_:=Aside0.mk ((by rw[hg];exact Nat.ne_of_gt (blk_lt (g:=gb213) (o:=.cells #[.int .i64 a1_0,.int .i64 a1_1,.bool a1_2,.int .i64 a1_3,.int .i64 a1_4,.int .i64 a1_5,.int .i64 a1_6,.int .i64 a1_7,.int .i64 a1_8,.string a1_9] 86 (0,0)) (bL BK213.out)):gb220≠gb213));clear HO_10 HO_26 HL219_2 BK213 HR219_2 HB;have HO_10:=n0_;have HO_26:=n1_;have HL219_2:=n2_;have BK213:=n3_;have HR219_2:=n4_;have HB:=n5_;have BK220:=n6_;have GW220:=n7_;have GE220:=n8_;have NB213_220:=n9_;have NB220_213:=n10_;clear n0_ n1_ n2_ n3_ n4_ n5_ n6_ n7_ n8_ n9_ n10_;clear hb hbox hg;have hnb29:=NB220_213.out;have hnc29:=NB213_220.out;have hcz30_0:w28.cell? ⟨gb220,0,none⟩=some (.int .i64 0):=(blk_cell BK220.out 0).trans rfl;have hcz30_1:w28.cell? ⟨gb220,1,none⟩=some (.int .i64 0):=(blk_cell BK220.out 1).trans rfl;have hcz30_2:w28.cell? ⟨gb220,2,none⟩=some (.slice none 0 0):=(blk_cell BK220.out 2).trans rfl;have hfz30_0:=blk_frozen BK220.out 0;have hfz30_1:=blk_frozen BK220.out 1;have hfz30_2:=blk_frozen BK220.out 2))
          go_roundg k2
          case measure=>have:=HJ4.out;have:=HK2.out;omega
          case rel=>exact⟨(x10_2),(wrap64 (x28_2+1)),(bR),H',⟨by have:=HJ4.out;have:=HK2.out;omega⟩,⟨by(with_reducible repeat (first|apply Kd.R_alloc|apply Kd.R_drewN|apply Kd.R_drew));exact Kd.R_mono (Kd.R_far (p:=⟨gb220,2,none⟩) (Kd.R_far (p:=⟨gb220,1,none⟩) (Kd.R_far (p:=⟨gb220,0,none⟩) (Kd.R_types HO_10.out BK220.out (by decide)) (fun _ hk=>hk.2) (.int .i64 ((rd_T157 t216 x28_2).f0))) (fun _ hk=>hk.2) (.int .i64 ((rd_T157 t216 x28_2).f1))) (fun _ hk=>hk.2) (.slice A219_2 ((rd_T157 t216 x28_2).f2).length c219_2)) (fun _ hk=>trivial)⟩,⟨by(with_reducible repeat (first|apply Kd.S_alloc|apply Kd.S_drewN|apply Kd.S_drew));exact Kd.S_mono (Kd.S_far (p:=⟨gb220,2,none⟩) (Kd.S_far (p:=⟨gb220,1,none⟩) (Kd.S_far (p:=⟨gb220,0,none⟩) (Kd.S_mono HO_26.out (fun k_ hk=>(⟨hk,hk.2⟩:_∧k_≠gb220))) (fun _ hk=>hk.2) (.int .i64 ((rd_T157 t216 x28_2).f0))) (fun _ hk=>hk.2) (.int .i64 ((rd_T157 t216 x28_2).f1))) (fun _ hk=>hk.2) (.slice A219_2 ((rd_T157 t216 x28_2).f2).length c219_2)) (fun _ hk=>hk.1.1)⟩,⟨by(with_reducible repeat (first|refine blk_drewN ?_ _|refine blk_drew ?_|refine blk_alloc ?_ _));refine blk_far ?_ NB213_220.out _;(with_reducible repeat (first|refine blk_drewN ?_ _|refine blk_drew ?_|refine blk_alloc ?_ _));refine blk_far ?_ NB213_220.out _;(with_reducible repeat (first|refine blk_drewN ?_ _|refine blk_drew ?_|refine blk_alloc ?_ _));refine blk_far ?_ NB213_220.out _;(with_reducible repeat (first|refine blk_drewN ?_ _|refine blk_drew ?_|refine blk_alloc ?_ _));exact BK213.out⟩,⟨by repeat (first|(with_reducible first|exact HB.out|apply below_alloc|apply pw_below_drewN|apply below_drew1|refine below_set ?_ GE213.out|refine below_set ?_ GE220.out)|exact HB.out)⟩⟩
        ·rw[if_neg c21] at H
         exact absurd H (by simp)
       ·rw[if_neg c20] at H
        exact absurd H (by simp)
      ·rw[if_neg c19] at H
       have c19b0:decide (x28_2 < (t216.length:Int))=false:=decide_eq_false c19
       clear c19
       simp only[Option.some.injEq,Prod.mk.injEq] at H
       obtain⟨rfl,rfl⟩:=H
       go_wp2
       go_ret2
       exact⟨_,by first|rfl|(simp[errW_none,errW_some]<;>rfl)|(simp[*,errW_none,errW_some]<;>rfl),by(with_reducible repeat (first|apply Kd.R_alloc|apply Kd.R_drewN|apply Kd.R_drew));exact HO_10.out,bS GE213.out⟩

-- NOT PRINTED: function 169 (impl_Contact_169)

-- NOT PRINTED: function 144 (impl_Contact_144)

/-! ### impl_within: function 79 -/
def impl_within.f (a0:Int) (a1:Int) (a2:Int):Option (Bool):=if a1≤a0 then (some (decide (a0≤a2))) else (some false)
set_option maxHeartbeats 8000000 in
set_option maxRecDepth 100000 in
theorem impl_within.calls (a0:Int) (a1:Int) (a2:Int) (r:Bool) (w:World) (h:impl_within.f a0 a1 a2=some r) :
  Calls Try.prog 79 #[.int .i64 a0,.int .i64 a1,.int .i64 a2] w fun e w'=>e=.returned (.bool r)∧Drawn0 w w':=by
 have H:(if a1≤a0 then (some (decide (a0≤a2))) else (some false))=some r:=h
 clear h
 by_cases c4:a1≤a0
 ·rw[if_pos c4] at H
  have c4b0:decide (a1≤a0)=true:=decide_eq_true c4
  clear c4
  obtain rfl:=Option.some.inj H
  go_enter Try.func79,Try.ntmps79
  go_wp2
  go_ret
  exact⟨bR,bW⟩
 ·rw[if_neg c4] at H
  have c4b0:decide (a1≤a0)=false:=decide_eq_false c4
  clear c4
  obtain rfl:=Option.some.inj H
  go_enter Try.func79,Try.ntmps79
  go_wp2
  go_ret
  exact⟨bR,bW⟩

/-! ### impl_isNode: function 89 -/
def impl_isNode.f (a0:Int):Option (Bool):=(impl_within.f a0 0 7).bind fun t226=>(some t226)
set_option maxHeartbeats 8000000 in
set_option maxRecDepth 100000 in
theorem impl_isNode.calls (a0:Int) (r:Bool) (w:World) (h:impl_isNode.f a0=some r) :
  Calls Try.prog 89 #[.int .i64 a0] w fun e w'=>e=.returned (.bool r)∧Drawn0 w w':=by
 have H:((impl_within.f a0 0 7).bind fun t226=>(some t226))=some r:=h
 clear h
 replace H:=Option.bind_eq_some_iff.mp H
 obtain⟨t226,A20,H⟩:=H
 have A2:=Aside0.mk A20
 clear A20
 obtain rfl:=Option.some.inj H
 go_enter Try.func89,Try.ntmps89
 go_wp2_with (first|((with_reducible refine gate_callee (f:=79) rfl ?_);refine goesA (some 4) rfl rfl Try.func79 #[.int .i64 a0,.int .i64 0,.int .i64 7] rfl ?_;(with_reducible refine(impl_within.calls a0 0 7 t226 _ A2.out).mono ?_);rintro e w' ⟨rfl,⟨nd,rfl⟩⟩;refine⟨_,rfl,?_⟩))
 go_ret
 exact⟨bR,bW⟩

/-! ### impl_areUnlike: function 146 -/
def impl_areUnlike.f (a0:Int) (a1:Int):Option (Bool):=(impl_isNode.f a0).bind fun t227=>(if t227=true then ((impl_isNode.f a1).bind fun t228=>(if t228=true then (some (a0 != a1)) else (some false))) else (some false))
set_option maxHeartbeats 8000000 in
set_option maxRecDepth 100000 in
theorem impl_areUnlike.calls (a0:Int) (a1:Int) (r:Bool) (w:World) (h:impl_areUnlike.f a0 a1=some r) :
  Calls Try.prog 146 #[.int .i64 a0,.int .i64 a1] w fun e w'=>e=.returned (.bool r)∧Drawn0 w w':=by
 have H:((impl_isNode.f a0).bind fun t227=>(if t227=true then ((impl_isNode.f a1).bind fun t228=>(if t228=true then (some (a0 != a1)) else (some false))) else (some false)))=some r:=h
 clear h
 replace H:=Option.bind_eq_some_iff.mp H
 obtain⟨t227,A30,H⟩:=H
 have A3:=Aside0.mk A30
 clear A30
 by_cases c4:t227=true
 ·subst c4
  have H1:((impl_isNode.f a1).bind fun t228=>(if t228=true then (some (a0 != a1)) else (some false)))=some r:=by rw[if_pos rfl] at H;exact H
  clear H
  have H:=H1
  clear H1
  replace H:=Option.bind_eq_some_iff.mp H
  obtain⟨t228,A50,H⟩:=H
  have A5:=Aside0.mk A50
  clear A50
  by_cases c6:t228=true
  ·subst c6
   have H1:(some (a0 != a1))=some r:=by rw[if_pos rfl] at H;exact H
   clear H
   have H:=H1
   clear H1
   obtain rfl:=Option.some.inj H
   go_enter Try.func146,Try.ntmps146
   go_wp2_with (first|((with_reducible refine gate_callee (f:=89) rfl ?_);refine goesA (some 6) rfl rfl Try.func89 #[.int .i64 a0] rfl ?_;(with_reducible refine(impl_isNode.calls a0 true _ A3.out).mono ?_);rintro e w' ⟨rfl,⟨nd,rfl⟩⟩;refine⟨_,rfl,?_⟩)|(go_at_call 89;(with_reducible refine(impl_isNode.calls a1 true _ A5.out).mono ?_);rintro e w' ⟨rfl,⟨nd,rfl⟩⟩))
   go_ret
   exact⟨bR,bW⟩
  ·replace c6:=Bool.eq_false_iff.mpr c6
   subst c6
   have H1:(some false)=some r:=by rw[if_neg (show ¬ (false=true) by decide)] at H;exact H
   clear H
   have H:=H1
   clear H1
   obtain rfl:=Option.some.inj H
   go_enter Try.func146,Try.ntmps146
   go_wp2_with (first|((with_reducible refine gate_callee (f:=89) rfl ?_);refine goesA (some 6) rfl rfl Try.func89 #[.int .i64 a0] rfl ?_;(with_reducible refine(impl_isNode.calls a0 true _ A3.out).mono ?_);rintro e w' ⟨rfl,⟨nd,rfl⟩⟩;refine⟨_,rfl,?_⟩)|(go_at_call 89;(with_reducible refine(impl_isNode.calls a1 false _ A5.out).mono ?_);rintro e w' ⟨rfl,⟨nd,rfl⟩⟩))
   go_ret
   exact⟨bR,bW⟩
 ·replace c4:=Bool.eq_false_iff.mpr c4
  subst c4
  have H1:(some false)=some r:=by rw[if_neg (show ¬ (false=true) by decide)] at H;exact H
  clear H
  have H:=H1
  clear H1
  obtain rfl:=Option.some.inj H
  go_enter Try.func146,Try.ntmps146
  go_wp2_with (first|((with_reducible refine gate_callee (f:=89) rfl ?_);refine goesA (some 6) rfl rfl Try.func89 #[.int .i64 a0] rfl ?_;(with_reducible refine(impl_isNode.calls a0 false _ A3.out).mono ?_);rintro e w' ⟨rfl,⟨nd,rfl⟩⟩;refine⟨_,rfl,?_⟩))
  go_ret
  exact⟨bR,bW⟩

/-! ### impl_GoodPlan_lit1: function 145 -/
def impl_GoodPlan_lit1.f (a0_0:Int) (a0_1:Int) (a0_2:Int) (a0_3:Int) (a0_4:Int):Option (Bool):=(impl_areUnlike.f a0_0 a0_1).bind fun t230=>(if t230=true then (if a0_2 < 0 then (some true) else (if a0_2 ≥ a0_3 then (some true) else (if a0_3 > 1000 then (some true) else ((impl_within.f a0_4 0 100).bind fun t231=>(some (!t231)))))) else (some true))
set_option maxHeartbeats 8000000 in
set_option maxRecDepth 100000 in
theorem impl_GoodPlan_lit1.calls (a0_0:Int) (a0_1:Int) (a0_2:Int) (a0_3:Int) (a0_4:Int) (r:Bool) (w:World) (h:impl_GoodPlan_lit1.f a0_0 a0_1 a0_2 a0_3 a0_4=some r) :
  Calls Try.prog 145 #[.agg #[.int .i64 a0_0,.int .i64 a0_1,.int .i64 a0_2,.int .i64 a0_3,.int .i64 a0_4]] w fun e w'=>e=.returned (.bool r)∧Below w.heap.size w w':=by
 have hu104:=Try.underlying104
 have HB:=Aside0.mk (Below.refl w.heap.size w)
 have H:((impl_areUnlike.f a0_0 a0_1).bind fun t230=>(if t230=true then (if a0_2 < 0 then (some true) else (if a0_2 ≥ a0_3 then (some true) else (if a0_3 > 1000 then (some true) else ((impl_within.f a0_4 0 100).bind fun t231=>(some (!t231)))))) else (some true)))=some r:=h
 clear h
 replace H:=Option.bind_eq_some_iff.mp H
 obtain⟨t230,A20,H⟩:=H
 have A2:=Aside0.mk A20
 clear A20
 by_cases c3:t230=true
 ·subst c3
  have H1:(if a0_2 < 0 then (some true) else (if a0_2 ≥ a0_3 then (some true) else (if a0_3 > 1000 then (some true) else ((impl_within.f a0_4 0 100).bind fun t231=>(some (!t231))))))=some r:=by rw[if_pos rfl] at H;exact H
  clear H
  have H:=H1
  clear H1
  by_cases c4:a0_2 < 0
  ·rw[if_pos c4] at H
   have c4b0:decide (a0_2 < 0)=true:=decide_eq_true c4
   clear c4
   obtain rfl:=Option.some.inj H
   go_enter Try.func145,Try.ntmps145
   go_wp2_with (first|((with_reducible refine gate_dst (N:=1) rfl ?_);refine box_event ?hg (N:=1) ?hd (cs:=#[.int .i64 a0_0,.int .i64 a0_1,.int .i64 a0_2,.int .i64 a0_3,.int .i64 a0_4]) (t:=104) ?hr ?_;(case hd=>rfl);(case hg=>rfl);(case hr=>first|(go_simp;done)|(go_simp;rfl));intro gb229 hg w5 hbox hb;have n0_:=Aside0.mk (below_step (bB) hb);have n1_:=Aside0.mk (hbox);have n2_:=Aside0.mk ((bG:w.heap.size≤gb229));have n3_:=Aside0.mk ((bG:w.heap.size≤gb229));clear HB;have HB:=n0_;have BK229:=n1_;have GW229:=n2_;have GE229:=n3_;clear n0_ n1_ n2_ n3_;clear hb hbox hg;have hcz6_0:w5.cell? ⟨gb229,0,none⟩=some (.int .i64 a0_0):=(blk_cell BK229.out 0).trans rfl;have hcz6_1:w5.cell? ⟨gb229,1,none⟩=some (.int .i64 a0_1):=(blk_cell BK229.out 1).trans rfl;have hcz6_2:w5.cell? ⟨gb229,2,none⟩=some (.int .i64 a0_2):=(blk_cell BK229.out 2).trans rfl;have hcz6_3:w5.cell? ⟨gb229,3,none⟩=some (.int .i64 a0_3):=(blk_cell BK229.out 3).trans rfl;have hcz6_4:w5.cell? ⟨gb229,4,none⟩=some (.int .i64 a0_4):=(blk_cell BK229.out 4).trans rfl;have hfz6_0:=blk_frozen BK229.out 0;have hfz6_1:=blk_frozen BK229.out 1;have hfz6_2:=blk_frozen BK229.out 2;have hfz6_3:=blk_frozen BK229.out 3;have hfz6_4:=blk_frozen BK229.out 4)|((with_reducible refine gate_callee (f:=146) rfl ?_);refine goesA (some 7) rfl rfl Try.func146 #[.int .i64 a0_0,.int .i64 a0_1] rfl ?_;(with_reducible refine(impl_areUnlike.calls a0_0 a0_1 true _ A2.out).mono ?_);rintro e w' ⟨rfl,⟨nd,rfl⟩⟩;refine⟨_,rfl,?_⟩))
   go_ret
   exact⟨bE,bS GE229.out⟩
  ·rw[if_neg c4] at H
   have c4b0:decide (a0_2 < 0)=false:=decide_eq_false c4
   clear c4
   by_cases c7:a0_2 ≥ a0_3
   ·rw[if_pos c7] at H
    have c7b0:decide (a0_3≤a0_2)=true:=decide_eq_true c7
    clear c7
    obtain rfl:=Option.some.inj H
    go_enter Try.func145,Try.ntmps145
    go_wp2_with (first|((with_reducible refine gate_dst (N:=1) rfl ?_);refine box_event ?hg (N:=1) ?hd (cs:=#[.int .i64 a0_0,.int .i64 a0_1,.int .i64 a0_2,.int .i64 a0_3,.int .i64 a0_4]) (t:=104) ?hr ?_;(case hd=>rfl);(case hg=>rfl);(case hr=>first|(go_simp;done)|(go_simp;rfl));intro gb229 hg w8 hbox hb;have n0_:=Aside0.mk (below_step (bB) hb);have n1_:=Aside0.mk (hbox);have n2_:=Aside0.mk ((bG:w.heap.size≤gb229));have n3_:=Aside0.mk ((bG:w.heap.size≤gb229));clear HB;have HB:=n0_;have BK229:=n1_;have GW229:=n2_;have GE229:=n3_;clear n0_ n1_ n2_ n3_;clear hb hbox hg;have hcz9_0:w8.cell? ⟨gb229,0,none⟩=some (.int .i64 a0_0):=(blk_cell BK229.out 0).trans rfl;have hcz9_1:w8.cell? ⟨gb229,1,none⟩=some (.int .i64 a0_1):=(blk_cell BK229.out 1).trans rfl;have hcz9_2:w8.cell? ⟨gb229,2,none⟩=some (.int .i64 a0_2):=(blk_cell BK229.out 2).trans rfl;have hcz9_3:w8.cell? ⟨gb229,3,none⟩=some (.int .i64 a0_3):=(blk_cell BK229.out 3).trans rfl;have hcz9_4:w8.cell? ⟨gb229,4,none⟩=some (.int .i64 a0_4):=(blk_cell BK229.out 4).trans rfl;have hfz9_0:=blk_frozen BK229.out 0;have hfz9_1:=blk_frozen BK229.out 1;have hfz9_2:=blk_frozen BK229.out 2;have hfz9_3:=blk_frozen BK229.out 3;have hfz9_4:=blk_frozen BK229.out 4)|((with_reducible refine gate_callee (f:=146) rfl ?_);refine goesA (some 7) rfl rfl Try.func146 #[.int .i64 a0_0,.int .i64 a0_1] rfl ?_;(with_reducible refine(impl_areUnlike.calls a0_0 a0_1 true _ A2.out).mono ?_);rintro e w' ⟨rfl,⟨nd,rfl⟩⟩;refine⟨_,rfl,?_⟩))
    go_ret
    exact⟨bE,bS GE229.out⟩
   ·rw[if_neg c7] at H
    have c7b0:decide (a0_3≤a0_2)=false:=decide_eq_false c7
    clear c7
    by_cases c10:a0_3 > 1000
    ·rw[if_pos c10] at H
     have c10b0:decide (1000 < a0_3)=true:=decide_eq_true c10
     clear c10
     obtain rfl:=Option.some.inj H
     go_enter Try.func145,Try.ntmps145
     go_wp2_with (first|((with_reducible refine gate_dst (N:=1) rfl ?_);refine box_event ?hg (N:=1) ?hd (cs:=#[.int .i64 a0_0,.int .i64 a0_1,.int .i64 a0_2,.int .i64 a0_3,.int .i64 a0_4]) (t:=104) ?hr ?_;(case hd=>rfl);(case hg=>rfl);(case hr=>first|(go_simp;done)|(go_simp;rfl));intro gb229 hg w11 hbox hb;have n0_:=Aside0.mk (below_step (bB) hb);have n1_:=Aside0.mk (hbox);have n2_:=Aside0.mk ((bG:w.heap.size≤gb229));have n3_:=Aside0.mk ((bG:w.heap.size≤gb229));clear HB;have HB:=n0_;have BK229:=n1_;have GW229:=n2_;have GE229:=n3_;clear n0_ n1_ n2_ n3_;clear hb hbox hg;have hcz12_0:w11.cell? ⟨gb229,0,none⟩=some (.int .i64 a0_0):=(blk_cell BK229.out 0).trans rfl;have hcz12_1:w11.cell? ⟨gb229,1,none⟩=some (.int .i64 a0_1):=(blk_cell BK229.out 1).trans rfl;have hcz12_2:w11.cell? ⟨gb229,2,none⟩=some (.int .i64 a0_2):=(blk_cell BK229.out 2).trans rfl;have hcz12_3:w11.cell? ⟨gb229,3,none⟩=some (.int .i64 a0_3):=(blk_cell BK229.out 3).trans rfl;have hcz12_4:w11.cell? ⟨gb229,4,none⟩=some (.int .i64 a0_4):=(blk_cell BK229.out 4).trans rfl;have hfz12_0:=blk_frozen BK229.out 0;have hfz12_1:=blk_frozen BK229.out 1;have hfz12_2:=blk_frozen BK229.out 2;have hfz12_3:=blk_frozen BK229.out 3;have hfz12_4:=blk_frozen BK229.out 4)|((with_reducible refine gate_callee (f:=146) rfl ?_);refine goesA (some 7) rfl rfl Try.func146 #[.int .i64 a0_0,.int .i64 a0_1] rfl ?_;(with_reducible refine(impl_areUnlike.calls a0_0 a0_1 true _ A2.out).mono ?_);rintro e w' ⟨rfl,⟨nd,rfl⟩⟩;refine⟨_,rfl,?_⟩))
     go_ret
     exact⟨bE,bS GE229.out⟩
    ·rw[if_neg c10] at H
     have c10b0:decide (1000 < a0_3)=false:=decide_eq_false c10
     clear c10
     replace H:=Option.bind_eq_some_iff.mp H
     obtain⟨t231,A130,H⟩:=H
     have A13:=Aside0.mk A130
     clear A130
     obtain rfl:=Option.some.inj H
     go_enter Try.func145,Try.ntmps145
     go_wp2_with (first|((with_reducible refine gate_dst (N:=1) rfl ?_);refine box_event ?hg (N:=1) ?hd (cs:=#[.int .i64 a0_0,.int .i64 a0_1,.int .i64 a0_2,.int .i64 a0_3,.int .i64 a0_4]) (t:=104) ?hr ?_;(case hd=>rfl);(case hg=>rfl);(case hr=>first|(go_simp;done)|(go_simp;rfl));intro gb229 hg w14 hbox hb;have n0_:=Aside0.mk (below_step (bB) hb);have n1_:=Aside0.mk (hbox);have n2_:=Aside0.mk ((bG:w.heap.size≤gb229));have n3_:=Aside0.mk ((bG:w.heap.size≤gb229));clear HB;have HB:=n0_;have BK229:=n1_;have GW229:=n2_;have GE229:=n3_;clear n0_ n1_ n2_ n3_;clear hb hbox hg;have hcz15_0:w14.cell? ⟨gb229,0,none⟩=some (.int .i64 a0_0):=(blk_cell BK229.out 0).trans rfl;have hcz15_1:w14.cell? ⟨gb229,1,none⟩=some (.int .i64 a0_1):=(blk_cell BK229.out 1).trans rfl;have hcz15_2:w14.cell? ⟨gb229,2,none⟩=some (.int .i64 a0_2):=(blk_cell BK229.out 2).trans rfl;have hcz15_3:w14.cell? ⟨gb229,3,none⟩=some (.int .i64 a0_3):=(blk_cell BK229.out 3).trans rfl;have hcz15_4:w14.cell? ⟨gb229,4,none⟩=some (.int .i64 a0_4):=(blk_cell BK229.out 4).trans rfl;have hfz15_0:=blk_frozen BK229.out 0;have hfz15_1:=blk_frozen BK229.out 1;have hfz15_2:=blk_frozen BK229.out 2;have hfz15_3:=blk_frozen BK229.out 3;have hfz15_4:=blk_frozen BK229.out 4)|((with_reducible refine gate_callee (f:=146) rfl ?_);refine goesA (some 7) rfl rfl Try.func146 #[.int .i64 a0_0,.int .i64 a0_1] rfl ?_;(with_reducible refine(impl_areUnlike.calls a0_0 a0_1 true _ A2.out).mono ?_);rintro e w' ⟨rfl,⟨nd,rfl⟩⟩;refine⟨_,rfl,?_⟩)|(go_at_call 79;(with_reducible refine(impl_within.calls a0_4 0 100 t231 _ A13.out).mono ?_);rintro e w' ⟨rfl,⟨nd,rfl⟩⟩))
     go_ret
     exact⟨bE,bS GE229.out⟩
 ·replace c3:=Bool.eq_false_iff.mpr c3
  subst c3
  have H1:(some true)=some r:=by rw[if_neg (show ¬ (false=true) by decide)] at H;exact H
  clear H
  have H:=H1
  clear H1
  obtain rfl:=Option.some.inj H
  go_enter Try.func145,Try.ntmps145
  go_wp2_with (first|((with_reducible refine gate_dst (N:=1) rfl ?_);refine box_event ?hg (N:=1) ?hd (cs:=#[.int .i64 a0_0,.int .i64 a0_1,.int .i64 a0_2,.int .i64 a0_3,.int .i64 a0_4]) (t:=104) ?hr ?_;(case hd=>rfl);(case hg=>rfl);(case hr=>first|(go_simp;done)|(go_simp;rfl));intro gb229 hg w16 hbox hb;have n0_:=Aside0.mk (below_step (bB) hb);have n1_:=Aside0.mk (hbox);have n2_:=Aside0.mk ((bG:w.heap.size≤gb229));have n3_:=Aside0.mk ((bG:w.heap.size≤gb229));clear HB;have HB:=n0_;have BK229:=n1_;have GW229:=n2_;have GE229:=n3_;clear n0_ n1_ n2_ n3_;clear hb hbox hg;have hcz17_0:w16.cell? ⟨gb229,0,none⟩=some (.int .i64 a0_0):=(blk_cell BK229.out 0).trans rfl;have hcz17_1:w16.cell? ⟨gb229,1,none⟩=some (.int .i64 a0_1):=(blk_cell BK229.out 1).trans rfl;have hcz17_2:w16.cell? ⟨gb229,2,none⟩=some (.int .i64 a0_2):=(blk_cell BK229.out 2).trans rfl;have hcz17_3:w16.cell? ⟨gb229,3,none⟩=some (.int .i64 a0_3):=(blk_cell BK229.out 3).trans rfl;have hcz17_4:w16.cell? ⟨gb229,4,none⟩=some (.int .i64 a0_4):=(blk_cell BK229.out 4).trans rfl;have hfz17_0:=blk_frozen BK229.out 0;have hfz17_1:=blk_frozen BK229.out 1;have hfz17_2:=blk_frozen BK229.out 2;have hfz17_3:=blk_frozen BK229.out 3;have hfz17_4:=blk_frozen BK229.out 4)|((with_reducible refine gate_callee (f:=146) rfl ?_);refine goesA (some 7) rfl rfl Try.func146 #[.int .i64 a0_0,.int .i64 a0_1] rfl ?_;(with_reducible refine(impl_areUnlike.calls a0_0 a0_1 false _ A2.out).mono ?_);rintro e w' ⟨rfl,⟨nd,rfl⟩⟩;refine⟨_,rfl,?_⟩))
  go_ret
  exact⟨bE,bS GE229.out⟩

/-! ### impl_Contact_impl_GoodPlan_lit1_2: function 169 -/
def impl_Contact_impl_GoodPlan_lit1_2.l0:Nat→List (S104)→Int→Int→Option (Int)
 | 0,_,_,_=>none
 | k+1,x0,x7,x8=>if x8 < x7 then (if 0≤x8 then (if x8 < (x0.length:Int) then ((impl_GoodPlan_lit1.f ((rd_T104 x0 x8).f0) ((rd_T104 x0 x8).f1) ((rd_T104 x0 x8).f2) ((rd_T104 x0 x8).f3) ((rd_T104 x0 x8).f4)).bind fun t233=>(if t233=true then (some x8) else (impl_Contact_impl_GoodPlan_lit1_2.l0 k x0 x7 (wrap64 (x8+1))))) else (none)) else (none)) else (some (-1))
def impl_Contact_impl_GoodPlan_lit1_2.f (k:Nat) (l0:List (S104))  : Option (Int):=impl_Contact_impl_GoodPlan_lit1_2.l0 k l0 (l0.length:Int) 0
theorem impl_Contact_impl_GoodPlan_lit1_2.mono_l : ∀ k,(∀ y0 y1 y2,LeO (impl_Contact_impl_GoodPlan_lit1_2.l0 k y0 y1 y2) (impl_Contact_impl_GoodPlan_lit1_2.l0 (k+1) y0 y1 y2))
 | 0=>fun _ _ _ r h=>by simp[impl_Contact_impl_GoodPlan_lit1_2.l0] at h
 | k+1=>by
  have ih0:=impl_Contact_impl_GoodPlan_lit1_2.mono_l k
  ·intro y0 y1 y2
   unfold impl_Contact_impl_GoodPlan_lit1_2.l0
   repeat' first
   | (with_reducible exact ih0 _ _ _)
   | (with_reducible exact LeO.refl _)
   | (with_reducible exact LeO.none _)
   | (with_reducible refine LeO.ite ?_ ?_)
   | (with_reducible refine LeO.bind ?_ (fun _ => ?_))
   | exact ih0 _ _ _
   | exact LeO.none _
   | refine LeO.ite ?_ ?_
   | refine LeO.bind ?_ (fun _ => ?_)
theorem impl_Contact_impl_GoodPlan_lit1_2.mono : ∀ a0 k,LeO (impl_Contact_impl_GoodPlan_lit1_2.f k a0) (impl_Contact_impl_GoodPlan_lit1_2.f (k+1) a0):=by
 intro a0 k
 have ih0:=impl_Contact_impl_GoodPlan_lit1_2.mono_l k
 unfold impl_Contact_impl_GoodPlan_lit1_2.f
 repeat' first
  | (with_reducible exact ih0 _ _ _)
  | (with_reducible exact LeO.refl _)
  | (with_reducible exact LeO.none _)
  | (with_reducible refine LeO.ite ?_ ?_)
  | (with_reducible refine LeO.bind ?_ (fun _ => ?_))
  | exact ih0 _ _ _
  | exact LeO.none _
  | refine LeO.ite ?_ ?_
  | refine LeO.bind ?_ (fun _ => ?_)
set_option maxHeartbeats 8000000 in
set_option maxRecDepth 100000 in
theorem impl_Contact_impl_GoodPlan_lit1_2.calls (k:Nat) (A0:Option Addr) (c0:Nat) (l0:List (S104))  (r:Int) (w:World) (hr0:Kd.C k104 w A0 l0.length l0) (hc0:l0.length≤c0) (h:impl_Contact_impl_GoodPlan_lit1_2.f k l0=some r) :
  Calls Try.prog 169 #[.slice A0 l0.length c0,(.func (.func 145) #[] #[])] w fun e w'=>e=.returned (.int .i64 r)∧Below w.heap.size w w':=by
 have hu104:=Try.underlying104
 have HR0:=Aside0.mk hr0
 have HC0:=Aside0.mk hc0
 clear hr0 hc0
 have HB:=Aside0.mk (Below.refl w.heap.size w)
 have H:(impl_Contact_impl_GoodPlan_lit1_2.l0 k l0 (l0.length:Int) 0)=some r:=h
 clear h
 have H':=Aside0.mk H
 clear H
 go_enter Try.func169,Try.ntmps169
 go_wp2
 go_loopg [8] k (fun kq v8 w' => ∃ (x8_1:Int),v8=.int .i64 x8_1∧Aside0 (impl_Contact_impl_GoodPlan_lit1_2.l0 kq l0 (l0.length:Int) x8_1=some r)∧Aside0 (kq≤k)∧Aside0 (Below w.heap.size w w'))
 case atStart=>exact⟨(0),(bR),H',⟨Nat.le_refl _⟩,⟨by repeat (first|(with_reducible first|exact HB.out|apply below_alloc|apply pw_below_drewN|apply below_drew1)|exact HB.out)⟩⟩
 case round =>
  clear H'
  try clear p2
  obtain⟨x8_1,rfl,HA,HK1,HB⟩:=hrel
  cases gk with
  | zero=>exact absurd HA.out (by simp[impl_Contact_impl_GoodPlan_lit1_2.l0])
  | succ k1 =>
   have H:=HA.out
   clear HA
   simp only[impl_Contact_impl_GoodPlan_lit1_2.l0] at H
   by_cases c3:x8_1 < (l0.length:Int)
   ·rw[if_pos c3] at H
    have c3b0:decide (x8_1 < (l0.length:Int))=true:=decide_eq_true c3
    clear c3
    by_cases c4:0≤x8_1
    ·rw[if_pos c4] at H
     have c4b0:decide (0≤x8_1)=true:=decide_eq_true c4
     clear c4
     by_cases c5:x8_1 < (l0.length:Int)
     ·rw[if_pos c5] at H
      have c5b0:decide (x8_1 < (l0.length:Int))=true:=decide_eq_true c5
      clear c5
      replace H:=Option.bind_eq_some_iff.mp H
      obtain⟨t233,A60,H⟩:=H
      have A6:=Aside0.mk A60
      clear A60
      by_cases c7:t233=true
      ·subst c7
       have H1:(some x8_1)=some r:=by rw[if_pos rfl] at H;exact H
       clear H
       have H:=H1
       clear H1
       obtain rfl:=Option.some.inj H
       have p232:0≤(x8_1:Int):=of_decide_eq_true (bD)
       have q232:x8_1 < (l0.length:Int):=of_decide_eq_true (bD)
       obtain⟨ad232,e232,hx232_0,hx232_1,hx232_2,hx232_3,hx232_4⟩:=at_T104 HR0.out x8_1 p232 q232
       cases e232
       replace hx232_0:=(HB.out.cell (World.block_lt_of_cell? w _ hx232_0)).trans hx232_0
       replace hx232_1:=(HB.out.cell (World.block_lt_of_cell? w _ hx232_1)).trans hx232_1
       replace hx232_2:=(HB.out.cell (World.block_lt_of_cell? w _ hx232_2)).trans hx232_2
       replace hx232_3:=(HB.out.cell (World.block_lt_of_cell? w _ hx232_3)).trans hx232_3
       replace hx232_4:=(HB.out.cell (World.block_lt_of_cell? w _ hx232_4)).trans hx232_4
       replace p232:=eq_true p232
       replace q232:=eq_true q232
       go_wp2_with (first|(go_at_call 145;(with_reducible refine(impl_GoodPlan_lit1.calls ((rd_T104 l0 x8_1).f0) ((rd_T104 l0 x8_1).f1) ((rd_T104 l0 x8_1).f2) ((rd_T104 l0 x8_1).f3) ((rd_T104 l0 x8_1).f4) true _ A6.out).mono ?_);rintro e w8 ⟨rfl,hb⟩;have n0_:=Aside0.mk (below_step (bB) hb);clear HB;have HB:=n0_;clear n0_;(try clear hb);(try clear hb2);(try clear hk);(try clear hi)))
       go_ret
       exact⟨bE,bB⟩
      ·replace c7:=Bool.eq_false_iff.mpr c7
       subst c7
       have H1:(impl_Contact_impl_GoodPlan_lit1_2.l0 k1 l0 (l0.length:Int) (wrap64 (x8_1+1)))=some r:=by rw[if_neg (show ¬ (false=true) by decide)] at H;exact H
       clear H
       have H:=H1
       clear H1
       have H':=Aside0.mk H
       clear H
       have p232:0≤(x8_1:Int):=of_decide_eq_true (bD)
       have q232:x8_1 < (l0.length:Int):=of_decide_eq_true (bD)
       obtain⟨ad232,e232,hx232_0,hx232_1,hx232_2,hx232_3,hx232_4⟩:=at_T104 HR0.out x8_1 p232 q232
       cases e232
       replace hx232_0:=(HB.out.cell (World.block_lt_of_cell? w _ hx232_0)).trans hx232_0
       replace hx232_1:=(HB.out.cell (World.block_lt_of_cell? w _ hx232_1)).trans hx232_1
       replace hx232_2:=(HB.out.cell (World.block_lt_of_cell? w _ hx232_2)).trans hx232_2
       replace hx232_3:=(HB.out.cell (World.block_lt_of_cell? w _ hx232_3)).trans hx232_3
       replace hx232_4:=(HB.out.cell (World.block_lt_of_cell? w _ hx232_4)).trans hx232_4
       replace p232:=eq_true p232
       replace q232:=eq_true q232
       go_wp2_with (first|(go_at_call 145;(with_reducible refine(impl_GoodPlan_lit1.calls ((rd_T104 l0 x8_1).f0) ((rd_T104 l0 x8_1).f1) ((rd_T104 l0 x8_1).f2) ((rd_T104 l0 x8_1).f3) ((rd_T104 l0 x8_1).f4) false _ A6.out).mono ?_);rintro e w9 ⟨rfl,hb⟩;have n0_:=Aside0.mk (below_step (bB) hb);clear HB;have HB:=n0_;clear n0_;(try clear hb);(try clear hb2);(try clear hk);(try clear hi)))
       go_roundg k1
       case measure=>have:=HK1.out;omega
       case rel=>exact⟨(wrap64 (x8_1+1)),(bR),H',⟨by have:=HK1.out;omega⟩,⟨by repeat (first|(with_reducible first|exact HB.out|apply below_alloc|apply pw_below_drewN|apply below_drew1)|exact HB.out)⟩⟩
     ·rw[if_neg c5] at H
      exact absurd H (by simp)
    ·rw[if_neg c4] at H
     exact absurd H (by simp)
   ·rw[if_neg c3] at H
    have c3b0:decide (x8_1 < (l0.length:Int))=false:=decide_eq_false c3
    clear c3
    obtain rfl:=Option.some.inj H
    go_wp2
    go_ret
    exact⟨bE,bB⟩

/-! ### impl_Contact_impl_GoodPlan_lit1: function 144 -/
def impl_Contact_impl_GoodPlan_lit1.f (k:Nat) (l0:List (S104))  : Option (Bool):=(impl_Contact_impl_GoodPlan_lit1_2.f k l0).bind fun t234=>(some (decide (t234 ≥ 0)))
theorem impl_Contact_impl_GoodPlan_lit1.mono : ∀ a0 k,LeO (impl_Contact_impl_GoodPlan_lit1.f k a0) (impl_Contact_impl_GoodPlan_lit1.f (k+1) a0):=by
 intro a0 k
 unfold impl_Contact_impl_GoodPlan_lit1.f
 repeat' first
  | (with_reducible exact impl_Contact_impl_GoodPlan_lit1_2.mono _ _)
  | (with_reducible exact LeO.refl _)
  | (with_reducible exact LeO.none _)
  | (with_reducible refine LeO.ite ?_ ?_)
  | (with_reducible refine LeO.bind ?_ (fun _ => ?_))
  | exact impl_Contact_impl_GoodPlan_lit1_2.mono _ _
  | exact LeO.none _
  | refine LeO.ite ?_ ?_
  | refine LeO.bind ?_ (fun _ => ?_)
set_option maxHeartbeats 8000000 in
set_option maxRecDepth 100000 in
theorem impl_Contact_impl_GoodPlan_lit1.calls (k:Nat) (A0:Option Addr) (c0:Nat) (l0:List (S104))  (r:Bool) (w:World) (hr0:Kd.C k104 w A0 l0.length l0) (hc0:l0.length≤c0) (h:impl_Contact_impl_GoodPlan_lit1.f k l0=some r) :
  Calls Try.prog 144 #[.slice A0 l0.length c0,(.func (.func 145) #[] #[])] w fun e w'=>e=.returned (.bool r)∧Below w.heap.size w w':=by
 have HR0:=Aside0.mk hr0
 have HC0:=Aside0.mk hc0
 clear hr0 hc0
 have HB:=Aside0.mk (Below.refl w.heap.size w)
 have H:((impl_Contact_impl_GoodPlan_lit1_2.f k l0).bind fun t234=>(some (decide (t234 ≥ 0))))=some r:=h
 clear h
 replace H:=Option.bind_eq_some_iff.mp H
 obtain⟨t234,A30,H⟩:=H
 have A3:=Aside0.mk A30
 clear A30
 obtain rfl:=Option.some.inj H
 go_enter Try.func144,Try.ntmps144
 go_wp2_with (first|((with_reducible refine gate_callee (f:=169) rfl ?_);refine goesA (some 7) rfl rfl Try.func169 #[.slice A0 l0.length c0,(.func (.func 145) #[] #[])] rfl ?_;(with_reducible refine(impl_Contact_impl_GoodPlan_lit1_2.calls k _ _ l0  t234 _ ?side1 ?side2 A3.out).mono ?_);(case side1=>repeat (first|exact HR0.out|(with_reducible refine Kd.C_alloc ?_ _)|(with_reducible refine Kd.C_drewN ?_ _)|(with_reducible refine Kd.C_drew ?_)));(case side2=>exact HC0.out);rintro e w4 ⟨rfl,hb⟩;refine⟨_,rfl,?_⟩;have n0_:=Aside0.mk (below_step (bB) hb);clear HB;have HB:=n0_;clear n0_;(try clear hb);(try clear hb2);(try clear hk);(try clear hi)))
 go_ret
 exact⟨bE,bB⟩

/-! ### impl_GoodPlan: function 88 -/
def impl_GoodPlan.f (k:Nat) (l0:List (S104)):Option (Bool):=if (l0.length:Int)≤20 then ((impl_Contact_impl_GoodPlan_lit1.f k l0).bind fun t235=>(some (!t235))) else (some false)
theorem impl_GoodPlan.mono : ∀ a0 k,LeO (impl_GoodPlan.f k a0) (impl_GoodPlan.f (k+1) a0):=by
 intro a0 k
 unfold impl_GoodPlan.f
 repeat' first
  | (with_reducible exact impl_Contact_impl_GoodPlan_lit1.mono _ _)
  | (with_reducible exact LeO.refl _)
  | (with_reducible exact LeO.none _)
  | (with_reducible refine LeO.ite ?_ ?_)
  | (with_reducible refine LeO.bind ?_ (fun _ => ?_))
  | exact impl_Contact_impl_GoodPlan_lit1.mono _ _
  | exact LeO.none _
  | refine LeO.ite ?_ ?_
  | refine LeO.bind ?_ (fun _ => ?_)
set_option maxHeartbeats 8000000 in
set_option maxRecDepth 100000 in
theorem impl_GoodPlan.calls (k:Nat) (A0:Option Addr) (c0:Nat) (l0:List (S104)) (r:Bool) (w:World) (hr0:Kd.C k104 w A0 l0.length l0) (hc0:l0.length≤c0) (h:impl_GoodPlan.f k l0=some r) :
  Calls Try.prog 88 #[.slice A0 l0.length c0] w fun e w'=>e=.returned (.bool r)∧Below w.heap.size w w':=by
 have HR0:=Aside0.mk hr0
 have HC0:=Aside0.mk hc0
 clear hr0 hc0
 have HB:=Aside0.mk (Below.refl w.heap.size w)
 have H:(if (l0.length:Int)≤20 then ((impl_Contact_impl_GoodPlan_lit1.f k l0).bind fun t235=>(some (!t235))) else (some false))=some r:=h
 clear h
 by_cases c2:(l0.length:Int)≤20
 ·rw[if_pos c2] at H
  have c2b0:decide ((l0.length:Int)≤20)=true:=decide_eq_true c2
  have c2b1:decide (l0.length≤20)=true:=decide_eq_true (by omega)
  clear c2
  replace H:=Option.bind_eq_some_iff.mp H
  obtain⟨t235,A30,H⟩:=H
  have A3:=Aside0.mk A30
  clear A30
  obtain rfl:=Option.some.inj H
  go_enter Try.func88,Try.ntmps88
  go_wp2_with (first|(go_at_call 144;(with_reducible refine(impl_Contact_impl_GoodPlan_lit1.calls k _ _ l0  t235 _ ?side1 ?side2 A3.out).mono ?_);(case side1=>repeat (first|exact HR0.out|(with_reducible refine Kd.C_alloc ?_ _)|(with_reducible refine Kd.C_drewN ?_ _)|(with_reducible refine Kd.C_drew ?_)));(case side2=>exact HC0.out);rintro e w4 ⟨rfl,hb⟩;have n0_:=Aside0.mk (below_step (bB) hb);clear HB;have HB:=n0_;clear n0_;(try clear hb);(try clear hb2);(try clear hk);(try clear hi)))
  go_ret
  exact⟨bE,bB⟩
 ·rw[if_neg c2] at H
  have c2b0:decide ((l0.length:Int)≤20)=false:=decide_eq_false c2
  have c2b1:decide (l0.length≤20)=false:=decide_eq_false (by omega)
  clear c2
  obtain rfl:=Option.some.inj H
  go_enter Try.func88,Try.ntmps88
  go_wp2
  go_ret
  exact⟨bE,bB⟩

/-! ### impl_isWhen: function 90 -/
def impl_isWhen.f (a0:Int):Option (Bool):=(impl_within.f a0 0 1000).bind fun t236=>(some t236)
set_option maxHeartbeats 8000000 in
set_option maxRecDepth 100000 in
theorem impl_isWhen.calls (a0:Int) (r:Bool) (w:World) (h:impl_isWhen.f a0=some r) :
  Calls Try.prog 90 #[.int .i64 a0] w fun e w'=>e=.returned (.bool r)∧Drawn0 w w':=by
 have H:((impl_within.f a0 0 1000).bind fun t236=>(some t236))=some r:=h
 clear h
 replace H:=Option.bind_eq_some_iff.mp H
 obtain⟨t236,A20,H⟩:=H
 have A2:=Aside0.mk A20
 clear A20
 obtain rfl:=Option.some.inj H
 go_enter Try.func90,Try.ntmps90
 go_wp2_with (first|((with_reducible refine gate_callee (f:=79) rfl ?_);refine goesA (some 4) rfl rfl Try.func79 #[.int .i64 a0,.int .i64 0,.int .i64 1000] rfl ?_;(with_reducible refine(impl_within.calls a0 0 1000 t236 _ A2.out).mono ?_);rintro e w' ⟨rfl,⟨nd,rfl⟩⟩;refine⟨_,rfl,?_⟩))
 go_ret
 exact⟨bR,bW⟩

/-! ### impl_Contact_by: function 122 -/
def impl_Contact_by.f (a0_0:Int) (a0_1:Int) (a0_2:Int) (a0_3:Int) (a0_4:Int) (a1:Int):Option (Int × Bool):=some (wrap64 ((mx a1 a0_2)+a0_4),decide ((mx a1 a0_2) < a0_3))
set_option maxHeartbeats 8000000 in
set_option maxRecDepth 100000 in
theorem impl_Contact_by.calls (a0_0:Int) (a0_1:Int) (a0_2:Int) (a0_3:Int) (a0_4:Int) (a1:Int) (r1:Int) (r2:Bool) (w:World) (h:impl_Contact_by.f a0_0 a0_1 a0_2 a0_3 a0_4 a1=some (r1,r2)) :
  Calls Try.prog 122 #[.agg #[.int .i64 a0_0,.int .i64 a0_1,.int .i64 a0_2,.int .i64 a0_3,.int .i64 a0_4],.int .i64 a1] w fun e w'=>e=.returned (.tuple #[.int .i64 r1,.bool r2])∧Below w.heap.size w w':=by
 have hu104:=Try.underlying104
 have HB:=Aside0.mk (Below.refl w.heap.size w)
 have H:(some (wrap64 ((mx a1 a0_2)+a0_4),decide ((mx a1 a0_2) < a0_3)))=some (r1,r2):=h
 clear h
 obtain⟨ji3,hji3⟩ : ∃ j_:Int,(mx a1 a0_2)=j_:=⟨_,rfl⟩
 replace H:(some (wrap64 ((ji3)+a0_4),decide ((ji3) < a0_3)))=some (r1,r2):=by first|(rw[hji3] at H;exact H)|(simp only[hji3] at H ⊢;exact H)
 have hji3_:(if a1 < a0_2 then a0_2 else a1)=ji3:=hji3
 simp only[Option.some.injEq,Prod.mk.injEq] at H
 obtain⟨rfl,rfl⟩:=H
 go_enter Try.func122,Try.ntmps122
 go_wp2_with (first|((with_reducible refine gate_dst (N:=2) rfl ?_);refine box_event ?hg (N:=2) ?hd (cs:=#[.int .i64 a0_0,.int .i64 a0_1,.int .i64 a0_2,.int .i64 a0_3,.int .i64 a0_4]) (t:=104) ?hr ?_;(case hd=>rfl);(case hg=>rfl);(case hr=>first|(go_simp;done)|(go_simp;rfl));intro gb237 hg w4 hbox hb;have n0_:=Aside0.mk (below_step (bB) hb);have n1_:=Aside0.mk (hbox);have n2_:=Aside0.mk ((bG:w.heap.size≤gb237));have n3_:=Aside0.mk ((bG:w.heap.size≤gb237));clear HB;have HB:=n0_;have BK237:=n1_;have GW237:=n2_;have GE237:=n3_;clear n0_ n1_ n2_ n3_;clear hb hbox hg;have hcz5_0:w4.cell? ⟨gb237,0,none⟩=some (.int .i64 a0_0):=(blk_cell BK237.out 0).trans rfl;have hcz5_1:w4.cell? ⟨gb237,1,none⟩=some (.int .i64 a0_1):=(blk_cell BK237.out 1).trans rfl;have hcz5_2:w4.cell? ⟨gb237,2,none⟩=some (.int .i64 a0_2):=(blk_cell BK237.out 2).trans rfl;have hcz5_3:w4.cell? ⟨gb237,3,none⟩=some (.int .i64 a0_3):=(blk_cell BK237.out 3).trans rfl;have hcz5_4:w4.cell? ⟨gb237,4,none⟩=some (.int .i64 a0_4):=(blk_cell BK237.out 4).trans rfl;have hfz5_0:=blk_frozen BK237.out 0;have hfz5_1:=blk_frozen BK237.out 1;have hfz5_2:=blk_frozen BK237.out 2;have hfz5_3:=blk_frozen BK237.out 3;have hfz5_4:=blk_frozen BK237.out 4))
 repeat (go_quiet (first|((with_reducible refine gate_dst (N:=2) rfl ?_);refine box_event ?hg (N:=2) ?hd (cs:=#[.int .i64 a0_0,.int .i64 a0_1,.int .i64 a0_2,.int .i64 a0_3,.int .i64 a0_4]) (t:=104) ?hr ?_;(case hd=>rfl);(case hg=>rfl);(case hr=>first|(go_simp;done)|(go_simp;rfl));intro gb237 hg w4 hbox hb;have n0_:=Aside0.mk (below_step (bB) hb);have n1_:=Aside0.mk (hbox);have n2_:=Aside0.mk ((bG:w.heap.size≤gb237));have n3_:=Aside0.mk ((bG:w.heap.size≤gb237));clear HB;have HB:=n0_;have BK237:=n1_;have GW237:=n2_;have GE237:=n3_;clear n0_ n1_ n2_ n3_;clear hb hbox hg;have hcz5_0:w4.cell? ⟨gb237,0,none⟩=some (.int .i64 a0_0):=(blk_cell BK237.out 0).trans rfl;have hcz5_1:w4.cell? ⟨gb237,1,none⟩=some (.int .i64 a0_1):=(blk_cell BK237.out 1).trans rfl;have hcz5_2:w4.cell? ⟨gb237,2,none⟩=some (.int .i64 a0_2):=(blk_cell BK237.out 2).trans rfl;have hcz5_3:w4.cell? ⟨gb237,3,none⟩=some (.int .i64 a0_3):=(blk_cell BK237.out 3).trans rfl;have hcz5_4:w4.cell? ⟨gb237,4,none⟩=some (.int .i64 a0_4):=(blk_cell BK237.out 4).trans rfl;have hfz5_0:=blk_frozen BK237.out 0;have hfz5_1:=blk_frozen BK237.out 1;have hfz5_2:=blk_frozen BK237.out 2;have hfz5_3:=blk_frozen BK237.out 3;have hfz5_4:=blk_frozen BK237.out 4));try go_wp2_with (first|((with_reducible refine gate_dst (N:=2) rfl ?_);refine box_event ?hg (N:=2) ?hd (cs:=#[.int .i64 a0_0,.int .i64 a0_1,.int .i64 a0_2,.int .i64 a0_3,.int .i64 a0_4]) (t:=104) ?hr ?_;(case hd=>rfl);(case hg=>rfl);(case hr=>first|(go_simp;done)|(go_simp;rfl));intro gb237 hg w4 hbox hb;have n0_:=Aside0.mk (below_step (bB) hb);have n1_:=Aside0.mk (hbox);have n2_:=Aside0.mk ((bG:w.heap.size≤gb237));have n3_:=Aside0.mk ((bG:w.heap.size≤gb237));clear HB;have HB:=n0_;have BK237:=n1_;have GW237:=n2_;have GE237:=n3_;clear n0_ n1_ n2_ n3_;clear hb hbox hg;have hcz5_0:w4.cell? ⟨gb237,0,none⟩=some (.int .i64 a0_0):=(blk_cell BK237.out 0).trans rfl;have hcz5_1:w4.cell? ⟨gb237,1,none⟩=some (.int .i64 a0_1):=(blk_cell BK237.out 1).trans rfl;have hcz5_2:w4.cell? ⟨gb237,2,none⟩=some (.int .i64 a0_2):=(blk_cell BK237.out 2).trans rfl;have hcz5_3:w4.cell? ⟨gb237,3,none⟩=some (.int .i64 a0_3):=(blk_cell BK237.out 3).trans rfl;have hcz5_4:w4.cell? ⟨gb237,4,none⟩=some (.int .i64 a0_4):=(blk_cell BK237.out 4).trans rfl;have hfz5_0:=blk_frozen BK237.out 0;have hfz5_1:=blk_frozen BK237.out 1;have hfz5_2:=blk_frozen BK237.out 2;have hfz5_3:=blk_frozen BK237.out 3;have hfz5_4:=blk_frozen BK237.out 4)))
 go_ret2
 exact⟨by first|rfl|(simp[errW_none,errW_some]<;>rfl)|(simp only[← hji3];first|rfl|(simp[errW_none,errW_some]<;>rfl))|(simp[*,errW_none,errW_some]<;>rfl),bS GE237.out⟩

/-! ### bits_Mul32: function 184 -/
def bits_Mul32.f (a0:Int) (a1:Int):Option (Int × Int):=some (((IntKind.u64.wrap ((IntKind.u64.wrap (a0)) * (IntKind.u64.wrap (a1)))) / 4294967296) % 4294967296,(IntKind.u64.wrap ((IntKind.u64.wrap (a0)) * (IntKind.u64.wrap (a1)))) % 4294967296)
set_option maxHeartbeats 8000000 in
set_option maxRecDepth 100000 in
theorem bits_Mul32.calls (a0:Int) (a1:Int) (r1:Int) (r2:Int) (w:World) (h:bits_Mul32.f a0 a1=some (r1,r2)) :
  Calls Try.prog 184 #[.int .u32 a0,.int .u32 a1] w fun e w'=>e=.returned (.tuple #[.int .u32 r1,.int .u32 r2])∧Drawn0 w w':=by
 have H:(some (((IntKind.u64.wrap ((IntKind.u64.wrap (a0)) * (IntKind.u64.wrap (a1)))) / 4294967296) % 4294967296,(IntKind.u64.wrap ((IntKind.u64.wrap (a0)) * (IntKind.u64.wrap (a1)))) % 4294967296))=some (r1,r2):=h
 clear h
 simp only[Option.some.injEq,Prod.mk.injEq] at H
 obtain⟨rfl,rfl⟩:=H
 go_enter Try.func184,Try.ntmps184
 go_wp2
 go_ret2
 exact⟨bR,bW⟩

/-! ### bits_Mul64: function 185 -/
def bits_Mul64.f (a0:Int) (a1:Int):Option (Int × Int):=some (IntKind.u64.wrap ((IntKind.u64.wrap ((IntKind.u64.wrap ((a0 / 4294967296) * (a1 / 4294967296)))+((IntKind.u64.wrap ((IntKind.u64.wrap ((a0 / 4294967296) * (Go.bits .and .u64 a1 4294967295)))+((IntKind.u64.wrap ((Go.bits .and .u64 a0 4294967295) * (Go.bits .and .u64 a1 4294967295))) / 4294967296))) / 4294967296)))+((IntKind.u64.wrap ((Go.bits .and .u64 (IntKind.u64.wrap ((IntKind.u64.wrap ((a0 / 4294967296) * (Go.bits .and .u64 a1 4294967295)))+((IntKind.u64.wrap ((Go.bits .and .u64 a0 4294967295) * (Go.bits .and .u64 a1 4294967295))) / 4294967296))) 4294967295)+(IntKind.u64.wrap ((Go.bits .and .u64 a0 4294967295) * (a1 / 4294967296))))) / 4294967296)),IntKind.u64.wrap (a0 * a1))
set_option maxHeartbeats 8000000 in
set_option maxRecDepth 100000 in
theorem bits_Mul64.calls (a0:Int) (a1:Int) (r1:Int) (r2:Int) (w:World) (h:bits_Mul64.f a0 a1=some (r1,r2)) :
  Calls Try.prog 185 #[.int .u64 a0,.int .u64 a1] w fun e w'=>e=.returned (.tuple #[.int .u64 r1,.int .u64 r2])∧Drawn0 w w':=by
 have H:(some (IntKind.u64.wrap ((IntKind.u64.wrap ((IntKind.u64.wrap ((a0 / 4294967296) * (a1 / 4294967296)))+((IntKind.u64.wrap ((IntKind.u64.wrap ((a0 / 4294967296) * (Go.bits .and .u64 a1 4294967295)))+((IntKind.u64.wrap ((Go.bits .and .u64 a0 4294967295) * (Go.bits .and .u64 a1 4294967295))) / 4294967296))) / 4294967296)))+((IntKind.u64.wrap ((Go.bits .and .u64 (IntKind.u64.wrap ((IntKind.u64.wrap ((a0 / 4294967296) * (Go.bits .and .u64 a1 4294967295)))+((IntKind.u64.wrap ((Go.bits .and .u64 a0 4294967295) * (Go.bits .and .u64 a1 4294967295))) / 4294967296))) 4294967295)+(IntKind.u64.wrap ((Go.bits .and .u64 a0 4294967295) * (a1 / 4294967296))))) / 4294967296)),IntKind.u64.wrap (a0 * a1)))=some (r1,r2):=h
 clear h
 simp only[Option.some.injEq,Prod.mk.injEq] at H
 obtain⟨rfl,rfl⟩:=H
 go_enter Try.func185,Try.ntmps185
 go_wp2
 go_ret2
 exact⟨bR,bW⟩

end Go.Proofs.Yteneeohaoplpbaa.XFnExactDeliveredBy
