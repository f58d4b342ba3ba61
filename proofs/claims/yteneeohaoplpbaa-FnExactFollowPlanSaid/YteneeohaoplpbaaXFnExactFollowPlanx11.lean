-- Written by this session's own program (wip/xprint.py) out of the translation; Lean checks it.
import Derived.Test.YteneeohaoplpbaaXFnExactFollowPlanx0
import Derived.Test.YteneeohaoplpbaaXFnExactFollowPlanx7
import Derived.Test.YteneeohaoplpbaaXFnExactFollowPlanx9
import Derived.Test.YteneeohaoplpbaaXFnExactFollowPlanx10
namespace Go.Proofs.Yteneeohaoplpbaa.XFnExactFollowPlan
open Go.RowKit Go.Proofs.YteneeohaoplpbaaW.PrintWords Go.Proofs.YteneeohaoplpbaaW.PrintLast Go.Proofs.YteneeohaoplpbaaW.PrintMore
attribute [local go_sem] max2_int min2_int max_two min_two max_three min_three max_four min_four   -- for this text's walks alone
set_option linter.unusedVariables false
set_option linter.unusedSimpArgs false

/-! ### impl_ForwardStep: function 54 -/
def impl_ForwardStep.j0:Nat→List (S104)→Int→List Int→Bool→Int→Int→Bool→Int→Int→Int→Int→Int→Int→ByteArray→Option (Int × Int × Bool)
 | 0,_,_,_,_,_,_,_,_,_,_,_,_,_,_=>none
 | k+1,x0,x3,x13,x37,x296000,x296001,x296002,x296003,x296004,x296005,x296006,x296007,x296008,x296009=>if x37=true then (some (0,0,false)) else (if 0 < (x13.length:Int) then (if 0≤(rd x13 0) then (if (rd x13 0) < (x0.length:Int) then ((impl_Contact_by.f ((rd_T104 x0 (rd x13 0)).f0) ((rd_T104 x0 (rd x13 0)).f1) ((rd_T104 x0 (rd x13 0)).f2) ((rd_T104 x0 (rd x13 0)).f3) ((rd_T104 x0 (rd x13 0)).f4) x3).bind fun bt304=>(if bt304.1 > (wrap64 (x296003+x296005)) then (some (0,0,false)) else (some (rd x13 0,bt304.1,true)))) else (none)) else (none)) else (none))
def impl_ForwardStep.f (k:Nat) (l0:List (S104)) (a1_0:Int) (a1_1:Int) (a1_2:Bool) (a1_3:Int) (a1_4:Int) (a1_5:Int) (a1_6:Int) (a1_7:Int) (a1_8:Int) (a1_9:ByteArray) (a2:Int) (a3:Int) (a4:Int):Option (Int × Int × Bool):=(impl_fits.f k l0 a1_0 a1_1 a1_2 a1_3 a1_4 a1_5 a1_6 a1_7 a1_8 a1_9).bind fun t296=>(if t296=true then ((impl_RouteTo.f k l0 a2 a3 a4).bind fun bt297=>(if bt297.2.2=true then (impl_ForwardStep.j0 k l0 a3 bt297.1 ((bt297.1.length:Int) == 0) a1_0 a1_1 a1_2 a1_3 a1_4 a1_5 a1_6 a1_7 a1_8 a1_9) else (impl_ForwardStep.j0 k l0 a3 bt297.1 true a1_0 a1_1 a1_2 a1_3 a1_4 a1_5 a1_6 a1_7 a1_8 a1_9))) else (some (0,0,false)))
theorem impl_ForwardStep.mono_l : ∀ k,(∀ y0 y1 y2 y3 y4 y5 y6 y7 y8 y9 y10 y11 y12 y13,LeO (impl_ForwardStep.j0 k y0 y1 y2 y3 y4 y5 y6 y7 y8 y9 y10 y11 y12 y13) (impl_ForwardStep.j0 (k+1) y0 y1 y2 y3 y4 y5 y6 y7 y8 y9 y10 y11 y12 y13))
 | 0=>fun _ _ _ _ _ _ _ _ _ _ _ _ _ _ r h=>by simp[impl_ForwardStep.j0] at h
 | k+1=>by
  have ih0:=impl_ForwardStep.mono_l k
  ·intro y0 y1 y2 y3 y4 y5 y6 y7 y8 y9 y10 y11 y12 y13
   unfold impl_ForwardStep.j0
   repeat' first
   | (with_reducible exact ih0 _ _ _ _ _ _ _ _ _ _ _ _ _ _)
   | (with_reducible exact impl_RouteTo.mono _ _ _ _ _)
   | (with_reducible exact impl_fits.mono _ _ _ _ _ _ _ _ _ _ _ _)
   | (with_reducible exact LeO.refl _)
   | (with_reducible exact LeO.none _)
   | (with_reducible refine LeO.ite ?_ ?_)
   | (with_reducible refine LeO.bind ?_ (fun _ => ?_))
   | exact ih0 _ _ _ _ _ _ _ _ _ _ _ _ _ _
   | exact impl_RouteTo.mono _ _ _ _ _
   | exact impl_fits.mono _ _ _ _ _ _ _ _ _ _ _ _
   | exact LeO.none _
   | refine LeO.ite ?_ ?_
   | refine LeO.bind ?_ (fun _ => ?_)
theorem impl_ForwardStep.mono : ∀ a0 a1 a2 a3 a4 a5 a6 a7 a8 a9 a10 a11 a12 a13 k,LeO (impl_ForwardStep.f k a0 a1 a2 a3 a4 a5 a6 a7 a8 a9 a10 a11 a12 a13) (impl_ForwardStep.f (k+1) a0 a1 a2 a3 a4 a5 a6 a7 a8 a9 a10 a11 a12 a13):=by
 intro a0 a1 a2 a3 a4 a5 a6 a7 a8 a9 a10 a11 a12 a13 k
 have ih0:=impl_ForwardStep.mono_l k
 unfold impl_ForwardStep.f
 repeat' first
  | (with_reducible exact ih0 _ _ _ _ _ _ _ _ _ _ _ _ _ _)
  | (with_reducible exact impl_RouteTo.mono _ _ _ _ _)
  | (with_reducible exact impl_fits.mono _ _ _ _ _ _ _ _ _ _ _ _)
  | (with_reducible exact LeO.refl _)
  | (with_reducible exact LeO.none _)
  | (with_reducible refine LeO.ite ?_ ?_)
  | (with_reducible refine LeO.bind ?_ (fun _ => ?_))
  | exact ih0 _ _ _ _ _ _ _ _ _ _ _ _ _ _
  | exact impl_RouteTo.mono _ _ _ _ _
  | exact impl_fits.mono _ _ _ _ _ _ _ _ _ _ _ _
  | exact LeO.none _
  | refine LeO.ite ?_ ?_
  | refine LeO.bind ?_ (fun _ => ?_)
set_option maxHeartbeats 8000000 in
set_option maxRecDepth 100000 in
theorem impl_ForwardStep.calls (k:Nat) (A0:Option Addr) (c0:Nat) (l0:List (S104)) (a1_0:Int) (a1_1:Int) (a1_2:Bool) (a1_3:Int) (a1_4:Int) (a1_5:Int) (a1_6:Int) (a1_7:Int) (a1_8:Int) (a1_9:ByteArray) (a2:Int) (a3:Int) (a4:Int) (r1:Int) (r2:Int) (r3:Bool) (w:World) (hr0:Kd.C k104 w A0 l0.length l0) (hc0:l0.length≤c0) (h:impl_ForwardStep.f k l0 a1_0 a1_1 a1_2 a1_3 a1_4 a1_5 a1_6 a1_7 a1_8 a1_9 a2 a3 a4=some (r1,r2,r3)) :
  Calls Try.prog 54 #[.slice A0 l0.length c0,.agg #[.int .i64 a1_0,.int .i64 a1_1,.bool a1_2,.int .i64 a1_3,.int .i64 a1_4,.int .i64 a1_5,.int .i64 a1_6,.int .i64 a1_7,.int .i64 a1_8,.string a1_9],.int .i64 a2,.int .i64 a3,.int .i64 a4] w fun e w'=>e=.returned (.tuple #[.int .i64 r1,.int .i64 r2,.bool r3])∧Below w.heap.size w w':=by
 have hu86:=Try.underlying86
 have hu104:=Try.underlying104
 have HR0:=Aside0.mk hr0
 have HC0:=Aside0.mk hc0
 clear hr0 hc0
 have HB:=Aside0.mk (Below.refl w.heap.size w)
 have H:((impl_fits.f k l0 a1_0 a1_1 a1_2 a1_3 a1_4 a1_5 a1_6 a1_7 a1_8 a1_9).bind fun t296=>(if t296=true then ((impl_RouteTo.f k l0 a2 a3 a4).bind fun bt297=>(if bt297.2.2=true then (impl_ForwardStep.j0 k l0 a3 bt297.1 ((bt297.1.length:Int) == 0) a1_0 a1_1 a1_2 a1_3 a1_4 a1_5 a1_6 a1_7 a1_8 a1_9) else (impl_ForwardStep.j0 k l0 a3 bt297.1 true a1_0 a1_1 a1_2 a1_3 a1_4 a1_5 a1_6 a1_7 a1_8 a1_9))) else (some (0,0,false))))=some (r1,r2,r3):=h
 clear h
 replace H:=Option.bind_eq_some_iff.mp H
 obtain⟨t296,A60,H⟩:=H
 replace H:(if t296=true then ((impl_RouteTo.f k l0 a2 a3 a4).bind fun bt297=>(if bt297.2.2=true then (impl_ForwardStep.j0 k l0 a3 bt297.1 ((bt297.1.length:Int) == 0) a1_0 a1_1 a1_2 a1_3 a1_4 a1_5 a1_6 a1_7 a1_8 a1_9) else (impl_ForwardStep.j0 k l0 a3 bt297.1 true a1_0 a1_1 a1_2 a1_3 a1_4 a1_5 a1_6 a1_7 a1_8 a1_9))) else (some (0,0,false)))=some (r1,r2,r3):=H
 have A6:=Aside0.mk A60
 clear A60
 by_cases c7:t296=true
 ·subst c7
  have H1:((impl_RouteTo.f k l0 a2 a3 a4).bind fun bt297=>(if bt297.2.2=true then (impl_ForwardStep.j0 k l0 a3 bt297.1 ((bt297.1.length:Int) == 0) a1_0 a1_1 a1_2 a1_3 a1_4 a1_5 a1_6 a1_7 a1_8 a1_9) else (impl_ForwardStep.j0 k l0 a3 bt297.1 true a1_0 a1_1 a1_2 a1_3 a1_4 a1_5 a1_6 a1_7 a1_8 a1_9)))=some (r1,r2,r3):=by rw[if_pos rfl] at H;exact H
  clear H
  have H:=H1
  clear H1
  replace H:=Option.bind_eq_some_iff.mp H
  obtain⟨⟨t297,t298,t299⟩,A80,H⟩:=H
  replace H:(if t299=true then (impl_ForwardStep.j0 k l0 a3 t297 ((t297.length:Int) == 0) a1_0 a1_1 a1_2 a1_3 a1_4 a1_5 a1_6 a1_7 a1_8 a1_9) else (impl_ForwardStep.j0 k l0 a3 t297 true a1_0 a1_1 a1_2 a1_3 a1_4 a1_5 a1_6 a1_7 a1_8 a1_9))=some (r1,r2,r3):=H
  have A8:=Aside0.mk A80
  clear A80
  have HC9:=Aside0.mk H
  clear H
  go_enter Try.func54,Try.ntmps54
  go_upto_region 4 with (first|((with_reducible refine gate_dst (N:=6) rfl ?_);(try (refine gate_guard (by rfl) ?_;dsimp only));refine box_event ?hg (N:=6) ?hd (cs:=#[.int .i64 a1_0,.int .i64 a1_1,.bool a1_2,.int .i64 a1_3,.int .i64 a1_4,.int .i64 a1_5,.int .i64 a1_6,.int .i64 a1_7,.int .i64 a1_8,.string a1_9]) (t:=86) ?hr ?_;(case hd=>rfl);(case hg=>rfl);(case hr=>first|(go_simp;done)|(go_simp;rfl));intro gb295 hg w10 hbox hb;have n0_:=Aside0.mk (below_step (bB) hb);have n1_:=Aside0.mk (hbox);have n2_:=Aside0.mk ((bG:w.heap.size≤gb295));have n3_:=Aside0.mk ((bG:w.heap.size≤gb295));clear HB;have HB:=n0_;have BK295:=n1_;have GW295:=n2_;have GE295:=n3_;clear n0_ n1_ n2_ n3_;clear hb hbox hg;have hcz11_0:w10.cell? ⟨gb295,0,none⟩=some (.int .i64 a1_0):=(blk_cell BK295.out 0).trans rfl;have hcz11_1:w10.cell? ⟨gb295,1,none⟩=some (.int .i64 a1_1):=(blk_cell BK295.out 1).trans rfl;have hcz11_2:w10.cell? ⟨gb295,2,none⟩=some (.bool a1_2):=(blk_cell BK295.out 2).trans rfl;have hcz11_3:w10.cell? ⟨gb295,3,none⟩=some (.int .i64 a1_3):=(blk_cell BK295.out 3).trans rfl;have hcz11_4:w10.cell? ⟨gb295,4,none⟩=some (.int .i64 a1_4):=(blk_cell BK295.out 4).trans rfl;have hcz11_5:w10.cell? ⟨gb295,5,none⟩=some (.int .i64 a1_5):=(blk_cell BK295.out 5).trans rfl;have hcz11_6:w10.cell? ⟨gb295,6,none⟩=some (.int .i64 a1_6):=(blk_cell BK295.out 6).trans rfl;have hcz11_7:w10.cell? ⟨gb295,7,none⟩=some (.int .i64 a1_7):=(blk_cell BK295.out 7).trans rfl;have hcz11_8:w10.cell? ⟨gb295,8,none⟩=some (.int .i64 a1_8):=(blk_cell BK295.out 8).trans rfl;have hcz11_9:w10.cell? ⟨gb295,9,none⟩=some (.string a1_9):=(blk_cell BK295.out 9).trans rfl;have hfz11_0:=blk_frozen BK295.out 0;have hfz11_1:=blk_frozen BK295.out 1;have hfz11_2:=blk_frozen BK295.out 2;have hfz11_3:=blk_frozen BK295.out 3;have hfz11_4:=blk_frozen BK295.out 4;have hfz11_5:=blk_frozen BK295.out 5;have hfz11_6:=blk_frozen BK295.out 6;have hfz11_7:=blk_frozen BK295.out 7;have hfz11_8:=blk_frozen BK295.out 8;have hfz11_9:=blk_frozen BK295.out 9)|((with_reducible refine gate_callee (f:=121) rfl ?_);refine goesA (some 20) rfl rfl Try.func121 #[.slice A0 l0.length c0,.agg #[.int .i64 a1_0,.int .i64 a1_1,.bool a1_2,.int .i64 a1_3,.int .i64 a1_4,.int .i64 a1_5,.int .i64 a1_6,.int .i64 a1_7,.int .i64 a1_8,.string a1_9]] rfl ?_;(with_reducible refine(impl_fits.calls k _ _ l0 a1_0 a1_1 a1_2 a1_3 a1_4 a1_5 a1_6 a1_7 a1_8 a1_9 true _ ?side1 ?side2 A6.out).mono ?_);(case side1=>exact bC HR0.out);(case side2=>exact HC0.out);rintro e w12 ⟨rfl,hb⟩;refine⟨_,rfl,?_⟩;have n0_:=Aside0.mk (blk_below (g:=gb295) (o:=.cells #[.int .i64 a1_0,.int .i64 a1_1,.bool a1_2,.int .i64 a1_3,.int .i64 a1_4,.int .i64 a1_5,.int .i64 a1_6,.int .i64 a1_7,.int .i64 a1_8,.string a1_9] 86 (0,0)) (bL BK295.out) hb);have n1_:=Aside0.mk (below_step (bS GE295.out) hb);clear BK295 HB;have BK295:=n0_;have HB:=n1_;clear n0_ n1_;(try clear hb);(try clear hb2);(try clear hk);(try clear hi))|((with_reducible refine gate_callee (f:=63) rfl ?_);refine goesA (some 27) rfl rfl Try.func63 #[.slice A0 l0.length c0,.int .i64 a2,.int .i64 a3,.int .i64 a4] rfl ?_;(with_reducible refine(impl_RouteTo.calls k _ _ l0 a2 a3 a4 t297 t298 t299 _ ?side1 ?side2 A8.out).mono ?_);(case side1=>exact bC HR0.out);(case side2=>exact HC0.out);rintro e w13 ⟨v300,rfl,ho0,hb⟩;refine⟨_,rfl,?_⟩;have n0_:=Aside0.mk (Kd.R_lower ho0 (below_size (bS GE295.out)));have n1_:=Aside0.mk (blk_below (g:=gb295) (o:=.cells #[.int .i64 a1_0,.int .i64 a1_1,.bool a1_2,.int .i64 a1_3,.int .i64 a1_4,.int .i64 a1_5,.int .i64 a1_6,.int .i64 a1_7,.int .i64 a1_8,.string a1_9] 86 (0,0)) (bL BK295.out) hb);have n2_:=Aside0.mk (below_step (bS GE295.out) hb);clear BK295 HB;have HO301:=n0_;have BK295:=n1_;have HB:=n2_;clear n0_ n1_ n2_;(try clear hb);(try clear hb2);(try clear hk);(try clear hi);(try clear ho0)))
  (try simp only[Act.put,List.setIfInBounds_toArray,List.set_cons_zero,List.set_cons_succ])
  go_cut [37] (fun v37 wc => ∃ (kq:Nat) (x37_8:Bool),v37=.bool x37_8∧Aside0 (impl_ForwardStep.j0 kq l0 a3 t297 x37_8 a1_0 a1_1 a1_2 a1_3 a1_4 a1_5 a1_6 a1_7 a1_8 a1_9=some (r1,r2,r3))∧Aside0 (kq≤k)∧Aside0 (Kd.R (Kd.int .i64) 3 wc w.heap.size (fun _=>True) v300 t297)∧Aside0 (wc.heap[gb295]?=some (.cells #[.int .i64 a1_0,.int .i64 a1_1,.bool a1_2,.int .i64 a1_3,.int .i64 a1_4,.int .i64 a1_5,.int .i64 a1_6,.int .i64 a1_7,.int .i64 a1_8,.string a1_9] 86 (0,0)))∧Aside0 (Below w.heap.size w wc))
  case first =>
   have H:=HC9.out
   clear HC9
   by_cases c14:t299=true
   ·subst c14
    have H1:(impl_ForwardStep.j0 k l0 a3 t297 ((t297.length:Int) == 0) a1_0 a1_1 a1_2 a1_3 a1_4 a1_5 a1_6 a1_7 a1_8 a1_9)=some (r1,r2,r3):=by rw[if_pos rfl] at H;exact H
    clear H
    have H:=H1
    clear H1
    have H':=Aside0.mk H
    clear H
    obtain⟨Ao15,co15,eo15⟩:=Kd.R_slice HO301.out
    subst eo15
    go_wp2
    go_meet
    case rel=>exact⟨_,(((t297.length:Int) == 0)),(bR),H',⟨by first|omega|exact Nat.le_refl _⟩,⟨by(with_reducible repeat (first|apply Kd.R_alloc|apply Kd.R_drewN|apply Kd.R_drew));exact HO301.out⟩,⟨by(with_reducible repeat (first|refine blk_drewN ?_ _|refine blk_drew ?_|refine blk_alloc ?_ _));exact BK295.out⟩,⟨bS GE295.out⟩⟩
   ·replace c14:=Bool.eq_false_iff.mpr c14
    subst c14
    have H1:(impl_ForwardStep.j0 k l0 a3 t297 true a1_0 a1_1 a1_2 a1_3 a1_4 a1_5 a1_6 a1_7 a1_8 a1_9)=some (r1,r2,r3):=by rw[if_neg (show ¬ (false=true) by decide)] at H;exact H
    clear H
    have H:=H1
    clear H1
    have H':=Aside0.mk H
    clear H
    go_wp2
    go_meet
    case rel=>exact⟨_,(true),(bR),H',⟨by first|omega|exact Nat.le_refl _⟩,⟨by(with_reducible repeat (first|apply Kd.R_alloc|apply Kd.R_drewN|apply Kd.R_drew));exact HO301.out⟩,⟨by(with_reducible repeat (first|refine blk_drewN ?_ _|refine blk_drew ?_|refine blk_alloc ?_ _));exact BK295.out⟩,⟨bS GE295.out⟩⟩
  case rest =>
   clear HC9
   try clear c1
   try clear p2
   try clear c5
   try clear c6
   try clear c7
   try clear c12
   try clear c14
   try clear hcz11_0
   try clear hcz11_1
   try clear hcz11_2
   try clear hcz11_3
   try clear hcz11_4
   try clear hcz11_5
   try clear hcz11_6
   try clear hcz11_7
   try clear hcz11_8
   try clear hcz11_9
   try clear hfz11_0
   try clear hfz11_1
   try clear hfz11_2
   try clear hfz11_3
   try clear hfz11_4
   try clear hfz11_5
   try clear hfz11_6
   try clear hfz11_7
   try clear hfz11_8
   try clear hfz11_9
   obtain⟨kq,x37_8,rfl,HA,HJ8,HO_13,BK295,HB⟩:=hcut
   cases kq with
   | zero=>exact absurd HA.out (by simp[impl_ForwardStep.j0])
   | succ kj8 =>
    have H:=HA.out
    clear HA
    simp only[impl_ForwardStep.j0] at H
    by_cases c16:x37_8=true
    ·subst c16
     have H1:(some (0,0,false))=some (r1,r2,r3):=by rw[if_pos rfl] at H;exact H
     clear H
     have H:=H1
     clear H1
     simp only[Option.some.injEq,Prod.mk.injEq] at H
     obtain⟨rfl,rfl,rfl⟩:=H
     go_wp2
     go_ret3
     exact⟨bE,bS GE295.out⟩
    ·replace c16:=Bool.eq_false_iff.mpr c16
     subst c16
     have H1:(if 0 < (t297.length:Int) then (if 0≤(rd t297 0) then (if (rd t297 0) < (l0.length:Int) then ((impl_Contact_by.f ((rd_T104 l0 (rd t297 0)).f0) ((rd_T104 l0 (rd t297 0)).f1) ((rd_T104 l0 (rd t297 0)).f2) ((rd_T104 l0 (rd t297 0)).f3) ((rd_T104 l0 (rd t297 0)).f4) a3).bind fun bt304=>(if bt304.1 > (wrap64 (a1_3+a1_5)) then (some (0,0,false)) else (some (rd t297 0,bt304.1,true)))) else (none)) else (none)) else (none))=some (r1,r2,r3):=by rw[if_neg (show ¬ (false=true) by decide)] at H;exact H
     clear H
     have H:=H1
     clear H1
     by_cases c17:0 < (t297.length:Int)
     ·rw[if_pos c17] at H
      have c17b0:decide (0 < (t297.length:Int))=true:=decide_eq_true c17
      have c17b1:decide (0 < t297.length)=true:=decide_eq_true (by omega)
      clear c17
      by_cases c18:0≤(rd t297 0)
      ·rw[if_pos c18] at H
       have c18b0:decide (0≤(rd t297 0))=true:=decide_eq_true c18
       clear c18
       by_cases c19:(rd t297 0) < (l0.length:Int)
       ·rw[if_pos c19] at H
        have c19b0:decide ((rd t297 0) < (l0.length:Int))=true:=decide_eq_true c19
        clear c19
        replace H:=Option.bind_eq_some_iff.mp H
        obtain⟨⟨t304,t305⟩,A200,H⟩:=H
        replace H:(if t304 > (wrap64 (a1_3+a1_5)) then (some (0,0,false)) else (some (rd t297 0,t304,true)))=some (r1,r2,r3):=H
        have A20:=Aside0.mk A200
        clear A200
        by_cases c21:t304 > (wrap64 (a1_3+a1_5))
        ·rw[if_pos c21] at H
         have c21b0:decide ((wrap64 (a1_3+a1_5)) < t304)=true:=decide_eq_true c21
         clear c21
         simp only[Option.some.injEq,Prod.mk.injEq] at H
         obtain⟨rfl,rfl,rfl⟩:=H
         obtain⟨Ao22,co22,eo22⟩:=Kd.R_slice HO_13.out
         subst eo22
         have p302:0≤(0:Int):=(by omega)
         have q302:0 < (t297.length:Int):=of_decide_eq_true (bD)
         obtain⟨ad302,e302,hx302_0⟩:=Kd.at_int (Kd.R_reads' HO_13.out).2.2 0 p302 q302
         cases e302
         have qi302:(0 < t297.length)=True:=eq_true (by omega)
         (try rw[show((0:Int)).toNat=0 from rfl] at hx302_0)
         (try rw[Addr.add_zero'] at hx302_0)
         replace p302:=eq_true p302
         replace q302:=eq_true q302
         have p303:0≤((rd t297 0):Int):=of_decide_eq_true (bD)
         have q303:(rd t297 0) < (l0.length:Int):=of_decide_eq_true (bD)
         obtain⟨ad303,e303,hx303_0,hx303_1,hx303_2,hx303_3,hx303_4⟩:=at_T104 HR0.out (rd t297 0) p303 q303
         cases e303
         replace hx303_0:=(HB.out.cell (World.block_lt_of_cell? w _ hx303_0)).trans hx303_0
         replace hx303_1:=(HB.out.cell (World.block_lt_of_cell? w _ hx303_1)).trans hx303_1
         replace hx303_2:=(HB.out.cell (World.block_lt_of_cell? w _ hx303_2)).trans hx303_2
         replace hx303_3:=(HB.out.cell (World.block_lt_of_cell? w _ hx303_3)).trans hx303_3
         replace hx303_4:=(HB.out.cell (World.block_lt_of_cell? w _ hx303_4)).trans hx303_4
         replace p303:=eq_true p303
         replace q303:=eq_true q303
         go_wp2_with (first|((with_reducible refine gate_callee (f:=122) rfl ?_);refine goesA (some 46) rfl rfl Try.func122 #[.agg #[.int .i64 ((rd_T104 l0 (rd t297 0)).f0),.int .i64 ((rd_T104 l0 (rd t297 0)).f1),.int .i64 ((rd_T104 l0 (rd t297 0)).f2),.int .i64 ((rd_T104 l0 (rd t297 0)).f3),.int .i64 ((rd_T104 l0 (rd t297 0)).f4)],.int .i64 a3] rfl ?_;(with_reducible refine(impl_Contact_by.calls ((rd_T104 l0 (rd t297 0)).f0) ((rd_T104 l0 (rd t297 0)).f1) ((rd_T104 l0 (rd t297 0)).f2) ((rd_T104 l0 (rd t297 0)).f3) ((rd_T104 l0 (rd t297 0)).f4) a3 t304 t305 _ A20.out).mono ?_);rintro e w23 ⟨rfl,hb⟩;refine⟨_,rfl,?_⟩;have n0_:=Aside0.mk (Kd.R_below (bK HO_13.out) hb);have n1_:=Aside0.mk (blk_below (g:=gb295) (o:=.cells #[.int .i64 a1_0,.int .i64 a1_1,.bool a1_2,.int .i64 a1_3,.int .i64 a1_4,.int .i64 a1_5,.int .i64 a1_6,.int .i64 a1_7,.int .i64 a1_8,.string a1_9] 86 (0,0)) (bL BK295.out) hb);have n2_:=Aside0.mk (below_step (bS GE295.out) hb);clear HO_13 BK295 HB;have HO_13:=n0_;have BK295:=n1_;have HB:=n2_;clear n0_ n1_ n2_;(try clear hb);(try clear hb2);(try clear hk);(try clear hi);have hcz24_0:w23.cell? ⟨gb295,0,none⟩=some (.int .i64 a1_0):=(blk_cell BK295.out 0).trans rfl;have hcz24_1:w23.cell? ⟨gb295,1,none⟩=some (.int .i64 a1_1):=(blk_cell BK295.out 1).trans rfl;have hcz24_2:w23.cell? ⟨gb295,2,none⟩=some (.bool a1_2):=(blk_cell BK295.out 2).trans rfl;have hcz24_3:w23.cell? ⟨gb295,3,none⟩=some (.int .i64 a1_3):=(blk_cell BK295.out 3).trans rfl;have hcz24_4:w23.cell? ⟨gb295,4,none⟩=some (.int .i64 a1_4):=(blk_cell BK295.out 4).trans rfl;have hcz24_5:w23.cell? ⟨gb295,5,none⟩=some (.int .i64 a1_5):=(blk_cell BK295.out 5).trans rfl;have hcz24_6:w23.cell? ⟨gb295,6,none⟩=some (.int .i64 a1_6):=(blk_cell BK295.out 6).trans rfl;have hcz24_7:w23.cell? ⟨gb295,7,none⟩=some (.int .i64 a1_7):=(blk_cell BK295.out 7).trans rfl;have hcz24_8:w23.cell? ⟨gb295,8,none⟩=some (.int .i64 a1_8):=(blk_cell BK295.out 8).trans rfl;have hcz24_9:w23.cell? ⟨gb295,9,none⟩=some (.string a1_9):=(blk_cell BK295.out 9).trans rfl;have hfz24_0:=blk_frozen BK295.out 0;have hfz24_1:=blk_frozen BK295.out 1;have hfz24_2:=blk_frozen BK295.out 2;have hfz24_3:=blk_frozen BK295.out 3;have hfz24_4:=blk_frozen BK295.out 4;have hfz24_5:=blk_frozen BK295.out 5;have hfz24_6:=blk_frozen BK295.out 6;have hfz24_7:=blk_frozen BK295.out 7;have hfz24_8:=blk_frozen BK295.out 8;have hfz24_9:=blk_frozen BK295.out 9))
         go_ret3
         exact⟨bE,bS GE295.out⟩
        ·rw[if_neg c21] at H
         have c21b0:decide ((wrap64 (a1_3+a1_5)) < t304)=false:=decide_eq_false c21
         clear c21
         simp only[Option.some.injEq,Prod.mk.injEq] at H
         obtain⟨rfl,rfl,rfl⟩:=H
         obtain⟨Ao25,co25,eo25⟩:=Kd.R_slice HO_13.out
         subst eo25
         have p302:0≤(0:Int):=(by omega)
         have q302:0 < (t297.length:Int):=of_decide_eq_true (bD)
         obtain⟨ad302,e302,hx302_0⟩:=Kd.at_int (Kd.R_reads' HO_13.out).2.2 0 p302 q302
         cases e302
         have qi302:(0 < t297.length)=True:=eq_true (by omega)
         (try rw[show((0:Int)).toNat=0 from rfl] at hx302_0)
         (try rw[Addr.add_zero'] at hx302_0)
         replace p302:=eq_true p302
         replace q302:=eq_true q302
         have p303:0≤((rd t297 0):Int):=of_decide_eq_true (bD)
         have q303:(rd t297 0) < (l0.length:Int):=of_decide_eq_true (bD)
         obtain⟨ad303,e303,hx303_0,hx303_1,hx303_2,hx303_3,hx303_4⟩:=at_T104 HR0.out (rd t297 0) p303 q303
         cases e303
         replace hx303_0:=(HB.out.cell (World.block_lt_of_cell? w _ hx303_0)).trans hx303_0
         replace hx303_1:=(HB.out.cell (World.block_lt_of_cell? w _ hx303_1)).trans hx303_1
         replace hx303_2:=(HB.out.cell (World.block_lt_of_cell? w _ hx303_2)).trans hx303_2
         replace hx303_3:=(HB.out.cell (World.block_lt_of_cell? w _ hx303_3)).trans hx303_3
         replace hx303_4:=(HB.out.cell (World.block_lt_of_cell? w _ hx303_4)).trans hx303_4
         replace p303:=eq_true p303
         replace q303:=eq_true q303
         go_wp2_with (first|((with_reducible refine gate_callee (f:=122) rfl ?_);refine goesA (some 46) rfl rfl Try.func122 #[.agg #[.int .i64 ((rd_T104 l0 (rd t297 0)).f0),.int .i64 ((rd_T104 l0 (rd t297 0)).f1),.int .i64 ((rd_T104 l0 (rd t297 0)).f2),.int .i64 ((rd_T104 l0 (rd t297 0)).f3),.int .i64 ((rd_T104 l0 (rd t297 0)).f4)],.int .i64 a3] rfl ?_;(with_reducible refine(impl_Contact_by.calls ((rd_T104 l0 (rd t297 0)).f0) ((rd_T104 l0 (rd t297 0)).f1) ((rd_T104 l0 (rd t297 0)).f2) ((rd_T104 l0 (rd t297 0)).f3) ((rd_T104 l0 (rd t297 0)).f4) a3 t304 t305 _ A20.out).mono ?_);rintro e w26 ⟨rfl,hb⟩;refine⟨_,rfl,?_⟩;have n0_:=Aside0.mk (Kd.R_below (bK HO_13.out) hb);have n1_:=Aside0.mk (blk_below (g:=gb295) (o:=.cells #[.int .i64 a1_0,.int .i64 a1_1,.bool a1_2,.int .i64 a1_3,.int .i64 a1_4,.int .i64 a1_5,.int .i64 a1_6,.int .i64 a1_7,.int .i64 a1_8,.string a1_9] 86 (0,0)) (bL BK295.out) hb);have n2_:=Aside0.mk (below_step (bS GE295.out) hb);clear HO_13 BK295 HB;have HO_13:=n0_;have BK295:=n1_;have HB:=n2_;clear n0_ n1_ n2_;(try clear hb);(try clear hb2);(try clear hk);(try clear hi);have hcz27_0:w26.cell? ⟨gb295,0,none⟩=some (.int .i64 a1_0):=(blk_cell BK295.out 0).trans rfl;have hcz27_1:w26.cell? ⟨gb295,1,none⟩=some (.int .i64 a1_1):=(blk_cell BK295.out 1).trans rfl;have hcz27_2:w26.cell? ⟨gb295,2,none⟩=some (.bool a1_2):=(blk_cell BK295.out 2).trans rfl;have hcz27_3:w26.cell? ⟨gb295,3,none⟩=some (.int .i64 a1_3):=(blk_cell BK295.out 3).trans rfl;have hcz27_4:w26.cell? ⟨gb295,4,none⟩=some (.int .i64 a1_4):=(blk_cell BK295.out 4).trans rfl;have hcz27_5:w26.cell? ⟨gb295,5,none⟩=some (.int .i64 a1_5):=(blk_cell BK295.out 5).trans rfl;have hcz27_6:w26.cell? ⟨gb295,6,none⟩=some (.int .i64 a1_6):=(blk_cell BK295.out 6).trans rfl;have hcz27_7:w26.cell? ⟨gb295,7,none⟩=some (.int .i64 a1_7):=(blk_cell BK295.out 7).trans rfl;have hcz27_8:w26.cell? ⟨gb295,8,none⟩=some (.int .i64 a1_8):=(blk_cell BK295.out 8).trans rfl;have hcz27_9:w26.cell? ⟨gb295,9,none⟩=some (.string a1_9):=(blk_cell BK295.out 9).trans rfl;have hfz27_0:=blk_frozen BK295.out 0;have hfz27_1:=blk_frozen BK295.out 1;have hfz27_2:=blk_frozen BK295.out 2;have hfz27_3:=blk_frozen BK295.out 3;have hfz27_4:=blk_frozen BK295.out 4;have hfz27_5:=blk_frozen BK295.out 5;have hfz27_6:=blk_frozen BK295.out 6;have hfz27_7:=blk_frozen BK295.out 7;have hfz27_8:=blk_frozen BK295.out 8;have hfz27_9:=blk_frozen BK295.out 9;have p306:0≤(0:Int):=(by omega);have q306:0 < (t297.length:Int):=of_decide_eq_true (bD);obtain⟨ad306,e306,hx306_0⟩:=Kd.at_int (Kd.R_reads' HO_13.out).2.2 0 p306 q306;obtain rfl:ad302=ad306:=(by injection e306);have qi306:(0 < t297.length)=True:=eq_true (by omega);(try rw[show((0:Int)).toNat=0 from rfl] at hx306_0);(try rw[Addr.add_zero'] at hx306_0);replace p306:=eq_true p306;replace q306:=eq_true q306))
         go_ret3
         exact⟨bE,bS GE295.out⟩
       ·rw[if_neg c19] at H
        exact absurd H (by simp)
      ·rw[if_neg c18] at H
       exact absurd H (by simp)
     ·rw[if_neg c17] at H
      exact absurd H (by simp)
 ·replace c7:=Bool.eq_false_iff.mpr c7
  subst c7
  have H1:(some (0,0,false))=some (r1,r2,r3):=by rw[if_neg (show ¬ (false=true) by decide)] at H;exact H
  clear H
  have H:=H1
  clear H1
  simp only[Option.some.injEq,Prod.mk.injEq] at H
  obtain⟨rfl,rfl,rfl⟩:=H
  go_enter Try.func54,Try.ntmps54
  go_wp2_with (first|((with_reducible refine gate_dst (N:=6) rfl ?_);(try (refine gate_guard (by rfl) ?_;dsimp only));refine box_event ?hg (N:=6) ?hd (cs:=#[.int .i64 a1_0,.int .i64 a1_1,.bool a1_2,.int .i64 a1_3,.int .i64 a1_4,.int .i64 a1_5,.int .i64 a1_6,.int .i64 a1_7,.int .i64 a1_8,.string a1_9]) (t:=86) ?hr ?_;(case hd=>rfl);(case hg=>rfl);(case hr=>first|(go_simp;done)|(go_simp;rfl));intro gb295 hg w28 hbox hb;have n0_:=Aside0.mk (below_step (bB) hb);have n1_:=Aside0.mk (hbox);have n2_:=Aside0.mk ((bG:w.heap.size≤gb295));have n3_:=Aside0.mk ((bG:w.heap.size≤gb295));clear HB;have HB:=n0_;have BK295:=n1_;have GW295:=n2_;have GE295:=n3_;clear n0_ n1_ n2_ n3_;clear hb hbox hg;have hcz29_0:w28.cell? ⟨gb295,0,none⟩=some (.int .i64 a1_0):=(blk_cell BK295.out 0).trans rfl;have hcz29_1:w28.cell? ⟨gb295,1,none⟩=some (.int .i64 a1_1):=(blk_cell BK295.out 1).trans rfl;have hcz29_2:w28.cell? ⟨gb295,2,none⟩=some (.bool a1_2):=(blk_cell BK295.out 2).trans rfl;have hcz29_3:w28.cell? ⟨gb295,3,none⟩=some (.int .i64 a1_3):=(blk_cell BK295.out 3).trans rfl;have hcz29_4:w28.cell? ⟨gb295,4,none⟩=some (.int .i64 a1_4):=(blk_cell BK295.out 4).trans rfl;have hcz29_5:w28.cell? ⟨gb295,5,none⟩=some (.int .i64 a1_5):=(blk_cell BK295.out 5).trans rfl;have hcz29_6:w28.cell? ⟨gb295,6,none⟩=some (.int .i64 a1_6):=(blk_cell BK295.out 6).trans rfl;have hcz29_7:w28.cell? ⟨gb295,7,none⟩=some (.int .i64 a1_7):=(blk_cell BK295.out 7).trans rfl;have hcz29_8:w28.cell? ⟨gb295,8,none⟩=some (.int .i64 a1_8):=(blk_cell BK295.out 8).trans rfl;have hcz29_9:w28.cell? ⟨gb295,9,none⟩=some (.string a1_9):=(blk_cell BK295.out 9).trans rfl;have hfz29_0:=blk_frozen BK295.out 0;have hfz29_1:=blk_frozen BK295.out 1;have hfz29_2:=blk_frozen BK295.out 2;have hfz29_3:=blk_frozen BK295.out 3;have hfz29_4:=blk_frozen BK295.out 4;have hfz29_5:=blk_frozen BK295.out 5;have hfz29_6:=blk_frozen BK295.out 6;have hfz29_7:=blk_frozen BK295.out 7;have hfz29_8:=blk_frozen BK295.out 8;have hfz29_9:=blk_frozen BK295.out 9)|((with_reducible refine gate_callee (f:=121) rfl ?_);refine goesA (some 20) rfl rfl Try.func121 #[.slice A0 l0.length c0,.agg #[.int .i64 a1_0,.int .i64 a1_1,.bool a1_2,.int .i64 a1_3,.int .i64 a1_4,.int .i64 a1_5,.int .i64 a1_6,.int .i64 a1_7,.int .i64 a1_8,.string a1_9]] rfl ?_;(with_reducible refine(impl_fits.calls k _ _ l0 a1_0 a1_1 a1_2 a1_3 a1_4 a1_5 a1_6 a1_7 a1_8 a1_9 false _ ?side1 ?side2 A6.out).mono ?_);(case side1=>exact bC HR0.out);(case side2=>exact HC0.out);rintro e w30 ⟨rfl,hb⟩;refine⟨_,rfl,?_⟩;have n0_:=Aside0.mk (blk_below (g:=gb295) (o:=.cells #[.int .i64 a1_0,.int .i64 a1_1,.bool a1_2,.int .i64 a1_3,.int .i64 a1_4,.int .i64 a1_5,.int .i64 a1_6,.int .i64 a1_7,.int .i64 a1_8,.string a1_9] 86 (0,0)) (bL BK295.out) hb);have n1_:=Aside0.mk (below_step (bS GE295.out) hb);clear BK295 HB;have BK295:=n0_;have HB:=n1_;clear n0_ n1_;(try clear hb);(try clear hb2);(try clear hk);(try clear hi)))
  go_ret3
  exact⟨bE,bS GE295.out⟩

end Go.Proofs.Yteneeohaoplpbaa.XFnExactFollowPlan
