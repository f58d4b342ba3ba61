-- Written by this session's own program (wip/xprint.py) out of the translation; Lean checks it.
import Derived.Test.YteneeohaoplpbaaXFnFollowx0
import Derived.Test.YteneeohaoplpbaaXFnFollowx1
import Derived.Test.YteneeohaoplpbaaXFnFollowx3
import Derived.Test.YteneeohaoplpbaaXFnFollowx4
import Derived.Test.YteneeohaoplpbaaXFnFollowx6
import Derived.Test.YteneeohaoplpbaaXFnFollowx7
namespace Go.Proofs.Yteneeohaoplpbaa.XFnFollow
open Go.RowKit Go.Proofs.YteneeohaoplpbaaW.PrintWords Go.Proofs.YteneeohaoplpbaaW.PrintLast Go.Proofs.YteneeohaoplpbaaW.PrintMore
open Go.Proofs.YteneeohaoplpbaaW.PrintWords.Aside0 renaming mk → am
open List renaming setIfInBounds_toArray → zA, set_cons_zero → zB, set_cons_succ → zC
attribute [local go_sem] max2_int min2_int max_two min_two max_three min_three max_four min_four   -- for this text's walks alone
set_option linter.unusedVariables false
set_option linter.unusedSimpArgs false

/-! ### impl_ForwardStep: function 54 -/
def impl_ForwardStep.j0:Nat→List (S104)→Int→List Int→Bool→Int→Int→Bool→Int→Int→Int→Int→Int→Int→ByteArray→Option (Int × Int × Bool)
 | 0,_,_,_,_,_,_,_,_,_,_,_,_,_,_=>none
 | k+1,x0,x3,x13,x37,x255000,x255001,x255002,x255003,x255004,x255005,x255006,x255007,x255008,x255009=>if x37=true then (some (0,0,false)) else (if 0 < (x13.length:Int) then (if 0≤(rd x13 0) then (if (rd x13 0) < (x0.length:Int) then ((impl_Contact_by.f ((rd_T104 x0 (rd x13 0)).f0) ((rd_T104 x0 (rd x13 0)).f1) ((rd_T104 x0 (rd x13 0)).f2) ((rd_T104 x0 (rd x13 0)).f3) ((rd_T104 x0 (rd x13 0)).f4) x3).bind fun bt263=>(if bt263.1 > (wrap64 (x255003+x255005)) then (some (0,0,false)) else (some (rd x13 0,bt263.1,true)))) else (none)) else (none)) else (none))
def impl_ForwardStep.f (k:Nat) (l0:List (S104)) (a1_0:Int) (a1_1:Int) (a1_2:Bool) (a1_3:Int) (a1_4:Int) (a1_5:Int) (a1_6:Int) (a1_7:Int) (a1_8:Int) (a1_9:ByteArray) (a2:Int) (a3:Int) (a4:Int):Option (Int × Int × Bool):=(impl_fits.f k l0 a1_0 a1_1 a1_2 a1_3 a1_4 a1_5 a1_6 a1_7 a1_8 a1_9).bind fun t255=>(if t255=true then ((impl_RouteTo.f k l0 a2 a3 a4).bind fun bt256=>(if bt256.2.2=true then (impl_ForwardStep.j0 k l0 a3 bt256.1 ((bt256.1.length:Int) == 0) a1_0 a1_1 a1_2 a1_3 a1_4 a1_5 a1_6 a1_7 a1_8 a1_9) else (impl_ForwardStep.j0 k l0 a3 bt256.1 true a1_0 a1_1 a1_2 a1_3 a1_4 a1_5 a1_6 a1_7 a1_8 a1_9))) else (some (0,0,false)))
theorem impl_ForwardStep.mono_l : ∀ k,(∀ y0 y1 y2 y3 y4 y5 y6 y7 y8 y9 y10 y11 y12 y13,LeO (impl_ForwardStep.j0 k y0 y1 y2 y3 y4 y5 y6 y7 y8 y9 y10 y11 y12 y13) (impl_ForwardStep.j0 (k+1) y0 y1 y2 y3 y4 y5 y6 y7 y8 y9 y10 y11 y12 y13))
 | 0=>fun _ _ _ _ _ _ _ _ _ _ _ _ _ _ r h=>by simp[impl_ForwardStep.j0] at h
 | k+1=>by
  have ih0:=impl_ForwardStep.mono_l k
  ·intro y0 y1 y2 y3 y4 y5 y6 y7 y8 y9 y10 y11 y12 y13
   unfold impl_ForwardStep.j0
   repeat' first
   | (with_reducible exact ih0 _ _ _ _ _ _ _ _ _ _ _ _ _ _)
   | (with_reducible exact impl_RouteTo.mono _ _ _ _ _)
   | (with_reducible exact impl_fits.mono _ _ _ _ _ _ _ _ _ _ _ _)
   | (with_reducible exact LeO.refl _)
   | (with_reducible exact LeO.none _)
   | (with_reducible refine LeO.ite ?_ ?_)
   | (with_reducible refine LeO.bind ?_ (fun _ => ?_))
theorem impl_ForwardStep.mono : ∀ a0 a1 a2 a3 a4 a5 a6 a7 a8 a9 a10 a11 a12 a13 k,LeO (impl_ForwardStep.f k a0 a1 a2 a3 a4 a5 a6 a7 a8 a9 a10 a11 a12 a13) (impl_ForwardStep.f (k+1) a0 a1 a2 a3 a4 a5 a6 a7 a8 a9 a10 a11 a12 a13):=by
 intro a0 a1 a2 a3 a4 a5 a6 a7 a8 a9 a10 a11 a12 a13 k
 have ih0:=impl_ForwardStep.mono_l k
 unfold impl_ForwardStep.f
 repeat' first
  | (with_reducible exact ih0 _ _ _ _ _ _ _ _ _ _ _ _ _ _)
  | (with_reducible exact impl_RouteTo.mono _ _ _ _ _)
  | (with_reducible exact impl_fits.mono _ _ _ _ _ _ _ _ _ _ _ _)
  | (with_reducible exact LeO.refl _)
  | (with_reducible exact LeO.none _)
  | (with_reducible refine LeO.ite ?_ ?_)
  | (with_reducible refine LeO.bind ?_ (fun _ => ?_))
set_option maxHeartbeats 8000000 in
set_option maxRecDepth 100000 in
theorem impl_ForwardStep.calls (k:Nat) (A0:Option Addr) (c0:Nat) (l0:List (S104)) (a1_0:Int) (a1_1:Int) (a1_2:Bool) (a1_3:Int) (a1_4:Int) (a1_5:Int) (a1_6:Int) (a1_7:Int) (a1_8:Int) (a1_9:ByteArray) (a2:Int) (a3:Int) (a4:Int) (r1:Int) (r2:Int) (r3:Bool) (w:World) (hr0:Kd.C k104 w A0 l0.length l0) (hc0:l0.length≤c0) (h:impl_ForwardStep.f k l0 a1_0 a1_1 a1_2 a1_3 a1_4 a1_5 a1_6 a1_7 a1_8 a1_9 a2 a3 a4=some (r1,r2,r3)) :
  Calls Try.prog 54 #[.slice A0 l0.length c0,.agg #[.int .i64 a1_0,.int .i64 a1_1,.bool a1_2,.int .i64 a1_3,.int .i64 a1_4,.int .i64 a1_5,.int .i64 a1_6,.int .i64 a1_7,.int .i64 a1_8,.string a1_9],.int .i64 a2,.int .i64 a3,.int .i64 a4] w fun e w'=>e=.returned (.tuple #[.int .i64 r1,.int .i64 r2,.bool r3])∧Below w.heap.size w w':=by
 have hu86:=Try.underlying86
 have hu104:=Try.underlying104
 have HR0:=am hr0
 have HC0:=am hc0
 clear hr0 hc0
 have HB:=am (Below.refl w.heap.size w)
 have H:((impl_fits.f k l0 a1_0 a1_1 a1_2 a1_3 a1_4 a1_5 a1_6 a1_7 a1_8 a1_9).bind fun t255=>(if t255=true then ((impl_RouteTo.f k l0 a2 a3 a4).bind fun bt256=>(if bt256.2.2=true then (impl_ForwardStep.j0 k l0 a3 bt256.1 ((bt256.1.length:Int) == 0) a1_0 a1_1 a1_2 a1_3 a1_4 a1_5 a1_6 a1_7 a1_8 a1_9) else (impl_ForwardStep.j0 k l0 a3 bt256.1 true a1_0 a1_1 a1_2 a1_3 a1_4 a1_5 a1_6 a1_7 a1_8 a1_9))) else (some (0,0,false))))=some (r1,r2,r3):=h
 clear h
 replace H:=bI_ H
 obtain⟨t255,A60,H⟩:=H
 replace H:(if t255=true then ((impl_RouteTo.f k l0 a2 a3 a4).bind fun bt256=>(if bt256.2.2=true then (impl_ForwardStep.j0 k l0 a3 bt256.1 ((bt256.1.length:Int) == 0) a1_0 a1_1 a1_2 a1_3 a1_4 a1_5 a1_6 a1_7 a1_8 a1_9) else (impl_ForwardStep.j0 k l0 a3 bt256.1 true a1_0 a1_1 a1_2 a1_3 a1_4 a1_5 a1_6 a1_7 a1_8 a1_9))) else (some (0,0,false)))=some (r1,r2,r3):=H
 have A6:=am A60
 clear A60
 by_cases c7:t255=true
 ·subst c7
  have H1:((impl_RouteTo.f k l0 a2 a3 a4).bind fun bt256=>(if bt256.2.2=true then (impl_ForwardStep.j0 k l0 a3 bt256.1 ((bt256.1.length:Int) == 0) a1_0 a1_1 a1_2 a1_3 a1_4 a1_5 a1_6 a1_7 a1_8 a1_9) else (impl_ForwardStep.j0 k l0 a3 bt256.1 true a1_0 a1_1 a1_2 a1_3 a1_4 a1_5 a1_6 a1_7 a1_8 a1_9)))=some (r1,r2,r3):=by rw[if_pos rfl] at H;exact H
  clear H
  have H:=H1
  clear H1
  replace H:=bI_ H
  obtain⟨⟨t256,t257,t258⟩,A80,H⟩:=H
  replace H:(if t258=true then (impl_ForwardStep.j0 k l0 a3 t256 ((t256.length:Int) == 0) a1_0 a1_1 a1_2 a1_3 a1_4 a1_5 a1_6 a1_7 a1_8 a1_9) else (impl_ForwardStep.j0 k l0 a3 t256 true a1_0 a1_1 a1_2 a1_3 a1_4 a1_5 a1_6 a1_7 a1_8 a1_9))=some (r1,r2,r3):=H
  have A8:=am A80
  clear A80
  have HC9:=am H
  clear H
  go_enter Try.func54,Try.ntmps54
  go_upto_region 4 with (first|((with_reducible refine gate_dst (N:=6) rfl ?_);(try (refine gate_guard (by rfl) ?_;dsimp only));refine box_event ?hg (N:=6) ?hd (cs:=#[.int .i64 a1_0,.int .i64 a1_1,.bool a1_2,.int .i64 a1_3,.int .i64 a1_4,.int .i64 a1_5,.int .i64 a1_6,.int .i64 a1_7,.int .i64 a1_8,.string a1_9]) (t:=86) ?hr ?_;(case hd=>rfl);(case hg=>rfl);(case hr=>first|(go_simp;done)|(go_simp;rfl));intro gb254 hg w10 hbox hb;have n0_:=am (below_step (bB) hb);have n1_:=am (hbox);have n2_:=am ((bG:w.heap.size≤gb254));have n3_:=am ((bG:w.heap.size≤gb254));clear HB;have HB:=n0_;have BK254:=n1_;have GW254:=n2_;have GE254:=n3_;clear n0_ n1_ n2_ n3_;clear hb hbox hg;obtain⟨hcz11_0,hcz11_1,hcz11_2,hcz11_3,hcz11_4,hcz11_5,hcz11_6,hcz11_7,hcz11_8,hcz11_9⟩:=cC10 BK254.out;obtain⟨hfz11_0,hfz11_1,hfz11_2,hfz11_3,hfz11_4,hfz11_5,hfz11_6,hfz11_7,hfz11_8,hfz11_9⟩:=cF10 BK254.out)|((with_reducible refine gate_callee (f:=121) rfl ?_);refine goesA (some 20) rfl rfl Try.func121 #[.slice A0 l0.length c0,.agg #[.int .i64 a1_0,.int .i64 a1_1,.bool a1_2,.int .i64 a1_3,.int .i64 a1_4,.int .i64 a1_5,.int .i64 a1_6,.int .i64 a1_7,.int .i64 a1_8,.string a1_9]] rfl ?_;(with_reducible refine(impl_fits.calls k _ _ l0 a1_0 a1_1 a1_2 a1_3 a1_4 a1_5 a1_6 a1_7 a1_8 a1_9 true _ ?side1 ?side2 A6.out).mono ?_);(case side1=>exact bC HR0.out);(case side2=>exact HC0.out);rintro e w12 ⟨rfl,hb⟩;refine⟨_,rfl,?_⟩;have n0_:=am (bM BK254.out hb);have n1_:=am (below_step (bS GE254.out) hb);clear BK254 HB;have BK254:=n0_;have HB:=n1_;clear n0_ n1_;(try clear hb);(try clear hb2);(try clear hk);(try clear hi))|((with_reducible refine gate_callee (f:=63) rfl ?_);refine goesA (some 27) rfl rfl Try.func63 #[.slice A0 l0.length c0,.int .i64 a2,.int .i64 a3,.int .i64 a4] rfl ?_;(with_reducible refine(impl_RouteTo.calls k _ _ l0 a2 a3 a4 t256 t257 t258 _ ?side1 ?side2 A8.out).mono ?_);(case side1=>exact bC HR0.out);(case side2=>exact HC0.out);rintro e w13 ⟨v259,rfl,ho0,hb⟩;refine⟨_,rfl,?_⟩;have n0_:=am (Kd.R_lower ho0 (below_size (bS GE254.out)));have n1_:=am (bM BK254.out hb);have n2_:=am (below_step (bS GE254.out) hb);clear BK254 HB;have HO260:=n0_;have BK254:=n1_;have HB:=n2_;clear n0_ n1_ n2_;(try clear hb);(try clear hb2);(try clear hk);(try clear hi);(try clear ho0)))
  (try simp only[Act.put,zA,zB,zC])
  go_cut [37] (fun v37 wc => ∃ (kq:Nat) (x37_8:Bool),v37=.bool x37_8∧Aside0 (impl_ForwardStep.j0 kq l0 a3 t256 x37_8 a1_0 a1_1 a1_2 a1_3 a1_4 a1_5 a1_6 a1_7 a1_8 a1_9=some (r1,r2,r3))∧Aside0 (kq≤k)∧Aside0 (Kd.R (Kd.int .i64) 3 wc w.heap.size (fun _=>True) v259 t256)∧Aside0 (wc.heap[gb254]?=some (.cells #[.int .i64 a1_0,.int .i64 a1_1,.bool a1_2,.int .i64 a1_3,.int .i64 a1_4,.int .i64 a1_5,.int .i64 a1_6,.int .i64 a1_7,.int .i64 a1_8,.string a1_9] 86 (0,0)))∧Aside0 (Below w.heap.size w wc))
  case first =>
   have H:=HC9.out
   clear HC9
   by_cases c14:t258=true
   ·subst c14
    have H1:(impl_ForwardStep.j0 k l0 a3 t256 ((t256.length:Int) == 0) a1_0 a1_1 a1_2 a1_3 a1_4 a1_5 a1_6 a1_7 a1_8 a1_9)=some (r1,r2,r3):=by rw[if_pos rfl] at H;exact H
    clear H
    have H:=H1
    clear H1
    have H':=am H
    clear H
    obtain⟨Ao15,co15,eo15⟩:=Kd.R_slice HO260.out
    subst eo15
    go_wp2
    go_meet
    case rel=>exact⟨_,(((t256.length:Int) == 0)),(bR),H',⟨by first|omega|exact Nat.le_refl _⟩,⟨by(with_reducible repeat (first|apply Kd.R_alloc|apply Kd.R_drewN|apply Kd.R_drew));exact HO260.out⟩,⟨by(with_reducible repeat (first|refine blk_drewN ?_ _|refine blk_drew ?_|refine blk_alloc ?_ _));exact BK254.out⟩,⟨bS GE254.out⟩⟩
   ·replace c14:=Bool.eq_false_iff.mpr c14
    subst c14
    have H1:(impl_ForwardStep.j0 k l0 a3 t256 true a1_0 a1_1 a1_2 a1_3 a1_4 a1_5 a1_6 a1_7 a1_8 a1_9)=some (r1,r2,r3):=by rw[if_neg (show ¬ (false=true) by decide)] at H;exact H
    clear H
    have H:=H1
    clear H1
    have H':=am H
    clear H
    go_wp2
    go_meet
    case rel=>exact⟨_,(true),(bR),H',⟨by first|omega|exact Nat.le_refl _⟩,⟨by(with_reducible repeat (first|apply Kd.R_alloc|apply Kd.R_drewN|apply Kd.R_drew));exact HO260.out⟩,⟨by(with_reducible repeat (first|refine blk_drewN ?_ _|refine blk_drew ?_|refine blk_alloc ?_ _));exact BK254.out⟩,⟨bS GE254.out⟩⟩
  case rest =>
   clear HC9
   try clear c1
   try clear p2
   try clear c5
   try clear c6
   try clear c7
   try clear c12
   try clear c14
   try clear hcz11_0 hcz11_1 hcz11_2 hcz11_3 hcz11_4 hcz11_5 hcz11_6 hcz11_7 hcz11_8 hcz11_9
   try clear hfz11_0 hfz11_1 hfz11_2 hfz11_3 hfz11_4 hfz11_5 hfz11_6 hfz11_7 hfz11_8 hfz11_9
   obtain⟨kq,x37_8,rfl,HA,HJ8,HO_13,BK254,HB⟩:=hcut
   cases kq with
   | zero=>exact absurd HA.out (by simp[impl_ForwardStep.j0])
   | succ kj8 =>
    have H:=HA.out
    clear HA
    simp only[impl_ForwardStep.j0] at H
    by_cases c16:x37_8=true
    ·subst c16
     have H1:(some (0,0,false))=some (r1,r2,r3):=by rw[if_pos rfl] at H;exact H
     clear H
     have H:=H1
     clear H1
     simp only[Option.some.injEq,Prod.mk.injEq] at H
     obtain⟨rfl,rfl,rfl⟩:=H
     go_wp2
     go_ret3
     exact⟨bE,bS GE254.out⟩
    ·replace c16:=Bool.eq_false_iff.mpr c16
     subst c16
     have H1:(if 0 < (t256.length:Int) then (if 0≤(rd t256 0) then (if (rd t256 0) < (l0.length:Int) then ((impl_Contact_by.f ((rd_T104 l0 (rd t256 0)).f0) ((rd_T104 l0 (rd t256 0)).f1) ((rd_T104 l0 (rd t256 0)).f2) ((rd_T104 l0 (rd t256 0)).f3) ((rd_T104 l0 (rd t256 0)).f4) a3).bind fun bt263=>(if bt263.1 > (wrap64 (a1_3+a1_5)) then (some (0,0,false)) else (some (rd t256 0,bt263.1,true)))) else (none)) else (none)) else (none))=some (r1,r2,r3):=by rw[if_neg (show ¬ (false=true) by decide)] at H;exact H
     clear H
     have H:=H1
     clear H1
     by_cases c17:0 < (t256.length:Int)
     ·rw[if_pos c17] at H
      have c17b0:decide (0 < (t256.length:Int))=true:=decide_eq_true c17
      have c17b1:decide (0 < t256.length)=true:=decide_eq_true (b28_)
      clear c17
      by_cases c18:0≤(rd t256 0)
      ·rw[if_pos c18] at H
       have c18b0:decide (0≤(rd t256 0))=true:=decide_eq_true c18
       clear c18
       by_cases c19:(rd t256 0) < (l0.length:Int)
       ·rw[if_pos c19] at H
        have c19b0:decide ((rd t256 0) < (l0.length:Int))=true:=decide_eq_true c19
        clear c19
        replace H:=bI_ H
        obtain⟨⟨t263,t264⟩,A200,H⟩:=H
        replace H:(if t263 > (wrap64 (a1_3+a1_5)) then (some (0,0,false)) else (some (rd t256 0,t263,true)))=some (r1,r2,r3):=H
        have A20:=am A200
        clear A200
        by_cases c21:t263 > (wrap64 (a1_3+a1_5))
        ·rw[if_pos c21] at H
         have c21b0:decide ((wrap64 (a1_3+a1_5)) < t263)=true:=decide_eq_true c21
         clear c21
         simp only[Option.some.injEq,Prod.mk.injEq] at H
         obtain⟨rfl,rfl,rfl⟩:=H
         obtain⟨Ao22,co22,eo22⟩:=Kd.R_slice HO_13.out
         subst eo22
         have p261:0≤(0:Int):=(b28_)
         have q261:0 < (t256.length:Int):=bD_
         obtain⟨ad261,e261,hx261_0⟩:=Kd.at_int (Kd.R_reads' HO_13.out).2.2 0 p261 q261
         cases e261
         have qi261:(0 < t256.length)=True:=eq_true (b28_)
         (try rw[show((0:Int)).toNat=0 from rfl] at hx261_0)
         (try rw[Addr.add_zero'] at hx261_0)
         replace p261:=eq_true p261
         replace q261:=eq_true q261
         have p262:0≤((rd t256 0):Int):=bD_
         have q262:(rd t256 0) < (l0.length:Int):=bD_
         obtain⟨ad262,e262,hx262_0,hx262_1,hx262_2,hx262_3,hx262_4⟩:=at_T104 HR0.out (rd t256 0) p262 q262
         cases e262
         replace hx262_0:=bQ_ HB.out hx262_0
         replace hx262_1:=bQ_ HB.out hx262_1
         replace hx262_2:=bQ_ HB.out hx262_2
         replace hx262_3:=bQ_ HB.out hx262_3
         replace hx262_4:=bQ_ HB.out hx262_4
         replace p262:=eq_true p262
         replace q262:=eq_true q262
         go_wp2_with (first|((with_reducible refine gate_callee (f:=122) rfl ?_);refine goesA (some 46) rfl rfl Try.func122 #[.agg #[.int .i64 ((rd_T104 l0 (rd t256 0)).f0),.int .i64 ((rd_T104 l0 (rd t256 0)).f1),.int .i64 ((rd_T104 l0 (rd t256 0)).f2),.int .i64 ((rd_T104 l0 (rd t256 0)).f3),.int .i64 ((rd_T104 l0 (rd t256 0)).f4)],.int .i64 a3] rfl ?_;(with_reducible refine(impl_Contact_by.calls ((rd_T104 l0 (rd t256 0)).f0) ((rd_T104 l0 (rd t256 0)).f1) ((rd_T104 l0 (rd t256 0)).f2) ((rd_T104 l0 (rd t256 0)).f3) ((rd_T104 l0 (rd t256 0)).f4) a3 t263 t264 _ A20.out).mono ?_);rintro e w23 ⟨rfl,hb⟩;refine⟨_,rfl,?_⟩;have n0_:=am (Kd.R_below (bK HO_13.out) hb);have n1_:=am (bM BK254.out hb);have n2_:=am (below_step (bS GE254.out) hb);clear HO_13 BK254 HB;have HO_13:=n0_;have BK254:=n1_;have HB:=n2_;clear n0_ n1_ n2_;(try clear hb);(try clear hb2);(try clear hk);(try clear hi);obtain⟨hcz24_0,hcz24_1,hcz24_2,hcz24_3,hcz24_4,hcz24_5,hcz24_6,hcz24_7,hcz24_8,hcz24_9⟩:=cC10 BK254.out;obtain⟨hfz24_0,hfz24_1,hfz24_2,hfz24_3,hfz24_4,hfz24_5,hfz24_6,hfz24_7,hfz24_8,hfz24_9⟩:=cF10 BK254.out))
         go_ret3
         exact⟨bE,bS GE254.out⟩
        ·rw[if_neg c21] at H
         have c21b0:decide ((wrap64 (a1_3+a1_5)) < t263)=false:=decide_eq_false c21
         clear c21
         simp only[Option.some.injEq,Prod.mk.injEq] at H
         obtain⟨rfl,rfl,rfl⟩:=H
         obtain⟨Ao25,co25,eo25⟩:=Kd.R_slice HO_13.out
         subst eo25
         have p261:0≤(0:Int):=(b28_)
         have q261:0 < (t256.length:Int):=bD_
         obtain⟨ad261,e261,hx261_0⟩:=Kd.at_int (Kd.R_reads' HO_13.out).2.2 0 p261 q261
         cases e261
         have qi261:(0 < t256.length)=True:=eq_true (b28_)
         (try rw[show((0:Int)).toNat=0 from rfl] at hx261_0)
         (try rw[Addr.add_zero'] at hx261_0)
         replace p261:=eq_true p261
         replace q261:=eq_true q261
         have p262:0≤((rd t256 0):Int):=bD_
         have q262:(rd t256 0) < (l0.length:Int):=bD_
         obtain⟨ad262,e262,hx262_0,hx262_1,hx262_2,hx262_3,hx262_4⟩:=at_T104 HR0.out (rd t256 0) p262 q262
         cases e262
         replace hx262_0:=bQ_ HB.out hx262_0
         replace hx262_1:=bQ_ HB.out hx262_1
         replace hx262_2:=bQ_ HB.out hx262_2
         replace hx262_3:=bQ_ HB.out hx262_3
         replace hx262_4:=bQ_ HB.out hx262_4
         replace p262:=eq_true p262
         replace q262:=eq_true q262
         go_wp2_with (first|((with_reducible refine gate_callee (f:=122) rfl ?_);refine goesA (some 46) rfl rfl Try.func122 #[.agg #[.int .i64 ((rd_T104 l0 (rd t256 0)).f0),.int .i64 ((rd_T104 l0 (rd t256 0)).f1),.int .i64 ((rd_T104 l0 (rd t256 0)).f2),.int .i64 ((rd_T104 l0 (rd t256 0)).f3),.int .i64 ((rd_T104 l0 (rd t256 0)).f4)],.int .i64 a3] rfl ?_;(with_reducible refine(impl_Contact_by.calls ((rd_T104 l0 (rd t256 0)).f0) ((rd_T104 l0 (rd t256 0)).f1) ((rd_T104 l0 (rd t256 0)).f2) ((rd_T104 l0 (rd t256 0)).f3) ((rd_T104 l0 (rd t256 0)).f4) a3 t263 t264 _ A20.out).mono ?_);rintro e w26 ⟨rfl,hb⟩;refine⟨_,rfl,?_⟩;have n0_:=am (Kd.R_below (bK HO_13.out) hb);have n1_:=am (bM BK254.out hb);have n2_:=am (below_step (bS GE254.out) hb);clear HO_13 BK254 HB;have HO_13:=n0_;have BK254:=n1_;have HB:=n2_;clear n0_ n1_ n2_;(try clear hb);(try clear hb2);(try clear hk);(try clear hi);obtain⟨hcz27_0,hcz27_1,hcz27_2,hcz27_3,hcz27_4,hcz27_5,hcz27_6,hcz27_7,hcz27_8,hcz27_9⟩:=cC10 BK254.out;obtain⟨hfz27_0,hfz27_1,hfz27_2,hfz27_3,hfz27_4,hfz27_5,hfz27_6,hfz27_7,hfz27_8,hfz27_9⟩:=cF10 BK254.out;have p265:0≤(0:Int):=(b28_);have q265:0 < (t256.length:Int):=bD_;obtain⟨ad265,e265,hx265_0⟩:=Kd.at_int (Kd.R_reads' HO_13.out).2.2 0 p265 q265;obtain rfl:ad261=ad265:=(by injection e265);have qi265:(0 < t256.length)=True:=eq_true (b28_);(try rw[show((0:Int)).toNat=0 from rfl] at hx265_0);(try rw[Addr.add_zero'] at hx265_0);replace p265:=eq_true p265;replace q265:=eq_true q265))
         go_ret3
         exact⟨bE,bS GE254.out⟩
       ·rw[if_neg c19] at H
        exact absurd H (b27_)
      ·rw[if_neg c18] at H
       exact absurd H (b27_)
     ·rw[if_neg c17] at H
      exact absurd H (b27_)
 ·replace c7:=Bool.eq_false_iff.mpr c7
  subst c7
  have H1:(some (0,0,false))=some (r1,r2,r3):=by rw[if_neg (show ¬ (false=true) by decide)] at H;exact H
  clear H
  have H:=H1
  clear H1
  simp only[Option.some.injEq,Prod.mk.injEq] at H
  obtain⟨rfl,rfl,rfl⟩:=H
  go_enter Try.func54,Try.ntmps54
  go_wp2_with (first|((with_reducible refine gate_dst (N:=6) rfl ?_);(try (refine gate_guard (by rfl) ?_;dsimp only));refine box_event ?hg (N:=6) ?hd (cs:=#[.int .i64 a1_0,.int .i64 a1_1,.bool a1_2,.int .i64 a1_3,.int .i64 a1_4,.int .i64 a1_5,.int .i64 a1_6,.int .i64 a1_7,.int .i64 a1_8,.string a1_9]) (t:=86) ?hr ?_;(case hd=>rfl);(case hg=>rfl);(case hr=>first|(go_simp;done)|(go_simp;rfl));intro gb254 hg w28 hbox hb;have n0_:=am (below_step (bB) hb);have n1_:=am (hbox);have n2_:=am ((bG:w.heap.size≤gb254));have n3_:=am ((bG:w.heap.size≤gb254));clear HB;have HB:=n0_;have BK254:=n1_;have GW254:=n2_;have GE254:=n3_;clear n0_ n1_ n2_ n3_;clear hb hbox hg;obtain⟨hcz29_0,hcz29_1,hcz29_2,hcz29_3,hcz29_4,hcz29_5,hcz29_6,hcz29_7,hcz29_8,hcz29_9⟩:=cC10 BK254.out;obtain⟨hfz29_0,hfz29_1,hfz29_2,hfz29_3,hfz29_4,hfz29_5,hfz29_6,hfz29_7,hfz29_8,hfz29_9⟩:=cF10 BK254.out)|((with_reducible refine gate_callee (f:=121) rfl ?_);refine goesA (some 20) rfl rfl Try.func121 #[.slice A0 l0.length c0,.agg #[.int .i64 a1_0,.int .i64 a1_1,.bool a1_2,.int .i64 a1_3,.int .i64 a1_4,.int .i64 a1_5,.int .i64 a1_6,.int .i64 a1_7,.int .i64 a1_8,.string a1_9]] rfl ?_;(with_reducible refine(impl_fits.calls k _ _ l0 a1_0 a1_1 a1_2 a1_3 a1_4 a1_5 a1_6 a1_7 a1_8 a1_9 false _ ?side1 ?side2 A6.out).mono ?_);(case side1=>exact bC HR0.out);(case side2=>exact HC0.out);rintro e w30 ⟨rfl,hb⟩;refine⟨_,rfl,?_⟩;have n0_:=am (bM BK254.out hb);have n1_:=am (below_step (bS GE254.out) hb);clear BK254 HB;have BK254:=n0_;have HB:=n1_;clear n0_ n1_;(try clear hb);(try clear hb2);(try clear hk);(try clear hi)))
  go_ret3
  exact⟨bE,bS GE254.out⟩

/-! ### spec_FollowPlan: function 57 -/
mutual
def spec_FollowPlan.j0:Nat→List (S104)→Int→Bool→Int→Int→Bool→Int→Int→Int→Int→Int→Int→ByteArray→Option (List Int × Int × Bool)
 | 0,_,_,_,_,_,_,_,_,_,_,_,_,_=>none
 | k+1,x0,x2,x23,x267000,x267001,x267002,x267003,x267004,x267005,x267006,x267007,x267008,x267009=>if x23=true then (some (([]:List Int),0,false)) else (spec_FollowPlan.l0 k x0 x2 x267000 x267003 ([]:List Int) x267000 x267001 x267002 x267003 x267004 x267005 x267006 x267007 x267008 x267009)
def spec_FollowPlan.l0:Nat→List (S104)→Int→Int→Int→List Int→Int→Int→Bool→Int→Int→Int→Int→Int→Int→ByteArray→Option (List Int × Int × Bool)
 | 0,_,_,_,_,_,_,_,_,_,_,_,_,_,_,_=>none
 | k+1,x0,x2,x9,x10,x11,x267000,x267001,x267002,x267003,x267004,x267005,x267006,x267007,x267008,x267009=>if x9=x2 then (some (x11,x10,true)) else ((spec_ForwardStep.f k x0 x267000 x267001 x267002 x267003 x267004 x267005 x267006 x267007 x267008 x267009 x9 x10 x2).bind fun bt269=>(if bt269.2.2=true then (if (x11.length:Int)=20 then (some (([]:List Int),0,false)) else (if x11.length < 17592186044416 then (if 0≤bt269.1 then (if bt269.1 < (x0.length:Int) then (spec_FollowPlan.l0 k x0 x2 ((rd_T104 x0 bt269.1).f1) bt269.2.1 (x11++[bt269.1]) x267000 x267001 x267002 x267003 x267004 x267005 x267006 x267007 x267008 x267009) else (none)) else (none)) else (none))) else (some (([]:List Int),0,false))))
end
def spec_FollowPlan.f (k:Nat) (l0:List (S104)) (a1_0:Int) (a1_1:Int) (a1_2:Bool) (a1_3:Int) (a1_4:Int) (a1_5:Int) (a1_6:Int) (a1_7:Int) (a1_8:Int) (a1_9:ByteArray) (a2:Int):Option (List Int × Int × Bool):=(spec_l17Fits.f k l0 a1_0 a1_1 a1_2 a1_3 a1_4 a1_5 a1_6 a1_7 a1_8 a1_9).bind fun t267=>(if t267=true then ((spec_l6Node.f a2).bind fun t268=>(spec_FollowPlan.j0 k l0 a2 (!t268) a1_0 a1_1 a1_2 a1_3 a1_4 a1_5 a1_6 a1_7 a1_8 a1_9)) else (spec_FollowPlan.j0 k l0 a2 true a1_0 a1_1 a1_2 a1_3 a1_4 a1_5 a1_6 a1_7 a1_8 a1_9))
theorem spec_FollowPlan.mono_l : ∀ k,(∀ y0 y1 y2 y3 y4 y5 y6 y7 y8 y9 y10 y11 y12,LeO (spec_FollowPlan.j0 k y0 y1 y2 y3 y4 y5 y6 y7 y8 y9 y10 y11 y12) (spec_FollowPlan.j0 (k+1) y0 y1 y2 y3 y4 y5 y6 y7 y8 y9 y10 y11 y12))∧(∀ y0 y1 y2 y3 y4 y5 y6 y7 y8 y9 y10 y11 y12 y13 y14,LeO (spec_FollowPlan.l0 k y0 y1 y2 y3 y4 y5 y6 y7 y8 y9 y10 y11 y12 y13 y14) (spec_FollowPlan.l0 (k+1) y0 y1 y2 y3 y4 y5 y6 y7 y8 y9 y10 y11 y12 y13 y14))
 | 0=>⟨fun _ _ _ _ _ _ _ _ _ _ _ _ _ r h=>by simp[spec_FollowPlan.j0] at h,fun _ _ _ _ _ _ _ _ _ _ _ _ _ _ _ r h=>by simp[spec_FollowPlan.l0] at h⟩
 | k+1=>by
  obtain⟨ih0,ih1⟩:=spec_FollowPlan.mono_l k
  refine⟨?_,?_⟩
  ·intro y0 y1 y2 y3 y4 y5 y6 y7 y8 y9 y10 y11 y12
   unfold spec_FollowPlan.j0
   repeat' first
   | (with_reducible exact ih0 _ _ _ _ _ _ _ _ _ _ _ _ _)
   | (with_reducible exact ih1 _ _ _ _ _ _ _ _ _ _ _ _ _ _ _)
   | (with_reducible exact spec_ForwardStep.mono _ _ _ _ _ _ _ _ _ _ _ _ _ _ _)
   | (with_reducible exact spec_l17Fits.mono _ _ _ _ _ _ _ _ _ _ _ _)
   | (with_reducible exact LeO.refl _)
   | (with_reducible exact LeO.none _)
   | (with_reducible refine LeO.ite ?_ ?_)
   | (with_reducible refine LeO.bind ?_ (fun _ => ?_))
  ·intro y0 y1 y2 y3 y4 y5 y6 y7 y8 y9 y10 y11 y12 y13 y14
   unfold spec_FollowPlan.l0
   repeat' first
   | (with_reducible exact ih0 _ _ _ _ _ _ _ _ _ _ _ _ _)
   | (with_reducible exact ih1 _ _ _ _ _ _ _ _ _ _ _ _ _ _ _)
   | (with_reducible exact spec_ForwardStep.mono _ _ _ _ _ _ _ _ _ _ _ _ _ _ _)
   | (with_reducible exact spec_l17Fits.mono _ _ _ _ _ _ _ _ _ _ _ _)
   | (with_reducible exact LeO.refl _)
   | (with_reducible exact LeO.none _)
   | (with_reducible refine LeO.ite ?_ ?_)
   | (with_reducible refine LeO.bind ?_ (fun _ => ?_))
theorem spec_FollowPlan.mono : ∀ a0 a1 a2 a3 a4 a5 a6 a7 a8 a9 a10 a11 k,LeO (spec_FollowPlan.f k a0 a1 a2 a3 a4 a5 a6 a7 a8 a9 a10 a11) (spec_FollowPlan.f (k+1) a0 a1 a2 a3 a4 a5 a6 a7 a8 a9 a10 a11):=by
 intro a0 a1 a2 a3 a4 a5 a6 a7 a8 a9 a10 a11 k
 obtain⟨ih0,ih1⟩:=spec_FollowPlan.mono_l k
 unfold spec_FollowPlan.f
 repeat' first
  | (with_reducible exact ih0 _ _ _ _ _ _ _ _ _ _ _ _ _)
  | (with_reducible exact ih1 _ _ _ _ _ _ _ _ _ _ _ _ _ _ _)
  | (with_reducible exact spec_ForwardStep.mono _ _ _ _ _ _ _ _ _ _ _ _ _ _ _)
  | (with_reducible exact spec_l17Fits.mono _ _ _ _ _ _ _ _ _ _ _ _)
  | (with_reducible exact LeO.refl _)
  | (with_reducible exact LeO.none _)
  | (with_reducible refine LeO.ite ?_ ?_)
  | (with_reducible refine LeO.bind ?_ (fun _ => ?_))
set_option maxHeartbeats 8000000 in
set_option maxRecDepth 100000 in
theorem spec_FollowPlan.calls (k:Nat) (A0:Option Addr) (c0:Nat) (l0:List (S104)) (a1_0:Int) (a1_1:Int) (a1_2:Bool) (a1_3:Int) (a1_4:Int) (a1_5:Int) (a1_6:Int) (a1_7:Int) (a1_8:Int) (a1_9:ByteArray) (a2:Int) (r1:List Int) (r2:Int) (r3:Bool) (w:World) (hr0:Kd.C k104 w A0 l0.length l0) (hc0:l0.length≤c0) (h:spec_FollowPlan.f k l0 a1_0 a1_1 a1_2 a1_3 a1_4 a1_5 a1_6 a1_7 a1_8 a1_9 a2=some (r1,r2,r3)) :
  Calls Try.prog 57 #[.slice A0 l0.length c0,.agg #[.int .i64 a1_0,.int .i64 a1_1,.bool a1_2,.int .i64 a1_3,.int .i64 a1_4,.int .i64 a1_5,.int .i64 a1_6,.int .i64 a1_7,.int .i64 a1_8,.string a1_9],.int .i64 a2] w fun e w' => ∃ v0_:Value,e=.returned (.tuple #[v0_,.int .i64 r2,.bool r3])∧Kd.R (Kd.int .i64) 3 w' w.heap.size (fun _=>True) v0_ r1∧Below w.heap.size w w':=by
 have hu86:=Try.underlying86
 have HR0:=am hr0
 have HC0:=am hc0
 clear hr0 hc0
 have HB:=am (Below.refl w.heap.size w)
 have H:((spec_l17Fits.f k l0 a1_0 a1_1 a1_2 a1_3 a1_4 a1_5 a1_6 a1_7 a1_8 a1_9).bind fun t267=>(if t267=true then ((spec_l6Node.f a2).bind fun t268=>(spec_FollowPlan.j0 k l0 a2 (!t268) a1_0 a1_1 a1_2 a1_3 a1_4 a1_5 a1_6 a1_7 a1_8 a1_9)) else (spec_FollowPlan.j0 k l0 a2 true a1_0 a1_1 a1_2 a1_3 a1_4 a1_5 a1_6 a1_7 a1_8 a1_9)))=some (r1,r2,r3):=h
 clear h
 have HC4:=am H
 clear H
 go_enter Try.func57,Try.ntmps57
 go_upto_region 1 with (first|((with_reducible refine gate_dst (N:=4) rfl ?_);(try (refine gate_guard (by rfl) ?_;dsimp only));refine box_event ?hg (N:=4) ?hd (cs:=#[.int .i64 a1_0,.int .i64 a1_1,.bool a1_2,.int .i64 a1_3,.int .i64 a1_4,.int .i64 a1_5,.int .i64 a1_6,.int .i64 a1_7,.int .i64 a1_8,.string a1_9]) (t:=86) ?hr ?_;(case hd=>rfl);(case hg=>rfl);(case hr=>first|(go_simp;done)|(go_simp;rfl));intro gb266 hg w5 hbox hb;have n0_:=am (below_step (bB) hb);have n1_:=am (hbox);have n2_:=am ((bG:w.heap.size≤gb266));have n3_:=am ((bG:w.heap.size≤gb266));clear HB;have HB:=n0_;have BK266:=n1_;have GW266:=n2_;have GE266:=n3_;clear n0_ n1_ n2_ n3_;clear hb hbox hg))
 (try simp only[Act.put,zA,zB,zC])
 go_cut [23] (fun v23 wc => ∃ (kq:Nat) (x23_3:Bool),v23=.bool x23_3∧Aside0 (spec_FollowPlan.j0 kq l0 a2 x23_3 a1_0 a1_1 a1_2 a1_3 a1_4 a1_5 a1_6 a1_7 a1_8 a1_9=some (r1,r2,r3))∧Aside0 (kq≤k)∧Aside0 (wc.heap[gb266]?=some (.cells #[.int .i64 a1_0,.int .i64 a1_1,.bool a1_2,.int .i64 a1_3,.int .i64 a1_4,.int .i64 a1_5,.int .i64 a1_6,.int .i64 a1_7,.int .i64 a1_8,.string a1_9] 86 (0,0)))∧Aside0 (Below w.heap.size w wc))
 case first =>
  have H:=HC4.out
  clear HC4
  replace H:=bI_ H
  obtain⟨t267,A60,H⟩:=H
  replace H:(if t267=true then ((spec_l6Node.f a2).bind fun t268=>(spec_FollowPlan.j0 k l0 a2 (!t268) a1_0 a1_1 a1_2 a1_3 a1_4 a1_5 a1_6 a1_7 a1_8 a1_9)) else (spec_FollowPlan.j0 k l0 a2 true a1_0 a1_1 a1_2 a1_3 a1_4 a1_5 a1_6 a1_7 a1_8 a1_9))=some (r1,r2,r3):=H
  have A6:=am A60
  clear A60
  by_cases c7:t267=true
  ·subst c7
   have H1:((spec_l6Node.f a2).bind fun t268=>(spec_FollowPlan.j0 k l0 a2 (!t268) a1_0 a1_1 a1_2 a1_3 a1_4 a1_5 a1_6 a1_7 a1_8 a1_9))=some (r1,r2,r3):=by rw[if_pos rfl] at H;exact H
   clear H
   have H:=H1
   clear H1
   replace H:=bI_ H
   obtain⟨t268,A80,H⟩:=H
   replace H:(spec_FollowPlan.j0 k l0 a2 (!t268) a1_0 a1_1 a1_2 a1_3 a1_4 a1_5 a1_6 a1_7 a1_8 a1_9)=some (r1,r2,r3):=H
   have A8:=am A80
   clear A80
   have H':=am H
   clear H
   obtain⟨hcz9_0,hcz9_1,hcz9_2,hcz9_3,hcz9_4,hcz9_5,hcz9_6,hcz9_7,hcz9_8,hcz9_9⟩:=cC10 BK266.out
   obtain⟨hfz9_0,hfz9_1,hfz9_2,hfz9_3,hfz9_4,hfz9_5,hfz9_6,hfz9_7,hfz9_8,hfz9_9⟩:=cF10 BK266.out
   go_wp2_with (first|((with_reducible refine gate_callee (f:=118) rfl ?_);refine goesA (some 17) rfl rfl Try.func118 #[.slice A0 l0.length c0,.agg #[.int .i64 a1_0,.int .i64 a1_1,.bool a1_2,.int .i64 a1_3,.int .i64 a1_4,.int .i64 a1_5,.int .i64 a1_6,.int .i64 a1_7,.int .i64 a1_8,.string a1_9]] rfl ?_;(with_reducible refine(spec_l17Fits.calls k _ _ l0 a1_0 a1_1 a1_2 a1_3 a1_4 a1_5 a1_6 a1_7 a1_8 a1_9 true _ ?side1 ?side2 A6.out).mono ?_);(case side1=>exact bC HR0.out);(case side2=>exact HC0.out);rintro e w10 ⟨rfl,hb⟩;refine⟨_,rfl,?_⟩;have n0_:=am (bM BK266.out hb);have n1_:=am (below_step (bS GE266.out) hb);clear BK266 HB;have BK266:=n0_;have HB:=n1_;clear n0_ n1_;(try clear hb);(try clear hb2);(try clear hk);(try clear hi))|(go_at_call 85;(with_reducible refine(spec_l6Node.calls a2 t268 _ A8.out).mono ?_);rintro e w' ⟨rfl,⟨nd,rfl⟩⟩))
   go_meet
   case rel=>exact⟨_,(!t268),(bR),H',⟨by first|omega|exact Nat.le_refl _⟩,⟨by(with_reducible repeat (first|refine blk_drewN ?_ _|refine blk_drew ?_|refine blk_alloc ?_ _));exact BK266.out⟩,⟨bS GE266.out⟩⟩
  ·replace c7:=Bool.eq_false_iff.mpr c7
   subst c7
   have H1:(spec_FollowPlan.j0 k l0 a2 true a1_0 a1_1 a1_2 a1_3 a1_4 a1_5 a1_6 a1_7 a1_8 a1_9)=some (r1,r2,r3):=by rw[if_neg (show ¬ (false=true) by decide)] at H;exact H
   clear H
   have H:=H1
   clear H1
   have H':=am H
   clear H
   obtain⟨hcz11_0,hcz11_1,hcz11_2,hcz11_3,hcz11_4,hcz11_5,hcz11_6,hcz11_7,hcz11_8,hcz11_9⟩:=cC10 BK266.out
   obtain⟨hfz11_0,hfz11_1,hfz11_2,hfz11_3,hfz11_4,hfz11_5,hfz11_6,hfz11_7,hfz11_8,hfz11_9⟩:=cF10 BK266.out
   go_wp2_with (first|((with_reducible refine gate_callee (f:=118) rfl ?_);refine goesA (some 17) rfl rfl Try.func118 #[.slice A0 l0.length c0,.agg #[.int .i64 a1_0,.int .i64 a1_1,.bool a1_2,.int .i64 a1_3,.int .i64 a1_4,.int .i64 a1_5,.int .i64 a1_6,.int .i64 a1_7,.int .i64 a1_8,.string a1_9]] rfl ?_;(with_reducible refine(spec_l17Fits.calls k _ _ l0 a1_0 a1_1 a1_2 a1_3 a1_4 a1_5 a1_6 a1_7 a1_8 a1_9 false _ ?side1 ?side2 A6.out).mono ?_);(case side1=>exact bC HR0.out);(case side2=>exact HC0.out);rintro e w12 ⟨rfl,hb⟩;refine⟨_,rfl,?_⟩;have n0_:=am (bM BK266.out hb);have n1_:=am (below_step (bS GE266.out) hb);clear BK266 HB;have BK266:=n0_;have HB:=n1_;clear n0_ n1_;(try clear hb);(try clear hb2);(try clear hk);(try clear hi)))
   go_meet
   case rel=>exact⟨_,(true),(bR),H',⟨by first|omega|exact Nat.le_refl _⟩,⟨by(with_reducible repeat (first|refine blk_drewN ?_ _|refine blk_drew ?_|refine blk_alloc ?_ _));exact BK266.out⟩,⟨bS GE266.out⟩⟩
 case rest =>
  clear HC4
  try clear c1
  try clear p2
  try clear c5
  try clear c7
  try clear c11
  try clear hcz11_0 hcz11_1 hcz11_2 hcz11_3 hcz11_4 hcz11_5 hcz11_6 hcz11_7 hcz11_8 hcz11_9
  try clear hcz9_0 hcz9_1 hcz9_2 hcz9_3 hcz9_4 hcz9_5 hcz9_6 hcz9_7 hcz9_8 hcz9_9
  try clear hfz11_0 hfz11_1 hfz11_2 hfz11_3 hfz11_4 hfz11_5 hfz11_6 hfz11_7 hfz11_8 hfz11_9
  try clear hfz9_0 hfz9_1 hfz9_2 hfz9_3 hfz9_4 hfz9_5 hfz9_6 hfz9_7 hfz9_8 hfz9_9
  obtain⟨kq,x23_3,rfl,HA,HJ3,BK266,HB⟩:=hcut
  cases kq with
  | zero=>exact absurd HA.out (by simp[spec_FollowPlan.j0])
  | succ kj3 =>
   have H:=HA.out
   clear HA
   simp only[spec_FollowPlan.j0] at H
   by_cases c13:x23_3=true
   ·subst c13
    have H1:(some (([]:List Int),0,false))=some (r1,r2,r3):=by rw[if_pos rfl] at H;exact H
    clear H
    have H:=H1
    clear H1
    simp only[Option.some.injEq,Prod.mk.injEq] at H
    obtain⟨rfl,rfl,rfl⟩:=H
    go_wp2
    go_ret3
    exact⟨_,by first|rfl|(simp[errW_none,errW_some]<;>rfl)|(simp[*,errW_none,errW_some]<;>rfl),by first|exact Kd.R_nil _ _ _ _ _|exact Kd.N_nil _ _ _ _ _|exact Kd.V_nil _ _ _ _ _|exact Kd.Q_nil _ _ _ _ _|exact Kd.S_nil _ _ _ _ _,bS GE266.out⟩
   ·replace c13:=Bool.eq_false_iff.mpr c13
    subst c13
    have H1:(spec_FollowPlan.l0 kj3 l0 a2 a1_0 a1_3 ([]:List Int) a1_0 a1_1 a1_2 a1_3 a1_4 a1_5 a1_6 a1_7 a1_8 a1_9)=some (r1,r2,r3):=by rw[if_neg (show ¬ (false=true) by decide)] at H;exact H
    clear H
    have H:=H1
    clear H1
    have H':=am H
    clear H
    obtain⟨hcz14_0,hcz14_1,hcz14_2,hcz14_3,hcz14_4,hcz14_5,hcz14_6,hcz14_7,hcz14_8,hcz14_9⟩:=cC10 BK266.out
    obtain⟨hfz14_0,hfz14_1,hfz14_2,hfz14_3,hfz14_4,hfz14_5,hfz14_6,hfz14_7,hfz14_8,hfz14_9⟩:=cF10 BK266.out
    go_wp2
    go_loopg [9,10,11] kj3 (fun kq v9 v10 v11 w' => ∃ (x9_2:Int) (x10_2:Int) (x11_2:List Int),v9=.int .i64 x9_2∧v10=.int .i64 x10_2∧Aside0 (spec_FollowPlan.l0 kq l0 a2 x9_2 x10_2 x11_2 a1_0 a1_1 a1_2 a1_3 a1_4 a1_5 a1_6 a1_7 a1_8 a1_9=some (r1,r2,r3))∧Aside0 (kq≤kj3)∧Aside0 (Kd.R (Kd.int .i64) 3 w' w.heap.size (fun _=>True) v11 x11_2)∧Aside0 (w'.heap[gb266]?=some (.cells #[.int .i64 a1_0,.int .i64 a1_1,.bool a1_2,.int .i64 a1_3,.int .i64 a1_4,.int .i64 a1_5,.int .i64 a1_6,.int .i64 a1_7,.int .i64 a1_8,.string a1_9] 86 (0,0)))∧Aside0 (Below w.heap.size w w'))
    case atStart=>exact⟨(a1_0),(a1_3),(([]:List Int)),(bR),(bR),H',⟨Nat.le_refl _⟩,⟨by first|exact Kd.R_nil _ _ _ _ _|exact Kd.N_nil _ _ _ _ _|exact Kd.V_nil _ _ _ _ _|exact Kd.Q_nil _ _ _ _ _|exact Kd.S_nil _ _ _ _ _⟩,⟨by(with_reducible repeat (first|refine blk_drewN ?_ _|refine blk_drew ?_|refine blk_alloc ?_ _));exact BK266.out⟩,⟨bS GE266.out⟩⟩
    case round =>
     clear H'
     try clear c1
     try clear p2
     try clear c5
     try clear c7
     try clear c11
     try clear c13
     try clear hcz11_0 hcz11_1 hcz11_2 hcz11_3 hcz11_4 hcz11_5 hcz11_6 hcz11_7 hcz11_8 hcz11_9
     try clear hcz14_0 hcz14_1 hcz14_2 hcz14_3 hcz14_4 hcz14_5 hcz14_6 hcz14_7 hcz14_8 hcz14_9
     try clear hcz9_0 hcz9_1 hcz9_2 hcz9_3 hcz9_4 hcz9_5 hcz9_6 hcz9_7 hcz9_8 hcz9_9
     try clear hfz11_0 hfz11_1 hfz11_2 hfz11_3 hfz11_4 hfz11_5 hfz11_6 hfz11_7 hfz11_8 hfz11_9
     try clear hfz14_0 hfz14_1 hfz14_2 hfz14_3 hfz14_4 hfz14_5 hfz14_6 hfz14_7 hfz14_8 hfz14_9
     try clear hfz9_0 hfz9_1 hfz9_2 hfz9_3 hfz9_4 hfz9_5 hfz9_6 hfz9_7 hfz9_8 hfz9_9
     try clear p2
     obtain⟨x9_2,x10_2,x11_2,rfl,rfl,HA,HK2,HO_11,BK266,HB⟩:=hrel
     cases gk with
     | zero=>exact absurd HA.out (by simp[spec_FollowPlan.l0])
     | succ k2 =>
      have H:=HA.out
      clear HA
      simp only[spec_FollowPlan.l0] at H
      by_cases c15:x9_2=a2
      ·rw[if_pos c15] at H
       have c15b0:(x9_2 == a2)=true:=beq_iff_eq.mpr c15
       have c15b1:(x9_2 != a2)=false:=bne_eq_false_iff_eq.mpr c15
       clear c15
       simp only[Option.some.injEq,Prod.mk.injEq] at H
       obtain⟨rfl,rfl,rfl⟩:=H
       go_wp2
       go_ret3
       exact⟨_,by first|rfl|(simp[errW_none,errW_some]<;>rfl)|(simp[*,errW_none,errW_some]<;>rfl),by(with_reducible repeat (first|apply Kd.R_alloc|apply Kd.R_drewN|apply Kd.R_drew));exact HO_11.out,bS GE266.out⟩
      ·rw[if_neg c15] at H
       have c15b0:(x9_2 == a2)=false:=beq_eq_false_iff_ne.mpr c15
       have c15b1:(x9_2 != a2)=true:=bne_iff_ne.mpr c15
       replace H:=bI_ H
       obtain⟨⟨t269,t270,t271⟩,A160,H⟩:=H
       replace H:(if t271=true then (if (x11_2.length:Int)=20 then (some (([]:List Int),0,false)) else (if x11_2.length < 17592186044416 then (if 0≤t269 then (if t269 < (l0.length:Int) then (spec_FollowPlan.l0 k2 l0 a2 ((rd_T104 l0 t269).f1) t270 (x11_2++[t269]) a1_0 a1_1 a1_2 a1_3 a1_4 a1_5 a1_6 a1_7 a1_8 a1_9) else (none)) else (none)) else (none))) else (some (([]:List Int),0,false)))=some (r1,r2,r3):=H
       have A16:=am A160
       clear A160
       by_cases c17:t271=true
       ·subst c17
        have H1:(if (x11_2.length:Int)=20 then (some (([]:List Int),0,false)) else (if x11_2.length < 17592186044416 then (if 0≤t269 then (if t269 < (l0.length:Int) then (spec_FollowPlan.l0 k2 l0 a2 ((rd_T104 l0 t269).f1) t270 (x11_2++[t269]) a1_0 a1_1 a1_2 a1_3 a1_4 a1_5 a1_6 a1_7 a1_8 a1_9) else (none)) else (none)) else (none)))=some (r1,r2,r3):=by rw[if_pos rfl] at H;exact H
        clear H
        have H:=H1
        clear H1
        by_cases c18:(x11_2.length:Int)=20
        ·rw[if_pos c18] at H
         have c18b0:((x11_2.length:Int) == 20)=true:=beq_iff_eq.mpr c18
         have c18b1:((x11_2.length:Int) != 20)=false:=bne_eq_false_iff_eq.mpr c18
         clear c18
         simp only[Option.some.injEq,Prod.mk.injEq] at H
         obtain⟨rfl,rfl,rfl⟩:=H
         obtain⟨hcz19_0,hcz19_1,hcz19_2,hcz19_3,hcz19_4,hcz19_5,hcz19_6,hcz19_7,hcz19_8,hcz19_9⟩:=cC10 BK266.out
         obtain⟨hfz19_0,hfz19_1,hfz19_2,hfz19_3,hfz19_4,hfz19_5,hfz19_6,hfz19_7,hfz19_8,hfz19_9⟩:=cF10 BK266.out
         go_wp2_with (first|((with_reducible refine gate_callee (f:=52) rfl ?_);refine goesA (some 37) rfl rfl Try.func52 #[.slice A0 l0.length c0,.agg #[.int .i64 a1_0,.int .i64 a1_1,.bool a1_2,.int .i64 a1_3,.int .i64 a1_4,.int .i64 a1_5,.int .i64 a1_6,.int .i64 a1_7,.int .i64 a1_8,.string a1_9],.int .i64 x9_2,.int .i64 x10_2,.int .i64 a2] rfl ?_;(with_reducible refine(spec_ForwardStep.calls k2 _ _ l0 a1_0 a1_1 a1_2 a1_3 a1_4 a1_5 a1_6 a1_7 a1_8 a1_9 x9_2 x10_2 a2 t269 t270 true _ ?side1 ?side2 A16.out).mono ?_);(case side1=>exact bC HR0.out);(case side2=>exact HC0.out);rintro e w20 ⟨rfl,hb⟩;refine⟨_,rfl,?_⟩;have n0_:=am (Kd.R_below (bK HO_11.out) hb);have n1_:=am (bM BK266.out hb);have n2_:=am (below_step (bS GE266.out) hb);clear HO_11 BK266 HB;have HO_11:=n0_;have BK266:=n1_;have HB:=n2_;clear n0_ n1_ n2_;(try clear hb);(try clear hb2);(try clear hk);(try clear hi);obtain⟨Ao21,co21,eo21⟩:=Kd.R_slice HO_11.out;subst eo21))
         go_ret3
         exact⟨_,by first|rfl|(simp[errW_none,errW_some]<;>rfl)|(simp[*,errW_none,errW_some]<;>rfl),by first|exact Kd.R_nil _ _ _ _ _|exact Kd.N_nil _ _ _ _ _|exact Kd.V_nil _ _ _ _ _|exact Kd.Q_nil _ _ _ _ _|exact Kd.S_nil _ _ _ _ _,bS GE266.out⟩
        ·rw[if_neg c18] at H
         have c18b0:((x11_2.length:Int) == 20)=false:=beq_eq_false_iff_ne.mpr c18
         have c18b1:((x11_2.length:Int) != 20)=true:=bne_iff_ne.mpr c18
         by_cases c22:x11_2.length < 17592186044416
         ·rw[if_pos c22] at H
          have LMc22:=am c22
          clear c22
          obtain⟨y272,hy272⟩ : ∃ y_:List Int,y_=(x11_2++[t269]):=⟨_,rfl⟩
          replace H:(if 0≤t269 then (if t269 < (l0.length:Int) then (spec_FollowPlan.l0 k2 l0 a2 ((rd_T104 l0 t269).f1) t270 y272 a1_0 a1_1 a1_2 a1_3 a1_4 a1_5 a1_6 a1_7 a1_8 a1_9) else (none)) else (none))=some (r1,r2,r3):=by first|(rw[hy272];with_reducible exact H)|(have H2_:=(Option.bind_some _ _).symm.trans H;rw[hy272];with_reducible exact H2_)|(have H2_:=(Option.bind_some _ _).symm.trans H;with_reducible exact H2_)|with_reducible exact H|(rw[hy272];exact H)|exact H
          have Ny272:=am hy272
          clear hy272
          by_cases c23:0≤t269
          ·rw[if_pos c23] at H
           have c23b0:decide (0≤t269)=true:=decide_eq_true c23
           clear c23
           by_cases c24:t269 < (l0.length:Int)
           ·rw[if_pos c24] at H
            have c24b0:decide (t269 < (l0.length:Int))=true:=decide_eq_true c24
            clear c24
            have H':=am H
            clear H
            obtain⟨hcz25_0,hcz25_1,hcz25_2,hcz25_3,hcz25_4,hcz25_5,hcz25_6,hcz25_7,hcz25_8,hcz25_9⟩:=cC10 BK266.out
            obtain⟨hfz25_0,hfz25_1,hfz25_2,hfz25_3,hfz25_4,hfz25_5,hfz25_6,hfz25_7,hfz25_8,hfz25_9⟩:=cF10 BK266.out
            go_wp2_with (first|((with_reducible refine gate_callee (f:=52) rfl ?_);refine goesA (some 37) rfl rfl Try.func52 #[.slice A0 l0.length c0,.agg #[.int .i64 a1_0,.int .i64 a1_1,.bool a1_2,.int .i64 a1_3,.int .i64 a1_4,.int .i64 a1_5,.int .i64 a1_6,.int .i64 a1_7,.int .i64 a1_8,.string a1_9],.int .i64 x9_2,.int .i64 x10_2,.int .i64 a2] rfl ?_;(with_reducible refine(spec_ForwardStep.calls k2 _ _ l0 a1_0 a1_1 a1_2 a1_3 a1_4 a1_5 a1_6 a1_7 a1_8 a1_9 x9_2 x10_2 a2 t269 t270 true _ ?side1 ?side2 A16.out).mono ?_);(case side1=>exact bC HR0.out);(case side2=>exact HC0.out);rintro e w26 ⟨rfl,hb⟩;refine⟨_,rfl,?_⟩;have n0_:=am (Kd.R_below (bK HO_11.out) hb);have n1_:=am (bM BK266.out hb);have n2_:=am (below_step (bS GE266.out) hb);clear HO_11 BK266 HB;have HO_11:=n0_;have BK266:=n1_;have HB:=n2_;clear n0_ n1_ n2_;(try clear hb);(try clear hb2);(try clear hk);(try clear hi);obtain⟨Ao27,co27,eo27⟩:=Kd.R_slice HO_11.out;subst eo27)|((with_reducible refine gate_builtin (b:=.append) (xs:=#[.tmp 48,.tmp 50]) rfl ?_);(try (refine gate_guard (by rfl) ?_;dsimp only));at_builtin;refine Kd.R_append (Kd.int .i64) (w0:=w) w.heap.size rfl (.tmp 48) (.tmp 50) 37 3 (.int .i64 0) 8 rfl Try.underlying37 info3 rfl (b20_) (b28_) (.slice Ao27 x11_2.length co27) x11_2 t269 [.int .i64 t269] (fun _=>True) (fun _=>False) rfl rfl ?aP (fun _ hk=>hk.elim) ?aF ?aO ?aB ?aS ?aL ?_;(case aP=>exact rfl);(case aB=>exact(bS GE266.out));(case aF=>exact(fun _ _=>trivial));(case aO=>exact(bK HO_11.out));(case aS=>exact(below_size (bS GE266.out)));(case aL=>have:=LMc22.out;omega);intro v273 w28 ho hb hg hat;rw[← Ny272.out] at ho;have n0_:=am (blk_grown (g:=gb266) (o:=.cells #[.int .i64 a1_0,.int .i64 a1_1,.bool a1_2,.int .i64 a1_3,.int .i64 a1_4,.int .i64 a1_5,.int .i64 a1_6,.int .i64 a1_7,.int .i64 a1_8,.string a1_9] 86 (0,0)) (bL BK266.out) hg (Kd.R_ne HO_11.out BK266.out (b20_)));have n1_:=am (hb);have n2_:=am (ho);clear BK266 HB HO_11;have BK266:=n0_;have HB:=n1_;have HO274:=n2_;clear n0_ n1_ n2_;clear ho hb hg hat;have p275:0≤(t269:Int):=bD_;have q275:t269 < (l0.length:Int):=bD_;obtain⟨ad275,e275,hx275_0,hx275_1,hx275_2,hx275_3,hx275_4⟩:=at_T104 HR0.out t269 p275 q275;cases e275;replace hx275_0:=bQ_ HB.out hx275_0;replace hx275_1:=bQ_ HB.out hx275_1;replace hx275_2:=bQ_ HB.out hx275_2;replace hx275_3:=bQ_ HB.out hx275_3;replace hx275_4:=bQ_ HB.out hx275_4;replace p275:=eq_true p275;replace q275:=eq_true q275))
            go_roundg k2
            case measure=>have:=HJ3.out;have:=HK2.out;omega
            case rel=>exact⟨((rd_T104 l0 t269).f1),(t270),(y272),(bR),(bR),H',⟨by have:=HJ3.out;have:=HK2.out;omega⟩,⟨by(with_reducible repeat (first|apply Kd.R_alloc|apply Kd.R_drewN|apply Kd.R_drew));exact HO274.out⟩,⟨by(with_reducible repeat (first|refine blk_drewN ?_ _|refine blk_drew ?_|refine blk_alloc ?_ _));exact BK266.out⟩,⟨bS GE266.out⟩⟩
           ·rw[if_neg c24] at H
            exact absurd H (b27_)
          ·rw[if_neg c23] at H
           exact absurd H (b27_)
         ·rw[if_neg c22] at H
          exact absurd H (b27_)
       ·replace c17:=Bool.eq_false_iff.mpr c17
        subst c17
        have H1:(some (([]:List Int),0,false))=some (r1,r2,r3):=by rw[if_neg (show ¬ (false=true) by decide)] at H;exact H
        clear H
        have H:=H1
        clear H1
        simp only[Option.some.injEq,Prod.mk.injEq] at H
        obtain⟨rfl,rfl,rfl⟩:=H
        obtain⟨hcz29_0,hcz29_1,hcz29_2,hcz29_3,hcz29_4,hcz29_5,hcz29_6,hcz29_7,hcz29_8,hcz29_9⟩:=cC10 BK266.out
        obtain⟨hfz29_0,hfz29_1,hfz29_2,hfz29_3,hfz29_4,hfz29_5,hfz29_6,hfz29_7,hfz29_8,hfz29_9⟩:=cF10 BK266.out
        go_wp2_with (first|((with_reducible refine gate_callee (f:=52) rfl ?_);refine goesA (some 37) rfl rfl Try.func52 #[.slice A0 l0.length c0,.agg #[.int .i64 a1_0,.int .i64 a1_1,.bool a1_2,.int .i64 a1_3,.int .i64 a1_4,.int .i64 a1_5,.int .i64 a1_6,.int .i64 a1_7,.int .i64 a1_8,.string a1_9],.int .i64 x9_2,.int .i64 x10_2,.int .i64 a2] rfl ?_;(with_reducible refine(spec_ForwardStep.calls k2 _ _ l0 a1_0 a1_1 a1_2 a1_3 a1_4 a1_5 a1_6 a1_7 a1_8 a1_9 x9_2 x10_2 a2 t269 t270 false _ ?side1 ?side2 A16.out).mono ?_);(case side1=>exact bC HR0.out);(case side2=>exact HC0.out);rintro e w30 ⟨rfl,hb⟩;refine⟨_,rfl,?_⟩;have n0_:=am (Kd.R_below (bK HO_11.out) hb);have n1_:=am (bM BK266.out hb);have n2_:=am (below_step (bS GE266.out) hb);clear HO_11 BK266 HB;have HO_11:=n0_;have BK266:=n1_;have HB:=n2_;clear n0_ n1_ n2_;(try clear hb);(try clear hb2);(try clear hk);(try clear hi)))
        go_ret3
        exact⟨_,by first|rfl|(simp[errW_none,errW_some]<;>rfl)|(simp[*,errW_none,errW_some]<;>rfl),by first|exact Kd.R_nil _ _ _ _ _|exact Kd.N_nil _ _ _ _ _|exact Kd.V_nil _ _ _ _ _|exact Kd.Q_nil _ _ _ _ _|exact Kd.S_nil _ _ _ _ _,bS GE266.out⟩

end Go.Proofs.Yteneeohaoplpbaa.XFnFollow
