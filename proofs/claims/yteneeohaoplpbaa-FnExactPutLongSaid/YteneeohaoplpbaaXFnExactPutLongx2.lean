-- Written by this session's own program (wip/xprint.py) out of the translation; Lean checks it.
import Derived.Test.YteneeohaoplpbaaXFnExactPutLongx0
import Derived.Test.YteneeohaoplpbaaXFnExactPutLongx1
namespace Go.Proofs.Yteneeohaoplpbaa.XFnExactPutLong
open Go.RowKit Go.Proofs.YteneeohaoplpbaaW.PrintWords Go.Proofs.YteneeohaoplpbaaW.PrintLast Go.Proofs.YteneeohaoplpbaaW.PrintMore
attribute [local go_sem] max2_int min2_int max_two min_two max_three min_three max_four min_four   -- for this text's walks alone
set_option linter.unusedVariables false
set_option linter.unusedSimpArgs false

/-! ### spec_PutLong: function 16 -/
def spec_PutLong.f (k:Nat) (a0_0:Int) (l0_1:List (S116)) (a0_2:Int) (a1:Int) (a2:Int):Option (Int × (List (S116)) × Int × Bool):=(spec_GoodTurns.f k a0_0 l0_1 a0_2).bind fun t134=>(if t134=true then (if a1 < 0 then (some (0,([]:List (S116)),0,false)) else (if a1 ≥ (l0_1.length:Int) then (some (0,([]:List (S116)),0,false)) else ((spec_l1In.f a2 1 50).bind fun t135=>(if t135=true then (if 0≤a1 then (if a1 < (l0_1.length:Int) then (if (((rd_T116 l0_1 a1).f0).length:Int)=40 then (some (0,([]:List (S116)),0,false)) else ((spec_l14Own.f k a0_0 l0_1 a0_2).bind fun bt137=>(if a1 < (bt137.2.1.length:Int) then (if ((rd_T116 bt137.2.1 a1).f0).length < 17592186044416 then (some (bt137.1,(bt137.2.1.set (a1:Int).toNat (⟨(((rd_T116 bt137.2.1 a1).f0)++[a2]),(rd_T116 bt137.2.1 a1).f1,(rd_T116 bt137.2.1 a1).f2⟩:S116)),bt137.2.2,true)) else (none)) else (none)))) else (none)) else (none)) else (some (0,([]:List (S116)),0,false)))))) else (some (0,([]:List (S116)),0,false)))
theorem spec_PutLong.mono : ∀ a0 a1 a2 a3 a4 k,LeO (spec_PutLong.f k a0 a1 a2 a3 a4) (spec_PutLong.f (k+1) a0 a1 a2 a3 a4):=by
 intro a0 a1 a2 a3 a4 k
 unfold spec_PutLong.f
 repeat' first
  | (with_reducible exact spec_GoodTurns.mono _ _ _ _)
  | (with_reducible exact spec_l14Own.mono _ _ _ _)
  | (with_reducible exact LeO.refl _)
  | (with_reducible exact LeO.none _)
  | (with_reducible refine LeO.ite ?_ ?_)
  | (with_reducible refine LeO.bind ?_ (fun _ => ?_))
  | exact spec_GoodTurns.mono _ _ _ _
  | exact spec_l14Own.mono _ _ _ _
  | exact LeO.none _
  | refine LeO.ite ?_ ?_
  | refine LeO.bind ?_ (fun _ => ?_)
def spec_PutLong.T4:Bool × List (List Nat × List Nat):=(true,[([],[]),([0],[0]),([],[]),([],[]),([3],[3]),([],[]),([4,5],[4,5]),([6],[6]),([7],[7]),([],[]),([9],[9]),([8,10],[8,10]),([1,2,0,1,2,3,4,5,6,7,8,9,10,11],[1,2]),([12,0,1,2,3,4,5,6,7,8,9,10,11],[12]),([13,11,11,0,1,2,3,4,5,6,7,8,9,10,11],[11,13])])
def spec_PutLong.B4:List Nat:=[0,1,0,0,8,0,56,120,248,0,512,2040,4095,8191,16383]
theorem spec_PutLong.tab4:rtab .any (opsOf Try.f16 4)=spec_PutLong.T4:=by kernel_rfl
theorem spec_PutLong.bits4:waitsOk spec_PutLong.T4.2 spec_PutLong.B4=true:=by kernel_rfl
set_option maxHeartbeats 8000000 in
set_option maxRecDepth 100000 in
theorem spec_PutLong.calls (k:Nat) (a0_0:Int) (A0_1:Option Addr) (c0_1:Nat) (l0_1:List (S116)) (a0_2:Int) (a1:Int) (a2:Int) (r1:Int) (r2:List (S116)) (r3:Int) (r4:Bool) (w:World) (hr0_1:Kd.C k116 w A0_1 l0_1.length l0_1) (hc0_1:l0_1.length≤c0_1) (h:spec_PutLong.f k a0_0 l0_1 a0_2 a1 a2=some (r1,r2,r3,r4)) :
  Calls Try.prog 16 #[.agg #[.int .i64 a0_0,.slice A0_1 l0_1.length c0_1,.int .i64 a0_2],.int .i64 a1,.int .i64 a2] w fun e w' => ∃ v1_:Value,e=.returned (.tuple #[.agg #[.int .i64 r1,v1_,.int .i64 r3],.bool r4])∧Kd.S k116 116 w' w.heap.size (fun _=>True) v1_ r2∧Below w.heap.size w w':=by
 have hu28:=Try.underlying28
 have HR0_1:=Aside0.mk hr0_1
 have HC0_1:=Aside0.mk hc0_1
 clear hr0_1 hc0_1
 have HB:=Aside0.mk (Below.refl w.heap.size w)
 have H:((spec_GoodTurns.f k a0_0 l0_1 a0_2).bind fun t134=>(if t134=true then (if a1 < 0 then (some (0,([]:List (S116)),0,false)) else (if a1 ≥ (l0_1.length:Int) then (some (0,([]:List (S116)),0,false)) else ((spec_l1In.f a2 1 50).bind fun t135=>(if t135=true then (if 0≤a1 then (if a1 < (l0_1.length:Int) then (if (((rd_T116 l0_1 a1).f0).length:Int)=40 then (some (0,([]:List (S116)),0,false)) else ((spec_l14Own.f k a0_0 l0_1 a0_2).bind fun bt137=>(if a1 < (bt137.2.1.length:Int) then (if ((rd_T116 bt137.2.1 a1).f0).length < 17592186044416 then (some (bt137.1,(bt137.2.1.set (a1:Int).toNat (⟨(((rd_T116 bt137.2.1 a1).f0)++[a2]),(rd_T116 bt137.2.1 a1).f1,(rd_T116 bt137.2.1 a1).f2⟩:S116)),bt137.2.2,true)) else (none)) else (none)))) else (none)) else (none)) else (some (0,([]:List (S116)),0,false)))))) else (some (0,([]:List (S116)),0,false))))=some (r1,r2,r3,r4):=h
 clear h
 replace H:=Option.bind_eq_some_iff.mp H
 obtain⟨t134,A40,H⟩:=H
 replace H:(if t134=true then (if a1 < 0 then (some (0,([]:List (S116)),0,false)) else (if a1 ≥ (l0_1.length:Int) then (some (0,([]:List (S116)),0,false)) else ((spec_l1In.f a2 1 50).bind fun t135=>(if t135=true then (if 0≤a1 then (if a1 < (l0_1.length:Int) then (if (((rd_T116 l0_1 a1).f0).length:Int)=40 then (some (0,([]:List (S116)),0,false)) else ((spec_l14Own.f k a0_0 l0_1 a0_2).bind fun bt137=>(if a1 < (bt137.2.1.length:Int) then (if ((rd_T116 bt137.2.1 a1).f0).length < 17592186044416 then (some (bt137.1,(bt137.2.1.set (a1:Int).toNat (⟨(((rd_T116 bt137.2.1 a1).f0)++[a2]),(rd_T116 bt137.2.1 a1).f1,(rd_T116 bt137.2.1 a1).f2⟩:S116)),bt137.2.2,true)) else (none)) else (none)))) else (none)) else (none)) else (some (0,([]:List (S116)),0,false)))))) else (some (0,([]:List (S116)),0,false)))=some (r1,r2,r3,r4):=H
 have A4:=Aside0.mk A40
 clear A40
 by_cases c5:t134=true
 ·subst c5
  have H1:(if a1 < 0 then (some (0,([]:List (S116)),0,false)) else (if a1 ≥ (l0_1.length:Int) then (some (0,([]:List (S116)),0,false)) else ((spec_l1In.f a2 1 50).bind fun t135=>(if t135=true then (if 0≤a1 then (if a1 < (l0_1.length:Int) then (if (((rd_T116 l0_1 a1).f0).length:Int)=40 then (some (0,([]:List (S116)),0,false)) else ((spec_l14Own.f k a0_0 l0_1 a0_2).bind fun bt137=>(if a1 < (bt137.2.1.length:Int) then (if ((rd_T116 bt137.2.1 a1).f0).length < 17592186044416 then (some (bt137.1,(bt137.2.1.set (a1:Int).toNat (⟨(((rd_T116 bt137.2.1 a1).f0)++[a2]),(rd_T116 bt137.2.1 a1).f1,(rd_T116 bt137.2.1 a1).f2⟩:S116)),bt137.2.2,true)) else (none)) else (none)))) else (none)) else (none)) else (some (0,([]:List (S116)),0,false))))))=some (r1,r2,r3,r4):=by rw[if_pos rfl] at H;exact H
  clear H
  have H:=H1
  clear H1
  by_cases c6:a1 < 0
  ·rw[if_pos c6] at H
   have c6b0:decide (a1 < 0)=true:=decide_eq_true c6
   clear c6
   simp only[Option.some.injEq,Prod.mk.injEq] at H
   obtain⟨rfl,rfl,rfl,rfl⟩:=H
   go_enter Try.func16,Try.ntmps16
   go_wp2_with (first|((with_reducible refine gate_dst (N:=3) rfl ?_);(try (refine gate_guard (by rfl) ?_;dsimp only));refine box_event ?hg (N:=3) ?hd (cs:=#[.int .i64 a0_0,.slice A0_1 l0_1.length c0_1,.int .i64 a0_2]) (t:=28) ?hr ?_;(case hd=>rfl);(case hg=>rfl);(case hr=>first|(go_simp;done)|(go_simp;rfl));intro gb132 hg w7 hbox hb;have n0_:=Aside0.mk (below_step (bB) hb);have n1_:=Aside0.mk (hbox);have n2_:=Aside0.mk ((bG:w.heap.size≤gb132));have n3_:=Aside0.mk ((bG:w.heap.size≤gb132));clear HB;have HB:=n0_;have BK132:=n1_;have GW132:=n2_;have GE132:=n3_;clear n0_ n1_ n2_ n3_;clear hb hbox hg)|((with_reducible refine gate_dst (N:=6) rfl ?_);(try (refine gate_guard (by rfl) ?_;dsimp only));refine box_event ?hg (N:=6) ?hd (cs:=#[.int .i64 0,.slice none 0 0,.int .i64 0]) (t:=28) ?hr ?_;(case hd=>rfl);(case hg=>rfl);(case hr=>first|(go_simp;done)|(go_simp;rfl));intro gb133 hg w8 hbox hb;have n0_:=Aside0.mk (bM BK132.out hb);have n1_:=Aside0.mk (below_step (bS GE132.out) hb);have n2_:=Aside0.mk (hbox);have n3_:=Aside0.mk ((by rw[hg];exact(below_size (bS GE132.out)):w.heap.size≤gb133));have n4_:=Aside0.mk ((by rw[hg];exact(below_size (bS GE132.out)):w.heap.size≤gb133));have n5_:=Aside0.mk ((bN BK132.out hg:gb132≠gb133));have n6_:=Aside0.mk ((bO BK132.out hg:gb133≠gb132));clear BK132 HB;have BK132:=n0_;have HB:=n1_;have BK133:=n2_;have GW133:=n3_;have GE133:=n4_;have NB132_133:=n5_;have NB133_132:=n6_;clear n0_ n1_ n2_ n3_ n4_ n5_ n6_;clear hb hbox hg;have hnb9:=NB132_133.out;have hnc9:=NB133_132.out;obtain⟨hcz10_0,hcz10_1,hcz10_2⟩:=cC3 BK132.out;obtain⟨hfz10_0,hfz10_1,hfz10_2⟩:=cF3 BK132.out)|((with_reducible refine gate_callee (f:=74) rfl ?_);refine goesA (some 9) rfl rfl Try.func74 #[.agg #[.int .i64 a0_0,.slice A0_1 l0_1.length c0_1,.int .i64 a0_2]] rfl ?_;(with_reducible refine(spec_GoodTurns.calls k a0_0 _ _ l0_1 a0_2 true _ ?side1 ?side2 A4.out).mono ?_);(case side1=>exact bC HR0_1.out);(case side2=>exact HC0_1.out);rintro e w11 ⟨rfl,hb⟩;refine⟨_,rfl,?_⟩;have n0_:=Aside0.mk (bM BK132.out hb);have n1_:=Aside0.mk (bM BK133.out hb);have n2_:=Aside0.mk (below_step (bS2 GE132.out GE133.out) hb);clear BK132 BK133 HB;have BK132:=n0_;have BK133:=n1_;have HB:=n2_;clear n0_ n1_ n2_;(try clear hb);(try clear hb2);(try clear hk);(try clear hi);obtain⟨hcz12_0,hcz12_1,hcz12_2⟩:=cC3 BK133.out;obtain⟨hfz12_0,hfz12_1,hfz12_2⟩:=cF3 BK133.out))
   refine bodyPost_ret (results_ct rfl _ _ gb133 28 #[.int .i64 0,.slice none 0 0,.int .i64 0] (0,0) _ rfl (by(with_reducible repeat (first|refine blk_drewN ?_ _|refine blk_drew ?_|refine blk_alloc ?_ _));refine blk_put (cs:=#[.int .i64 0,.slice none 0 0,.int .i64 0]) ?_ 2 _ rfl;(with_reducible repeat (first|refine blk_drewN ?_ _|refine blk_drew ?_|refine blk_alloc ?_ _));refine blk_put (cs:=#[.int .i64 0,.slice none 0 0,.int .i64 0]) ?_ 1 _ rfl;(with_reducible repeat (first|refine blk_drewN ?_ _|refine blk_drew ?_|refine blk_alloc ?_ _));refine blk_put (cs:=#[.int .i64 0,.slice none 0 0,.int .i64 0]) ?_ 0 _ rfl;(with_reducible repeat (first|refine blk_drewN ?_ _|refine blk_drew ?_|refine blk_alloc ?_ _));exact BK133.out) Try.underlying28 rfl (by kernel_rfl)) rfl ?_
   exact⟨_,by first|rfl|(simp[errW_none,errW_some]<;>rfl)|(simp[*,errW_none,errW_some]<;>rfl),by first|exact Kd.S_nil _ _ _ _ _|exact Kd.N_nil _ _ _ _ _|exact Kd.V_nil _ _ _ _ _|exact Kd.Q_nil _ _ _ _ _|exact Kd.R_nil _ _ _ _ _,bS2 GE132.out GE133.out⟩
  ·rw[if_neg c6] at H
   have c6b0:decide (a1 < 0)=false:=decide_eq_false c6
   clear c6
   by_cases c13:a1 ≥ (l0_1.length:Int)
   ·rw[if_pos c13] at H
    have c13b0:decide ((l0_1.length:Int)≤a1)=true:=decide_eq_true c13
    clear c13
    simp only[Option.some.injEq,Prod.mk.injEq] at H
    obtain⟨rfl,rfl,rfl,rfl⟩:=H
    go_enter Try.func16,Try.ntmps16
    go_wp2_with (first|((with_reducible refine gate_dst (N:=3) rfl ?_);(try (refine gate_guard (by rfl) ?_;dsimp only));refine box_event ?hg (N:=3) ?hd (cs:=#[.int .i64 a0_0,.slice A0_1 l0_1.length c0_1,.int .i64 a0_2]) (t:=28) ?hr ?_;(case hd=>rfl);(case hg=>rfl);(case hr=>first|(go_simp;done)|(go_simp;rfl));intro gb132 hg w14 hbox hb;have n0_:=Aside0.mk (below_step (bB) hb);have n1_:=Aside0.mk (hbox);have n2_:=Aside0.mk ((bG:w.heap.size≤gb132));have n3_:=Aside0.mk ((bG:w.heap.size≤gb132));clear HB;have HB:=n0_;have BK132:=n1_;have GW132:=n2_;have GE132:=n3_;clear n0_ n1_ n2_ n3_;clear hb hbox hg)|((with_reducible refine gate_dst (N:=6) rfl ?_);(try (refine gate_guard (by rfl) ?_;dsimp only));refine box_event ?hg (N:=6) ?hd (cs:=#[.int .i64 0,.slice none 0 0,.int .i64 0]) (t:=28) ?hr ?_;(case hd=>rfl);(case hg=>rfl);(case hr=>first|(go_simp;done)|(go_simp;rfl));intro gb133 hg w15 hbox hb;have n0_:=Aside0.mk (bM BK132.out hb);have n1_:=Aside0.mk (below_step (bS GE132.out) hb);have n2_:=Aside0.mk (hbox);have n3_:=Aside0.mk ((by rw[hg];exact(below_size (bS GE132.out)):w.heap.size≤gb133));have n4_:=Aside0.mk ((by rw[hg];exact(below_size (bS GE132.out)):w.heap.size≤gb133));have n5_:=Aside0.mk ((bN BK132.out hg:gb132≠gb133));have n6_:=Aside0.mk ((bO BK132.out hg:gb133≠gb132));clear BK132 HB;have BK132:=n0_;have HB:=n1_;have BK133:=n2_;have GW133:=n3_;have GE133:=n4_;have NB132_133:=n5_;have NB133_132:=n6_;clear n0_ n1_ n2_ n3_ n4_ n5_ n6_;clear hb hbox hg;have hnb16:=NB132_133.out;have hnc16:=NB133_132.out;obtain⟨hcz17_0,hcz17_1,hcz17_2⟩:=cC3 BK132.out;obtain⟨hfz17_0,hfz17_1,hfz17_2⟩:=cF3 BK132.out)|((with_reducible refine gate_callee (f:=74) rfl ?_);refine goesA (some 9) rfl rfl Try.func74 #[.agg #[.int .i64 a0_0,.slice A0_1 l0_1.length c0_1,.int .i64 a0_2]] rfl ?_;(with_reducible refine(spec_GoodTurns.calls k a0_0 _ _ l0_1 a0_2 true _ ?side1 ?side2 A4.out).mono ?_);(case side1=>exact bC HR0_1.out);(case side2=>exact HC0_1.out);rintro e w18 ⟨rfl,hb⟩;refine⟨_,rfl,?_⟩;have n0_:=Aside0.mk (bM BK132.out hb);have n1_:=Aside0.mk (bM BK133.out hb);have n2_:=Aside0.mk (below_step (bS2 GE132.out GE133.out) hb);clear BK132 BK133 HB;have BK132:=n0_;have BK133:=n1_;have HB:=n2_;clear n0_ n1_ n2_;(try clear hb);(try clear hb2);(try clear hk);(try clear hi);obtain⟨hcz19_0,hcz19_1,hcz19_2⟩:=cC3 BK132.out;obtain⟨hfz19_0,hfz19_1,hfz19_2⟩:=cF3 BK132.out;obtain⟨hcz20_0,hcz20_1,hcz20_2⟩:=cC3 BK133.out;obtain⟨hfz20_0,hfz20_1,hfz20_2⟩:=cF3 BK133.out))
    refine bodyPost_ret (results_ct rfl _ _ gb133 28 #[.int .i64 0,.slice none 0 0,.int .i64 0] (0,0) _ rfl (by(with_reducible repeat (first|refine blk_drewN ?_ _|refine blk_drew ?_|refine blk_alloc ?_ _));refine blk_put (cs:=#[.int .i64 0,.slice none 0 0,.int .i64 0]) ?_ 2 _ rfl;(with_reducible repeat (first|refine blk_drewN ?_ _|refine blk_drew ?_|refine blk_alloc ?_ _));refine blk_put (cs:=#[.int .i64 0,.slice none 0 0,.int .i64 0]) ?_ 1 _ rfl;(with_reducible repeat (first|refine blk_drewN ?_ _|refine blk_drew ?_|refine blk_alloc ?_ _));refine blk_put (cs:=#[.int .i64 0,.slice none 0 0,.int .i64 0]) ?_ 0 _ rfl;(with_reducible repeat (first|refine blk_drewN ?_ _|refine blk_drew ?_|refine blk_alloc ?_ _));exact BK133.out) Try.underlying28 rfl (by kernel_rfl)) rfl ?_
    exact⟨_,by first|rfl|(simp[errW_none,errW_some]<;>rfl)|(simp[*,errW_none,errW_some]<;>rfl),by first|exact Kd.S_nil _ _ _ _ _|exact Kd.N_nil _ _ _ _ _|exact Kd.V_nil _ _ _ _ _|exact Kd.Q_nil _ _ _ _ _|exact Kd.R_nil _ _ _ _ _,bS2 GE132.out GE133.out⟩
   ·rw[if_neg c13] at H
    have c13b0:decide ((l0_1.length:Int)≤a1)=false:=decide_eq_false c13
    clear c13
    replace H:=Option.bind_eq_some_iff.mp H
    obtain⟨t135,A210,H⟩:=H
    replace H:(if t135=true then (if 0≤a1 then (if a1 < (l0_1.length:Int) then (if (((rd_T116 l0_1 a1).f0).length:Int)=40 then (some (0,([]:List (S116)),0,false)) else ((spec_l14Own.f k a0_0 l0_1 a0_2).bind fun bt137=>(if a1 < (bt137.2.1.length:Int) then (if ((rd_T116 bt137.2.1 a1).f0).length < 17592186044416 then (some (bt137.1,(bt137.2.1.set (a1:Int).toNat (⟨(((rd_T116 bt137.2.1 a1).f0)++[a2]),(rd_T116 bt137.2.1 a1).f1,(rd_T116 bt137.2.1 a1).f2⟩:S116)),bt137.2.2,true)) else (none)) else (none)))) else (none)) else (none)) else (some (0,([]:List (S116)),0,false)))=some (r1,r2,r3,r4):=H
    have A21:=Aside0.mk A210
    clear A210
    by_cases c22:t135=true
    ·subst c22
     have H1:(if 0≤a1 then (if a1 < (l0_1.length:Int) then (if (((rd_T116 l0_1 a1).f0).length:Int)=40 then (some (0,([]:List (S116)),0,false)) else ((spec_l14Own.f k a0_0 l0_1 a0_2).bind fun bt137=>(if a1 < (bt137.2.1.length:Int) then (if ((rd_T116 bt137.2.1 a1).f0).length < 17592186044416 then (some (bt137.1,(bt137.2.1.set (a1:Int).toNat (⟨(((rd_T116 bt137.2.1 a1).f0)++[a2]),(rd_T116 bt137.2.1 a1).f1,(rd_T116 bt137.2.1 a1).f2⟩:S116)),bt137.2.2,true)) else (none)) else (none)))) else (none)) else (none))=some (r1,r2,r3,r4):=by rw[if_pos rfl] at H;exact H
     clear H
     have H:=H1
     clear H1
     by_cases c23:0≤a1
     ·rw[if_pos c23] at H
      have c23b0:decide (0≤a1)=true:=decide_eq_true c23
      clear c23
      by_cases c24:a1 < (l0_1.length:Int)
      ·rw[if_pos c24] at H
       have c24b0:decide (a1 < (l0_1.length:Int))=true:=decide_eq_true c24
       clear c24
       by_cases c25:(((rd_T116 l0_1 a1).f0).length:Int)=40
       ·rw[if_pos c25] at H
        have c25b0:((((rd_T116 l0_1 a1).f0).length:Int) == 40)=true:=beq_iff_eq.mpr c25
        have c25b1:((((rd_T116 l0_1 a1).f0).length:Int) != 40)=false:=bne_eq_false_iff_eq.mpr c25
        clear c25
        simp only[Option.some.injEq,Prod.mk.injEq] at H
        obtain⟨rfl,rfl,rfl,rfl⟩:=H
        go_enter Try.func16,Try.ntmps16
        go_wp2_with (first|((with_reducible refine gate_dst (N:=3) rfl ?_);(try (refine gate_guard (by rfl) ?_;dsimp only));refine box_event ?hg (N:=3) ?hd (cs:=#[.int .i64 a0_0,.slice A0_1 l0_1.length c0_1,.int .i64 a0_2]) (t:=28) ?hr ?_;(case hd=>rfl);(case hg=>rfl);(case hr=>first|(go_simp;done)|(go_simp;rfl));intro gb132 hg w26 hbox hb;have n0_:=Aside0.mk (below_step (bB) hb);have n1_:=Aside0.mk (hbox);have n2_:=Aside0.mk ((bG:w.heap.size≤gb132));have n3_:=Aside0.mk ((bG:w.heap.size≤gb132));clear HB;have HB:=n0_;have BK132:=n1_;have GW132:=n2_;have GE132:=n3_;clear n0_ n1_ n2_ n3_;clear hb hbox hg)|((with_reducible refine gate_dst (N:=6) rfl ?_);(try (refine gate_guard (by rfl) ?_;dsimp only));refine box_event ?hg (N:=6) ?hd (cs:=#[.int .i64 0,.slice none 0 0,.int .i64 0]) (t:=28) ?hr ?_;(case hd=>rfl);(case hg=>rfl);(case hr=>first|(go_simp;done)|(go_simp;rfl));intro gb133 hg w27 hbox hb;have n0_:=Aside0.mk (bM BK132.out hb);have n1_:=Aside0.mk (below_step (bS GE132.out) hb);have n2_:=Aside0.mk (hbox);have n3_:=Aside0.mk ((by rw[hg];exact(below_size (bS GE132.out)):w.heap.size≤gb133));have n4_:=Aside0.mk ((by rw[hg];exact(below_size (bS GE132.out)):w.heap.size≤gb133));have n5_:=Aside0.mk ((bN BK132.out hg:gb132≠gb133));have n6_:=Aside0.mk ((bO BK132.out hg:gb133≠gb132));clear BK132 HB;have BK132:=n0_;have HB:=n1_;have BK133:=n2_;have GW133:=n3_;have GE133:=n4_;have NB132_133:=n5_;have NB133_132:=n6_;clear n0_ n1_ n2_ n3_ n4_ n5_ n6_;clear hb hbox hg;have hnb28:=NB132_133.out;have hnc28:=NB133_132.out;obtain⟨hcz29_0,hcz29_1,hcz29_2⟩:=cC3 BK132.out;obtain⟨hfz29_0,hfz29_1,hfz29_2⟩:=cF3 BK132.out)|((with_reducible refine gate_callee (f:=74) rfl ?_);refine goesA (some 9) rfl rfl Try.func74 #[.agg #[.int .i64 a0_0,.slice A0_1 l0_1.length c0_1,.int .i64 a0_2]] rfl ?_;(with_reducible refine(spec_GoodTurns.calls k a0_0 _ _ l0_1 a0_2 true _ ?side1 ?side2 A4.out).mono ?_);(case side1=>exact bC HR0_1.out);(case side2=>exact HC0_1.out);rintro e w30 ⟨rfl,hb⟩;refine⟨_,rfl,?_⟩;have n0_:=Aside0.mk (bM BK132.out hb);have n1_:=Aside0.mk (bM BK133.out hb);have n2_:=Aside0.mk (below_step (bS2 GE132.out GE133.out) hb);clear BK132 BK133 HB;have BK132:=n0_;have BK133:=n1_;have HB:=n2_;clear n0_ n1_ n2_;(try clear hb);(try clear hb2);(try clear hk);(try clear hi);obtain⟨hcz31_0,hcz31_1,hcz31_2⟩:=cC3 BK132.out;obtain⟨hfz31_0,hfz31_1,hfz31_2⟩:=cF3 BK132.out)|(go_at_call 75;(with_reducible refine(spec_l1In.calls a2 1 50 true _ A21.out).mono ?_);rintro e w' ⟨rfl,⟨nd,rfl⟩⟩;(try (rw[drewN_self w30];generalize hq_:World.drewN w30 _=w30;have n0_:Aside0 (w30.heap[gb132]?=some (.cells #[.int .i64 a0_0,.slice A0_1 l0_1.length c0_1,.int .i64 a0_2] 28 (0,0))):=⟨by rw[← hq_];exact(bL BK132.out)⟩;have n1_:Aside0 (w30.heap[gb133]?=some (.cells #[.int .i64 0,.slice none 0 0,.int .i64 0] 28 (0,0))):=⟨by rw[← hq_];exact(bL BK133.out)⟩;have n2_:Aside0 (Below w.heap.size w w30):=⟨by rw[← hq_];exact(bS2 GE132.out GE133.out)⟩;clear BK132 BK133 HB hq_;have BK132:=n0_;have BK133:=n1_;have HB:=n2_;clear n0_ n1_ n2_));obtain⟨hcy132_0,hcy132_1,hcy132_2⟩:=cC3 BK132.out;obtain⟨hcy133_0,hcy133_1,hcy133_2⟩:=cC3 BK133.out;have p136:0≤(a1:Int):=of_decide_eq_true (bD);have q136:a1 < (l0_1.length:Int):=of_decide_eq_true (bD);obtain⟨ad136,A136_0,c136_0,e136,hx136_0,hx136_1,hx136_2,hl136_0,hi136_0⟩:=at_T116 HR0_1.out a1 p136 q136;cases e136;replace hx136_0:=(HB.out.cell (World.block_lt_of_cell? w _ hx136_0)).trans hx136_0;replace hx136_1:=(HB.out.cell (World.block_lt_of_cell? w _ hx136_1)).trans hx136_1;replace hx136_2:=(HB.out.cell (World.block_lt_of_cell? w _ hx136_2)).trans hx136_2;have HR136_0:=Aside0.mk hi136_0;have HC136_0:=Aside0.mk hl136_0;clear hi136_0 hl136_0;replace p136:=eq_true p136;replace q136:=eq_true q136;obtain⟨hcz32_0,hcz32_1,hcz32_2⟩:=cC3 BK133.out;obtain⟨hfz32_0,hfz32_1,hfz32_2⟩:=cF3 BK133.out))
        refine bodyPost_ret (results_ct rfl _ _ gb133 28 #[.int .i64 0,.slice none 0 0,.int .i64 0] (0,0) _ rfl (by(with_reducible repeat (first|refine blk_drewN ?_ _|refine blk_drew ?_|refine blk_alloc ?_ _));refine blk_put (cs:=#[.int .i64 0,.slice none 0 0,.int .i64 0]) ?_ 2 _ rfl;(with_reducible repeat (first|refine blk_drewN ?_ _|refine blk_drew ?_|refine blk_alloc ?_ _));refine blk_put (cs:=#[.int .i64 0,.slice none 0 0,.int .i64 0]) ?_ 1 _ rfl;(with_reducible repeat (first|refine blk_drewN ?_ _|refine blk_drew ?_|refine blk_alloc ?_ _));refine blk_put (cs:=#[.int .i64 0,.slice none 0 0,.int .i64 0]) ?_ 0 _ rfl;(with_reducible repeat (first|refine blk_drewN ?_ _|refine blk_drew ?_|refine blk_alloc ?_ _));exact BK133.out) Try.underlying28 rfl (by kernel_rfl)) rfl ?_
        exact⟨_,by first|rfl|(simp[errW_none,errW_some]<;>rfl)|(simp[*,errW_none,errW_some]<;>rfl),by first|exact Kd.S_nil _ _ _ _ _|exact Kd.N_nil _ _ _ _ _|exact Kd.V_nil _ _ _ _ _|exact Kd.Q_nil _ _ _ _ _|exact Kd.R_nil _ _ _ _ _,bS2 GE132.out GE133.out⟩
       ·rw[if_neg c25] at H
        have c25b0:((((rd_T116 l0_1 a1).f0).length:Int) == 40)=false:=beq_eq_false_iff_ne.mpr c25
        have c25b1:((((rd_T116 l0_1 a1).f0).length:Int) != 40)=true:=bne_iff_ne.mpr c25
        replace H:=Option.bind_eq_some_iff.mp H
        obtain⟨⟨t137,t138,t141⟩,A330,H⟩:=H
        replace H:(if a1 < (t138.length:Int) then (if ((rd_T116 t138 a1).f0).length < 17592186044416 then (some (t137,(t138.set (a1:Int).toNat (⟨(((rd_T116 t138 a1).f0)++[a2]),(rd_T116 t138 a1).f1,(rd_T116 t138 a1).f2⟩:S116)),t141,true)) else (none)) else (none))=some (r1,r2,r3,r4):=H
        have A33:=Aside0.mk A330
        clear A330
        by_cases c34:a1 < (t138.length:Int)
        ·rw[if_pos c34] at H
         have c34b0:decide (a1 < (t138.length:Int))=true:=decide_eq_true c34
         clear c34
         by_cases c35:((rd_T116 t138 a1).f0).length < 17592186044416
         ·rw[if_pos c35] at H
          have LMc35:=Aside0.mk c35
          clear c35
          obtain⟨y143,hy143⟩ : ∃ y_:List Int,y_=(((rd_T116 t138 a1).f0)++[a2]):=⟨_,rfl⟩
          replace H:(some (t137,(t138.set (a1:Int).toNat (⟨y143,(rd_T116 t138 a1).f1,(rd_T116 t138 a1).f2⟩:S116)),t141,true))=some (r1,r2,r3,r4):=by first|(rw[hy143];with_reducible exact H)|(have H2_:=(Option.bind_some _ _).symm.trans H;rw[hy143];with_reducible exact H2_)|(have H2_:=(Option.bind_some _ _).symm.trans H;with_reducible exact H2_)|with_reducible exact H|(rw[hy143];exact H)|exact H
          have Ny143:=Aside0.mk hy143
          clear hy143
          obtain⟨y146,hy146⟩ : ∃ y_:List (S116),y_=(t138.set (a1:Int).toNat (⟨y143,(rd_T116 t138 a1).f1,(rd_T116 t138 a1).f2⟩:S116)):=⟨_,rfl⟩
          replace H:(some (t137,y146,t141,true))=some (r1,r2,r3,r4):=by first|(rw[hy146];with_reducible exact H)|(have H2_:=(Option.bind_some _ _).symm.trans H;rw[hy146];with_reducible exact H2_)|(have H2_:=(Option.bind_some _ _).symm.trans H;with_reducible exact H2_)|with_reducible exact H|(rw[hy146];exact H)|exact H
          have Ny146:=Aside0.mk hy146
          clear hy146
          simp only[Option.some.injEq,Prod.mk.injEq] at H
          obtain⟨rfl,rfl,rfl,rfl⟩:=H
          go_enter Try.func16,Try.ntmps16
          try go_wp2_with (first|((with_reducible refine gate_dst (N:=3) rfl ?_);(try (refine gate_guard (by rfl) ?_;dsimp only));refine box_event ?hg (N:=3) ?hd (cs:=#[.int .i64 a0_0,.slice A0_1 l0_1.length c0_1,.int .i64 a0_2]) (t:=28) ?hr ?_;(case hd=>rfl);(case hg=>rfl);(case hr=>first|(go_simp;done)|(go_simp;rfl));intro gb132 hg w37 hbox hb;have n0_:=Aside0.mk (below_step (bB) hb);have n1_:=Aside0.mk (hbox);have n2_:=Aside0.mk ((bG:w.heap.size≤gb132));have n3_:=Aside0.mk ((bG:w.heap.size≤gb132));clear HB;have HB:=n0_;have BK132:=n1_;have GW132:=n2_;have GE132:=n3_;clear n0_ n1_ n2_ n3_;clear hb hbox hg)|((with_reducible refine gate_dst (N:=6) rfl ?_);(try (refine gate_guard (by rfl) ?_;dsimp only));refine box_event ?hg (N:=6) ?hd (cs:=#[.int .i64 0,.slice none 0 0,.int .i64 0]) (t:=28) ?hr ?_;(case hd=>rfl);(case hg=>rfl);(case hr=>first|(go_simp;done)|(go_simp;rfl));intro gb133 hg w38 hbox hb;have n0_:=Aside0.mk (bM BK132.out hb);have n1_:=Aside0.mk (below_step (bS GE132.out) hb);have n2_:=Aside0.mk (hbox);have n3_:=Aside0.mk ((by rw[hg];exact(below_size (bS GE132.out)):w.heap.size≤gb133));have n4_:=Aside0.mk ((by rw[hg];exact(below_size (bS GE132.out)):w.heap.size≤gb133));have n5_:=Aside0.mk ((bN BK132.out hg:gb132≠gb133));have n6_:=Aside0.mk ((bO BK132.out hg:gb133≠gb132));clear BK132 HB;have BK132:=n0_;have HB:=n1_;have BK133:=n2_;have GW133:=n3_;have GE133:=n4_;have NB132_133:=n5_;have NB133_132:=n6_;clear n0_ n1_ n2_ n3_ n4_ n5_ n6_;clear hb hbox hg;have hnb39:=NB132_133.out;have hnc39:=NB133_132.out;obtain⟨hcz40_0,hcz40_1,hcz40_2⟩:=cC3 BK132.out;obtain⟨hfz40_0,hfz40_1,hfz40_2⟩:=cF3 BK132.out)|((with_reducible refine gate_callee (f:=74) rfl ?_);refine goesA (some 9) rfl rfl Try.func74 #[.agg #[.int .i64 a0_0,.slice A0_1 l0_1.length c0_1,.int .i64 a0_2]] rfl ?_;(with_reducible refine(spec_GoodTurns.calls k a0_0 _ _ l0_1 a0_2 true _ ?side1 ?side2 A4.out).mono ?_);(case side1=>exact bC HR0_1.out);(case side2=>exact HC0_1.out);rintro e w41 ⟨rfl,hb⟩;refine⟨_,rfl,?_⟩;have n0_:=Aside0.mk (bM BK132.out hb);have n1_:=Aside0.mk (bM BK133.out hb);have n2_:=Aside0.mk (below_step (bS2 GE132.out GE133.out) hb);clear BK132 BK133 HB;have BK132:=n0_;have BK133:=n1_;have HB:=n2_;clear n0_ n1_ n2_;(try clear hb);(try clear hb2);(try clear hk);(try clear hi);obtain⟨hcz42_0,hcz42_1,hcz42_2⟩:=cC3 BK132.out;obtain⟨hfz42_0,hfz42_1,hfz42_2⟩:=cF3 BK132.out)|(go_at_call 75;(with_reducible refine(spec_l1In.calls a2 1 50 true _ A21.out).mono ?_);rintro e w' ⟨rfl,⟨nd,rfl⟩⟩;(try (rw[drewN_self w41];generalize hq_:World.drewN w41 _=w41;have n0_:Aside0 (w41.heap[gb132]?=some (.cells #[.int .i64 a0_0,.slice A0_1 l0_1.length c0_1,.int .i64 a0_2] 28 (0,0))):=⟨by rw[← hq_];exact(bL BK132.out)⟩;have n1_:Aside0 (w41.heap[gb133]?=some (.cells #[.int .i64 0,.slice none 0 0,.int .i64 0] 28 (0,0))):=⟨by rw[← hq_];exact(bL BK133.out)⟩;have n2_:Aside0 (Below w.heap.size w w41):=⟨by rw[← hq_];exact(bS2 GE132.out GE133.out)⟩;clear BK132 BK133 HB hq_;have BK132:=n0_;have BK133:=n1_;have HB:=n2_;clear n0_ n1_ n2_));obtain⟨hcy132_0,hcy132_1,hcy132_2⟩:=cC3 BK132.out;obtain⟨hcy133_0,hcy133_1,hcy133_2⟩:=cC3 BK133.out;have p136:0≤(a1:Int):=of_decide_eq_true (bD);have q136:a1 < (l0_1.length:Int):=of_decide_eq_true (bD);obtain⟨ad136,A136_0,c136_0,e136,hx136_0,hx136_1,hx136_2,hl136_0,hi136_0⟩:=at_T116 HR0_1.out a1 p136 q136;cases e136;replace hx136_0:=(HB.out.cell (World.block_lt_of_cell? w _ hx136_0)).trans hx136_0;replace hx136_1:=(HB.out.cell (World.block_lt_of_cell? w _ hx136_1)).trans hx136_1;replace hx136_2:=(HB.out.cell (World.block_lt_of_cell? w _ hx136_2)).trans hx136_2;have HR136_0:=Aside0.mk hi136_0;have HC136_0:=Aside0.mk hl136_0;clear hi136_0 hl136_0;replace p136:=eq_true p136;replace q136:=eq_true q136)|((with_reducible refine gate_callee (f:=76) rfl ?_);refine goesA (some 39) rfl rfl Try.func76 #[.agg #[.int .i64 a0_0,.slice (some ad136) l0_1.length c0_1,.int .i64 a0_2]] rfl ?_;(with_reducible refine(spec_l14Own.calls k a0_0 _ _ l0_1 a0_2 t137 t138 t141 _ ?side1 ?side2 A33.out).mono ?_);(case side1=>exact bC HR0_1.out);(case side2=>exact HC0_1.out);rintro e w43 ⟨v139,rfl,ho0,hb⟩;refine⟨_,rfl,?_⟩;have n0_:=Aside0.mk (Kd.S_lower ho0 (below_size (bS2 GE132.out GE133.out)));have n1_:=Aside0.mk (bM BK132.out hb);have n2_:=Aside0.mk (bM BK133.out hb);have n3_:=Aside0.mk (below_step (bS2 GE132.out GE133.out) hb);clear BK132 BK133 HB;have HO140:=n0_;have BK132:=n1_;have BK133:=n2_;have HB:=n3_;clear n0_ n1_ n2_ n3_;(try clear hb);(try clear hb2);(try clear hk);(try clear hi);(try clear ho0);obtain⟨hcz44_0,hcz44_1,hcz44_2⟩:=cC3 BK132.out;obtain⟨hfz44_0,hfz44_1,hfz44_2⟩:=cF3 BK132.out;obtain⟨Ao45,co45,eo45⟩:=Kd.S_slice HO140.out;subst eo45))
          have n0_:Aside0 (Kd.S k116 116 (((w43.setCell ⟨gb132,0,none⟩ (.int .i64 t137)).setCell ⟨gb132,1,none⟩ (.slice Ao45 t138.length co45)).setCell ⟨gb132,2,none⟩ (.int .i64 t141)) w.heap.size (fun _=>True) (.slice Ao45 t138.length co45) t138):=⟨by(with_reducible repeat (first|apply Kd.S_alloc|apply Kd.S_drewN|apply Kd.S_drew));exact Kd.S_mono (Kd.S_far (p:=⟨gb132,2,none⟩) (Kd.S_far (p:=⟨gb132,1,none⟩) (Kd.S_far (p:=⟨gb132,0,none⟩) (Kd.S_types HO140.out BK132.out (by decide)) (fun _ hk=>hk.2) (.int .i64 t137)) (fun _ hk=>hk.2) (.slice Ao45 t138.length co45)) (fun _ hk=>hk.2) (.int .i64 t141)) (fun _ hk=>trivial)⟩
          have n1_:Aside0 ((((w43.setCell ⟨gb132,0,none⟩ (.int .i64 t137)).setCell ⟨gb132,1,none⟩ (.slice Ao45 t138.length co45)).setCell ⟨gb132,2,none⟩ (.int .i64 t141)).heap[gb132]?=some (.cells #[.int .i64 t137,.slice Ao45 t138.length co45,.int .i64 t141] 28 (0,0))):=⟨by(with_reducible repeat (first|refine blk_drewN ?_ _|refine blk_drew ?_|refine blk_alloc ?_ _));refine blk_put (cs:=#[.int .i64 t137,.slice Ao45 t138.length co45,.int .i64 a0_2]) ?_ 2 _ rfl;(with_reducible repeat (first|refine blk_drewN ?_ _|refine blk_drew ?_|refine blk_alloc ?_ _));refine blk_put (cs:=#[.int .i64 t137,.slice (some ad136) l0_1.length c0_1,.int .i64 a0_2]) ?_ 1 _ rfl;(with_reducible repeat (first|refine blk_drewN ?_ _|refine blk_drew ?_|refine blk_alloc ?_ _));refine blk_put (cs:=#[.int .i64 a0_0,.slice (some ad136) l0_1.length c0_1,.int .i64 a0_2]) ?_ 0 _ rfl;(with_reducible repeat (first|refine blk_drewN ?_ _|refine blk_drew ?_|refine blk_alloc ?_ _));exact BK132.out⟩
          have n2_:Aside0 ((((w43.setCell ⟨gb132,0,none⟩ (.int .i64 t137)).setCell ⟨gb132,1,none⟩ (.slice Ao45 t138.length co45)).setCell ⟨gb132,2,none⟩ (.int .i64 t141)).heap[gb133]?=some (.cells #[.int .i64 0,.slice none 0 0,.int .i64 0] 28 (0,0))):=⟨by(with_reducible repeat (first|refine blk_drewN ?_ _|refine blk_drew ?_|refine blk_alloc ?_ _));refine blk_far ?_ NB133_132.out _;(with_reducible repeat (first|refine blk_drewN ?_ _|refine blk_drew ?_|refine blk_alloc ?_ _));refine blk_far ?_ NB133_132.out _;(with_reducible repeat (first|refine blk_drewN ?_ _|refine blk_drew ?_|refine blk_alloc ?_ _));refine blk_far ?_ NB133_132.out _;(with_reducible repeat (first|refine blk_drewN ?_ _|refine blk_drew ?_|refine blk_alloc ?_ _));exact BK133.out⟩
          have n3_:Aside0 (Below w.heap.size w (((w43.setCell ⟨gb132,0,none⟩ (.int .i64 t137)).setCell ⟨gb132,1,none⟩ (.slice Ao45 t138.length co45)).setCell ⟨gb132,2,none⟩ (.int .i64 t141))):=⟨bS2 GE132.out GE133.out⟩
          (try clear HO140)
          (try clear BK132)
          (try clear BK133)
          (try clear HB)
          generalize (((w43.setCell ⟨gb132,0,none⟩ (.int .i64 t137)).setCell ⟨gb132,1,none⟩ (.slice Ao45 t138.length co45)).setCell ⟨gb132,2,none⟩ (.int .i64 t141))=w46 at n0_ n1_ n2_ n3_ ⊢
          have HO140:=n0_
          have BK132:=n1_
          have BK133:=n2_
          have HB:=n3_
          clear n0_ n1_ n2_ n3_
          (try (rw[drewN_self w46];generalize hq_:World.drewN w46 _=w46;have n0_:=Aside0.mk (Kd.S_at hq_ HO140.out);have n1_:=Aside0.mk (blk_at hq_ BK132.out);have n2_:=Aside0.mk (blk_at hq_ BK133.out);have n3_:=Aside0.mk (below_at hq_ HB.out);clear hq_ HO140 BK132 BK133 HB;have HO140:=n0_;have BK132:=n1_;have BK133:=n2_;have HB:=n3_;clear n0_ n1_ n2_ n3_))
          have n0_:=Aside0.mk (Kd.S_drew HO140.out)
          have n1_:=Aside0.mk (blk_drew BK132.out)
          have n2_:=Aside0.mk (blk_drew BK133.out)
          have n3_:=Aside0.mk (below_drew1 HB.out)
          clear HO140 BK132 BK133 HB
          have HO140:=n0_
          have BK132:=n1_
          have BK133:=n2_
          have HB:=n3_
          clear n0_ n1_ n2_ n3_
          have p142:0≤(a1:Int):=of_decide_eq_true (bD)
          have q142:a1 < (t138.length:Int):=of_decide_eq_true (bD)
          obtain⟨ad142,A142_0,c142_0,e142,hx142_0,hx142_1,hx142_2,hl142_0,hi142_0⟩:=at_T116 (Kd.S_reads' HO140.out).2.2 a1 p142 q142
          cases e142
          obtain⟨ce142,hce142,hMe142,hcc142⟩:=Kd.S_get HO140.out z116 a1 p142 (by first|exact q142|exact of_decide_eq_true (bD)|(have e_:=(Kd.S_reads' HO140.out).1;omega))
          obtain⟨ve142_0,rfl,ge142_0⟩:=k116_openM hMe142
          have hv142_0:=hcc142 0 _ rfl
          rw[Nat.add_zero] at hv142_0
          replace hv142_0:=Option.some.inj (hv142_0.symm.trans hx142_0)
          rw[hv142_0] at ge142_0
          have HL142_0:=Aside0.mk (show Kd.R (Kd.int .i64) 3 _ _ _ _ ((rd_T116 t138 a1).f0) from ge142_0)
          clear hv142_0 ge142_0
          have HX142_0:=Aside0.mk hx142_0
          clear hcc142 hce142
          have HR142_0:=Aside0.mk hi142_0
          have HC142_0:=Aside0.mk hl142_0
          clear hi142_0 hl142_0
          replace p142:=eq_true p142
          replace q142:=eq_true q142
          obtain⟨go48,co48,eo48,gb48,gl48,cl48,HG48⟩:=Kd.S_form HO140.out (by have h_:(a1:Int) < ((t138.length:Int):Int):=of_decide_eq_true (bD);have h2_:0≤(a1:Int):=(of_decide_eq_true (bD));omega)
          (first|cases eo48|(injection eo48 with ea_ en_ ec_;(first|subst ea_|(injection ea_ with ea_;subst ea_));subst ec_;clear en_))
          have GB48:=Aside0.mk gb48
          have GG48:=Aside0.mk HG48
          clear gb48 gl48 HG48
          (first|simp only[add_plain] at hx142_0|skip)
          (first|simp only[add_plain] at hx142_1|skip)
          (first|simp only[add_plain] at hx142_2|skip)
          obtain⟨oki48,ce48,hcl48,hM48,hcc48,_,_,hH48⟩:=Kd.S_elem HO140.out z116 (a1:Int) (of_decide_eq_true (bD)) (by have h_:(a1:Int) < ((t138.length:Int):Int):=of_decide_eq_true (bD);first|exact h_|(have e_:=(Kd.S_reads' HO140.out).1;omega)|simpa using h_)
          obtain⟨ve48_0,rfl,ge48_0⟩:=k116_openM hM48
          have hv48:=hcc48 0 _ rfl
          have hX48:=HX142_0.out
          (try simp only[add_plain] at hX48)
          (try simp only[Nat.add_zero] at hv48)
          replace hv48:=Option.some.inj (hv48.symm.trans hX48)
          subst hv48
          clear hX48 hcc48 hcl48
          have UU48:=Aside0.mk (show Kd.R (Kd.int .i64) 3 _ w.heap.size oki48 (.slice A142_0 ((rd_T116 t138 a1).f0).length c142_0) ((rd_T116 t138 a1).f0) from ge48_0)
          have HH48:=Aside0.mk hH48
          have HN48:=Aside0.mk (Kd.S_reads' HO140.out).1
          clear hH48 ge48_0
          refine start_ (n:=15) (S:=fun w'=>w'.cell? ⟨gb132,0,none⟩=some (.int .i64 t137)∧w'.cell? ⟨gb132,1,none⟩=some (.slice (some ⟨go48,0,none⟩) t138.length co45)∧w'.cell? ⟨gb132,2,none⟩=some (.int .i64 t141)∧w'.cell? ⟨go48,((a1).toNat * 3),none⟩=some (.slice A142_0 ((rd_T116 t138 a1).f0).length c142_0)∧w'.cell? ⟨go48,((a1).toNat * 3)+1,none⟩=some (.int .i64 ((rd_T116 t138 a1).f1))∧w'.cell? ⟨go48,((a1).toNat * 3)+2,none⟩=some (.int .i64 ((rd_T116 t138 a1).f2))) (ds:=[14]) #[false,false,false,false,false,false,false,false,false,false,false,false,false,false,false] (by kernel_rfl) rfl rfl ⟨(blk_cell BK132.out 0).trans rfl,(blk_cell BK132.out 1).trans rfl,(blk_cell BK132.out 2).trans rfl,hx142_0,hx142_1,hx142_2⟩ (fun hHeld => ?_);refine with_tabW spec_PutLong.tab4 spec_PutLong.bits4 (fun HT_ HW_ => ?_)
          generalize w46.drew=w47 at HO140 BK132 BK133 HB GG48 HH48 HL142_0 HR142_0 HX142_0 UU48 hx142_0 hx142_1 hx142_2 hHeld ⊢
          refine pure_ (i:=0) (N:=some 40) (v:=?_) (a':=?_) #[true,false,false,false,false,false,false,false,false,false,false,false,false,false,false] rfl rfl (any_of HT_.out (by kernel_rfl)) (fun _ _ _ h=>h) (Or.inl ⟨by rfl,?_⟩) ?_ ?_
          rotate_left
          ·intro w'
           go_simp
           with_reducible rfl
          rotate_left
          ·simp only[Act.put,List.setIfInBounds_toArray,List.set_cons_zero,List.set_cons_succ,i64_w,i32_w]
           rfl
          refine pure_ (i:=2) (N:=some 42) (v:=?_) (a':=?_) #[true,false,true,false,false,false,false,false,false,false,false,false,false,false,false] rfl rfl (any_of HT_.out (by kernel_rfl)) (fun _ _ _ h=>h) (Or.inl ⟨by rfl,?_⟩) ?_ ?_
          rotate_left
          ·intro w'
           go_simp
           with_reducible rfl
          rotate_left
          ·simp only[Act.put,List.setIfInBounds_toArray,List.set_cons_zero,List.set_cons_succ,i64_w,i32_w]
           rfl
          refine pure_ (i:=3) (N:=some 43) (v:=?_) (a':=?_) #[true,false,true,true,false,false,false,false,false,false,false,false,false,false,false] rfl rfl (any_of HT_.out (by kernel_rfl)) (fun _ _ _ h=>h) (Or.inl ⟨by rfl,?_⟩) ?_ ?_
          rotate_left
          ·intro w'
           go_simp
           with_reducible rfl
          rotate_left
          ·simp only[Act.put,List.setIfInBounds_toArray,List.set_cons_zero,List.set_cons_succ,i64_w,i32_w]
           rfl
          refine pure_ (i:=5) (N:=some 45) (v:=?_) (a':=?_) #[true,false,true,true,false,true,false,false,false,false,false,false,false,false,false] rfl rfl (any_of HT_.out (by kernel_rfl)) (fun _ _ _ h=>h) (Or.inl ⟨by rfl,?_⟩) ?_ ?_
          rotate_left
          ·intro w'
           go_simp
           with_reducible rfl
          rotate_left
          ·simp only[Act.put,List.setIfInBounds_toArray,List.set_cons_zero,List.set_cons_succ,i64_w,i32_w]
           rfl
          refine pure_ (i:=9) (N:=some 49) (v:=?_) (a':=?_) #[true,false,true,true,false,true,false,false,false,true,false,false,false,false,false] rfl rfl (any_of HT_.out (by kernel_rfl)) (fun _ _ _ h=>h) (Or.inl ⟨by rfl,?_⟩) ?_ ?_
          rotate_left
          ·intro w'
           go_simp
           with_reducible rfl
          rotate_left
          ·simp only[Act.put,List.setIfInBounds_toArray,List.set_cons_zero,List.set_cons_succ,i64_w,i32_w]
           rfl
          refine take_ (i:=1) (N:=some 41) (v:=?_) (a':=?_) #[true,true,true,true,false,true,false,false,false,true,false,false,false,false,false] rfl rfl (take_ofW HT_.out HW_.out (by kernel_rfl)) (fun _ _ _ h=>h) (Or.inl ⟨by rfl,?_⟩) hHeld ?_ ?_
          rotate_left
          ·rintro w' ⟨s0,s1,s2,s3,s4,s5⟩
           go_simp
           with_reducible rfl
          rotate_left
          ·simp only[Act.put,List.setIfInBounds_toArray,List.set_cons_zero,List.set_cons_succ,i64_w,i32_w]
           rfl
          refine take_ (i:=4) (N:=some 44) (v:=?_) (a':=?_) #[true,true,true,true,true,true,false,false,false,true,false,false,false,false,false] rfl rfl (take_ofW HT_.out HW_.out (by kernel_rfl)) (fun _ _ _ h=>h) (Or.inl ⟨by rfl,?_⟩) hHeld ?_ ?_
          rotate_left
          ·rintro w' ⟨s0,s1,s2,s3,s4,s5⟩
           go_simp
           with_reducible rfl
          rotate_left
          ·simp only[Act.put,List.setIfInBounds_toArray,List.set_cons_zero,List.set_cons_succ,i64_w,i32_w]
           rfl
          refine pure_ (i:=6) (N:=some 46) (v:=?_) (a':=?_) #[true,true,true,true,true,true,true,false,false,true,false,false,false,false,false] rfl rfl (any_of HT_.out (by kernel_rfl)) (fun _ _ _ h=>h) (Or.inl ⟨by rfl,?_⟩) ?_ ?_
          rotate_left
          ·intro w'
           go_simp
           with_reducible rfl
          rotate_left
          ·simp only[Act.put,List.setIfInBounds_toArray,List.set_cons_zero,List.set_cons_succ,i64_w,i32_w]
           rfl
          refine pure_ (i:=7) (N:=some 47) (v:=?_) (a':=?_) #[true,true,true,true,true,true,true,true,false,true,false,false,false,false,false] rfl rfl (any_of HT_.out (by kernel_rfl)) (fun _ _ _ h=>h) (Or.inl ⟨by rfl,?_⟩) ?_ ?_
          rotate_left
          ·intro w'
           go_simp
           with_reducible rfl
          rotate_left
          ·simp only[Act.put,List.setIfInBounds_toArray,List.set_cons_zero,List.set_cons_succ,i64_w,i32_w]
           rfl
          refine take_ (i:=8) (N:=some 48) (v:=?_) (a':=?_) #[true,true,true,true,true,true,true,true,true,true,false,false,false,false,false] rfl rfl (take_ofW HT_.out HW_.out (by kernel_rfl)) (fun _ _ _ h=>h) (Or.inl ⟨by rfl,?_⟩) hHeld ?_ ?_
          rotate_left
          ·rintro w' ⟨s0,s1,s2,s3,s4,s5⟩
           go_simp
           with_reducible rfl
          rotate_left
          ·simp only[Act.put,List.setIfInBounds_toArray,List.set_cons_zero,List.set_cons_succ,i64_w,i32_w]
           rfl
          refine one_ (i:=10) (N:=some 50) #[true,true,true,true,true,true,true,true,true,true,true,false,false,false,false] rfl rfl (one_of HT_.out (by kernel_rfl)) (by decide) (fun K hK => ?_)
          refine value_ (w1:=?_) (v:=?_) (by rfl) rfl ?_ ?_
          rotate_left 2
          ·go_simp
           constructor
           ·rfl
           ·rfl
          refine hK.out _ _ ⟨(blk_cell (blk_alloc BK132.out _) 0).trans rfl,(blk_cell (blk_alloc BK132.out _) 1).trans rfl,(blk_cell (blk_alloc BK132.out _) 2).trans rfl,(World.cell?_alloc_lt _ _ _ (World.block_lt_of_cell? _ _ (hHeld.2.2.2.1))).trans (hHeld.2.2.2.1),(World.cell?_alloc_lt _ _ _ (World.block_lt_of_cell? _ _ (hHeld.2.2.2.2.1))).trans (hHeld.2.2.2.2.1),(World.cell?_alloc_lt _ _ _ (World.block_lt_of_cell? _ _ (hHeld.2.2.2.2.2))).trans (hHeld.2.2.2.2.2)⟩ (fun hHeld => ?_)
          clear hK K
          refine norm_ (a':=?_) ?_ ?_
          rotate_left
          ·show Act.put _ (some 50) _=_
           simp only[Act.put,List.setIfInBounds_toArray,List.set_cons_zero,List.set_cons_succ,i64_w,i32_w]
           rfl
          refine one_ (i:=11) (N:=some 51) #[true,true,true,true,true,true,true,true,true,true,true,true,false,false,false] rfl rfl (one_of HT_.out (by kernel_rfl)) (by decide) (fun K hK => ?_)
          refine Kd.R_append_step (Kd.int .i64) (w0:=w) w.heap.size (by rfl) (.tmp 48) (.tmp 50) 37 3 (.int .i64 0) 8 rfl Try.underlying37 info3 rfl (by decide) (by omega) (.slice A142_0 ((rd_T116 t138 a1).f0).length c142_0) ((rd_T116 t138 a1).f0) a2 [.int .i64 a2] (fun k_=>oki48 k_∨((fun _=>True)) k_∧w47.heap.size≤k_) (fun _=>False) rfl rfl ?aP (fun _ hk=>hk.elim) ?aF ?aO ?aB ?aS ?aL ?_
          (case aP=>exact rfl)
          (case aB=>exact(bS2 GE132.out GE133.out))
          (case aF=>exact(fun k_ hk=>.inr ⟨trivial,hk⟩))
          (case aO=>exact(by(with_reducible repeat (first|apply Kd.R_alloc|apply Kd.R_drewN|apply Kd.R_drew));exact Kd.R_mono UU48.out (fun _ hk=>.inl hk)))
          (case aS=>exact(below_size (bS2 GE132.out GE133.out)))
          (case aL=>have:=LMc35.out;omega)
          intro v144 w49 ho hb hg hat
          (first|have HS3_:=cell_grown hg (hHeld.2.2.2.1) (by first|(rw[add_block];exact(fun e_=>((HL142_0.out.1 _ e_.symm).2) rfl))|(show some (Addr.add _ _).block≠_;rw[add_block];exact(fun e_=>((HL142_0.out.1 _ e_.symm).2) rfl))|exact(fun e_=>((HL142_0.out.1 _ e_.symm).2) rfl))|have HS3_:=cell_grown hg (cell_unalloc (hHeld.2.2.2.1) (by first|(rw[add_block];exact Kd.S_lt HO140.out _ rfl)|(show(Addr.add _ _).block < _;rw[add_block];exact Kd.S_lt HO140.out _ rfl)|exact Kd.S_lt HO140.out _ rfl)) (by first|(rw[add_block];exact(fun e_=>((HL142_0.out.1 _ e_.symm).2) rfl))|(show some (Addr.add _ _).block≠_;rw[add_block];exact(fun e_=>((HL142_0.out.1 _ e_.symm).2) rfl))|exact(fun e_=>((HL142_0.out.1 _ e_.symm).2) rfl)))
          (first|have HS4_:=cell_grown hg (hHeld.2.2.2.2.1) (by first|(rw[add_block];exact(fun e_=>((HL142_0.out.1 _ e_.symm).2) rfl))|(show some (Addr.add _ _).block≠_;rw[add_block];exact(fun e_=>((HL142_0.out.1 _ e_.symm).2) rfl))|exact(fun e_=>((HL142_0.out.1 _ e_.symm).2) rfl))|have HS4_:=cell_grown hg (cell_unalloc (hHeld.2.2.2.2.1) (by first|(rw[add_block];exact Kd.S_lt HO140.out _ rfl)|(show(Addr.add _ _).block < _;rw[add_block];exact Kd.S_lt HO140.out _ rfl)|exact Kd.S_lt HO140.out _ rfl)) (by first|(rw[add_block];exact(fun e_=>((HL142_0.out.1 _ e_.symm).2) rfl))|(show some (Addr.add _ _).block≠_;rw[add_block];exact(fun e_=>((HL142_0.out.1 _ e_.symm).2) rfl))|exact(fun e_=>((HL142_0.out.1 _ e_.symm).2) rfl)))
          (first|have HS5_:=cell_grown hg (hHeld.2.2.2.2.2) (by first|(rw[add_block];exact(fun e_=>((HL142_0.out.1 _ e_.symm).2) rfl))|(show some (Addr.add _ _).block≠_;rw[add_block];exact(fun e_=>((HL142_0.out.1 _ e_.symm).2) rfl))|exact(fun e_=>((HL142_0.out.1 _ e_.symm).2) rfl))|have HS5_:=cell_grown hg (cell_unalloc (hHeld.2.2.2.2.2) (by first|(rw[add_block];exact Kd.S_lt HO140.out _ rfl)|(show(Addr.add _ _).block < _;rw[add_block];exact Kd.S_lt HO140.out _ rfl)|exact Kd.S_lt HO140.out _ rfl)) (by first|(rw[add_block];exact(fun e_=>((HL142_0.out.1 _ e_.symm).2) rfl))|(show some (Addr.add _ _).block≠_;rw[add_block];exact(fun e_=>((HL142_0.out.1 _ e_.symm).2) rfl))|exact(fun e_=>((HL142_0.out.1 _ e_.symm).2) rfl)))
          rw[← Ny143.out] at ho
          have n0_:=Aside0.mk (blk_grown (g:=gb132) (o:=.cells #[.int .i64 t137,.slice (some ⟨go48,0,none⟩) t138.length co45,.int .i64 t141] 28 (0,0)) (bL BK132.out) hg (Kd.R_ne HL142_0.out BK132.out (by decide)))
          have n1_:=Aside0.mk (blk_grown (g:=gb133) (o:=.cells #[.int .i64 0,.slice none 0 0,.int .i64 0] 28 (0,0)) (bL BK133.out) hg (Kd.R_ne HL142_0.out BK133.out (by decide)))
          have n2_:=Aside0.mk (hb)
          have n3_:=Aside0.mk (Kd.H_grown (Kd.H_widen (by repeat (first|exact HH48.out|refine Kd.H_alloc ?_ _|refine Kd.H_drewN ?_ _|refine Kd.H_drew ?_))) hg (fun k_ e_=>.inl (UU48.out.1 k_ e_)))
          have n4_:=Aside0.mk (ho)
          clear BK132 BK133 HB HH48 HO140 UU48 HL142_0
          have BK132:=n0_
          have BK133:=n1_
          have HB:=n2_
          have HH48:=n3_
          have HO145:=n4_
          clear n0_ n1_ n2_ n3_ n4_ ho hb hg hat
          have p36:0≤(a1:Int):=of_decide_eq_true (bD)
          have q36:(a1:Int) < ((t138.length:Int):Int):=of_decide_eq_true (bD)
          replace p36:=eq_true p36
          replace q36:=eq_true q36
          obtain⟨Ao52,co52,eo52⟩:=Kd.R_slice HO145.out
          (first|subst eo52|(injection eo52 with f1_ f2_ f3_;have f4_:=f1_.symm;have f5_:=f3_.symm;clear f1_ f2_ f3_;subst f4_;subst f5_))
          obtain⟨_,_,hraw50,_,_,hcc50,_⟩:=Kd.H_raw HH48.out (of_decide_eq_true (bD)) (by have h_:(a1:Int) < ((t138.length:Int):Int):=of_decide_eq_true (bD);first|exact h_|(have e_:=(HN48.out);omega)|simpa using h_)
          obtain⟨_,hfr50⟩:=Kd.H_at HH48.out (of_decide_eq_true (bD)) (by have h_:(a1:Int) < ((t138.length:Int):Int):=of_decide_eq_true (bD);first|exact h_|(have e_:=(HN48.out);omega)|simpa using h_)
          have hx50_0:=hcc50 0 _ rfl
          have hf50_0:=hfr50 0
          (try simp only[Nat.add_zero] at hx50_0 hf50_0)
          (try rw[show(k116).sz=3 from rfl] at hx50_0)
          (try rw[show(k116).sz=3 from rfl] at hf50_0)
          have HP50:=Kd.S_seg0 HH48.out (of_decide_eq_true (bD)) (by have h_:(a1:Int) < ((t138.length:Int):Int):=of_decide_eq_true (bD);first|exact h_|(have e_:=(HN48.out);omega)|simpa using h_) (seg:=[.slice Ao52 y143.length co52]) (j:=0) (show 1≤3 from by decide) (x':=(⟨y143,(rd_T116 t138 a1).f1,(rd_T116 t138 a1).f2⟩:S116)) (k116_mkM _ _ _ (⟨y143,(rd_T116 t138 a1).f1,(rd_T116 t138 a1).f2⟩:S116) HO145.out) (fun _ hk=>hk)
          clear hcc50 hfr50
          have HNB132_go48:=Aside0.mk (show gb132≠go48 from by have h_:=Kd.R_ne hraw50 BK132.out (by decide);intro e_;exact h_ (by rw[e_];rfl))
          have HNB133_go48:=Aside0.mk (show gb133≠go48 from by have h_:=Kd.R_ne hraw50 BK133.out (by decide);intro e_;exact h_ (by rw[e_];rfl))
          have HS50:=HP50.1
          rw[← Ny146.out] at HS50
          have HQ50:=Aside0.mk HS50
          obtain⟨_,hgg50⟩:=Kd.R_typed hraw50 go48 rfl
          have GG50_:=Aside0.mk hgg50
          clear HP50 HS50 hgg50
          refine hK.out _ _ ⟨(blk_cell BK132.out 0).trans rfl,(blk_cell BK132.out 1).trans rfl,(blk_cell BK132.out 2).trans rfl,HS3_,HS4_,HS5_⟩ (fun hHeld => ?_)
          clear hK K
          refine norm_ (a':=?_) ?_ ?_
          rotate_left
          ·show Act.put _ (some 51) _=_
           simp only[Act.put,List.setIfInBounds_toArray,List.set_cons_zero,List.set_cons_succ,i64_w,i32_w]
           rfl
          refine pure_ (i:=12) (N:=some 52) (v:=?_) (a':=?_) #[true,true,true,true,true,true,true,true,true,true,true,true,true,false,false] rfl rfl (any_of HT_.out (by kernel_rfl)) (fun _ _ _ h=>h) (Or.inl ⟨by rfl,?_⟩) ?_ ?_
          rotate_left
          ·intro w'
           go_simp
           with_reducible rfl
          rotate_left
          ·simp only[Act.put,List.setIfInBounds_toArray,List.set_cons_zero,List.set_cons_succ,i64_w,i32_w]
           rfl
          refine pure_ (i:=13) (N:=some 53) (v:=?_) (a':=?_) #[true,true,true,true,true,true,true,true,true,true,true,true,true,true,false] rfl rfl (any_of HT_.out (by kernel_rfl)) (fun _ _ _ h=>h) (Or.inl ⟨by rfl,?_⟩) ?_ ?_
          rotate_left
          ·intro w'
           go_simp
           with_reducible rfl
          rotate_left
          ·simp only[Act.put,List.setIfInBounds_toArray,List.set_cons_zero,List.set_cons_succ,i64_w,i32_w]
           rfl
          refine last_ (i:=14) (N:=none) #[true,true,true,true,true,true,true,true,true,true,true,true,true,true,true] rfl rfl (one_of HT_.out (by kernel_rfl)) (by decide) (fun K hK => ?_)
          refine skip_ (w1:=?_) (by rfl) rfl ?_ ?_
          rotate_left
          ·go_simp
           rfl
          refine hK.out _ _ ?_
          clear hK K
          refine done_ (done_of HT_.out (by kernel_rfl)) ?_
          have n0_:Aside0 (Kd.S k116 116 (w49.setCell ⟨go48,(a1:Int).toNat * 3,none⟩ (.slice Ao52 y143.length co52)) w.heap.size (fun _=>True) (.slice (some ⟨go48,0,none⟩) t138.length co45) y146):=⟨by(with_reducible repeat (first|apply Kd.S_alloc|apply Kd.S_drewN|apply Kd.S_drew));exact HQ50.out⟩
          have n1_:Aside0 ((w49.setCell ⟨go48,(a1:Int).toNat * 3,none⟩ (.slice Ao52 y143.length co52)).heap[gb132]?=some (.cells #[.int .i64 t137,.slice (some ⟨go48,0,none⟩) t138.length co45,.int .i64 t141] 28 (0,0))):=⟨by(with_reducible repeat (first|refine blk_drewN ?_ _|refine blk_drew ?_|refine blk_alloc ?_ _));refine blk_far ?_ HNB132_go48.out _;(with_reducible repeat (first|refine blk_drewN ?_ _|refine blk_drew ?_|refine blk_alloc ?_ _));exact BK132.out⟩
          have n2_:Aside0 ((w49.setCell ⟨go48,(a1:Int).toNat * 3,none⟩ (.slice Ao52 y143.length co52)).heap[gb133]?=some (.cells #[.int .i64 0,.slice none 0 0,.int .i64 0] 28 (0,0))):=⟨by(with_reducible repeat (first|refine blk_drewN ?_ _|refine blk_drew ?_|refine blk_alloc ?_ _));refine blk_far ?_ HNB133_go48.out _;(with_reducible repeat (first|refine blk_drewN ?_ _|refine blk_drew ?_|refine blk_alloc ?_ _));exact BK133.out⟩
          have n3_:Aside0 (Below w.heap.size w (w49.setCell ⟨go48,(a1:Int).toNat * 3,none⟩ (.slice Ao52 y143.length co52))):=⟨bS3 GB48.out GE132.out GE133.out⟩
          (try clear HO140)
          (try clear BK132)
          (try clear BK133)
          (try clear HB)
          generalize (w49.setCell ⟨go48,(a1:Int).toNat * 3,none⟩ (.slice Ao52 y143.length co52))=w53 at n0_ n1_ n2_ n3_ ⊢
          have HO140:=n0_
          have BK132:=n1_
          have BK133:=n2_
          have HB:=n3_
          clear n0_ n1_ n2_ n3_
          obtain⟨hcz54_0,hcz54_1,hcz54_2⟩:=cC3 BK132.out
          obtain⟨hfz54_0,hfz54_1,hfz54_2⟩:=cF3 BK132.out
          obtain⟨hcz55_0,hcz55_1,hcz55_2⟩:=cC3 BK133.out
          obtain⟨hfz55_0,hfz55_1,hfz55_2⟩:=cF3 BK133.out
          try go_wp2
          refine bodyPost_ret (results_ct rfl _ _ gb133 28 #[.int .i64 t137,.slice (some ⟨go48,0,none⟩) t138.length co45,.int .i64 t141] (0,0) _ rfl (by(with_reducible repeat (first|refine blk_drewN ?_ _|refine blk_drew ?_|refine blk_alloc ?_ _));refine blk_put (cs:=#[.int .i64 t137,.slice (some ⟨go48,0,none⟩) t138.length co45,.int .i64 0]) ?_ 2 _ rfl;(with_reducible repeat (first|refine blk_drewN ?_ _|refine blk_drew ?_|refine blk_alloc ?_ _));refine blk_put (cs:=#[.int .i64 t137,.slice none 0 0,.int .i64 0]) ?_ 1 _ rfl;(with_reducible repeat (first|refine blk_drewN ?_ _|refine blk_drew ?_|refine blk_alloc ?_ _));refine blk_put (cs:=#[.int .i64 0,.slice none 0 0,.int .i64 0]) ?_ 0 _ rfl;(with_reducible repeat (first|refine blk_drewN ?_ _|refine blk_drew ?_|refine blk_alloc ?_ _));exact BK133.out) Try.underlying28 rfl (by kernel_rfl)) rfl ?_
          exact⟨_,by first|rfl|(simp[errW_none,errW_some]<;>rfl)|(simp[*,errW_none,errW_some]<;>rfl),by(with_reducible repeat (first|apply Kd.S_alloc|apply Kd.S_drewN|apply Kd.S_drew));exact Kd.S_mono (Kd.S_far (p:=⟨gb133,2,none⟩) (Kd.S_far (p:=⟨gb133,1,none⟩) (Kd.S_far (p:=⟨gb133,0,none⟩) (Kd.S_types HO140.out BK133.out (by decide)) (fun _ hk=>hk.2) (.int .i64 t137)) (fun _ hk=>hk.2) (.slice (some ⟨go48,0,none⟩) t138.length co45)) (fun _ hk=>hk.2) (.int .i64 t141)) (fun _ hk=>trivial),bS2 GE132.out GE133.out⟩
         ·rw[if_neg c35] at H
          exact absurd H (by simp)
        ·rw[if_neg c34] at H
         exact absurd H (by simp)
      ·rw[if_neg c24] at H
       exact absurd H (by simp)
     ·rw[if_neg c23] at H
      exact absurd H (by simp)
    ·replace c22:=Bool.eq_false_iff.mpr c22
     subst c22
     have H1:(some (0,([]:List (S116)),0,false))=some (r1,r2,r3,r4):=by rw[if_neg (show ¬ (false=true) by decide)] at H;exact H
     clear H
     have H:=H1
     clear H1
     simp only[Option.some.injEq,Prod.mk.injEq] at H
     obtain⟨rfl,rfl,rfl,rfl⟩:=H
     go_enter Try.func16,Try.ntmps16
     go_wp2_with (first|((with_reducible refine gate_dst (N:=3) rfl ?_);(try (refine gate_guard (by rfl) ?_;dsimp only));refine box_event ?hg (N:=3) ?hd (cs:=#[.int .i64 a0_0,.slice A0_1 l0_1.length c0_1,.int .i64 a0_2]) (t:=28) ?hr ?_;(case hd=>rfl);(case hg=>rfl);(case hr=>first|(go_simp;done)|(go_simp;rfl));intro gb132 hg w56 hbox hb;have n0_:=Aside0.mk (below_step (bB) hb);have n1_:=Aside0.mk (hbox);have n2_:=Aside0.mk ((bG:w.heap.size≤gb132));have n3_:=Aside0.mk ((bG:w.heap.size≤gb132));clear HB;have HB:=n0_;have BK132:=n1_;have GW132:=n2_;have GE132:=n3_;clear n0_ n1_ n2_ n3_;clear hb hbox hg)|((with_reducible refine gate_dst (N:=6) rfl ?_);(try (refine gate_guard (by rfl) ?_;dsimp only));refine box_event ?hg (N:=6) ?hd (cs:=#[.int .i64 0,.slice none 0 0,.int .i64 0]) (t:=28) ?hr ?_;(case hd=>rfl);(case hg=>rfl);(case hr=>first|(go_simp;done)|(go_simp;rfl));intro gb133 hg w57 hbox hb;have n0_:=Aside0.mk (bM BK132.out hb);have n1_:=Aside0.mk (below_step (bS GE132.out) hb);have n2_:=Aside0.mk (hbox);have n3_:=Aside0.mk ((by rw[hg];exact(below_size (bS GE132.out)):w.heap.size≤gb133));have n4_:=Aside0.mk ((by rw[hg];exact(below_size (bS GE132.out)):w.heap.size≤gb133));have n5_:=Aside0.mk ((bN BK132.out hg:gb132≠gb133));have n6_:=Aside0.mk ((bO BK132.out hg:gb133≠gb132));clear BK132 HB;have BK132:=n0_;have HB:=n1_;have BK133:=n2_;have GW133:=n3_;have GE133:=n4_;have NB132_133:=n5_;have NB133_132:=n6_;clear n0_ n1_ n2_ n3_ n4_ n5_ n6_;clear hb hbox hg;have hnb58:=NB132_133.out;have hnc58:=NB133_132.out;obtain⟨hcz59_0,hcz59_1,hcz59_2⟩:=cC3 BK132.out;obtain⟨hfz59_0,hfz59_1,hfz59_2⟩:=cF3 BK132.out)|((with_reducible refine gate_callee (f:=74) rfl ?_);refine goesA (some 9) rfl rfl Try.func74 #[.agg #[.int .i64 a0_0,.slice A0_1 l0_1.length c0_1,.int .i64 a0_2]] rfl ?_;(with_reducible refine(spec_GoodTurns.calls k a0_0 _ _ l0_1 a0_2 true _ ?side1 ?side2 A4.out).mono ?_);(case side1=>exact bC HR0_1.out);(case side2=>exact HC0_1.out);rintro e w60 ⟨rfl,hb⟩;refine⟨_,rfl,?_⟩;have n0_:=Aside0.mk (bM BK132.out hb);have n1_:=Aside0.mk (bM BK133.out hb);have n2_:=Aside0.mk (below_step (bS2 GE132.out GE133.out) hb);clear BK132 BK133 HB;have BK132:=n0_;have BK133:=n1_;have HB:=n2_;clear n0_ n1_ n2_;(try clear hb);(try clear hb2);(try clear hk);(try clear hi);obtain⟨hcz61_0,hcz61_1,hcz61_2⟩:=cC3 BK132.out;obtain⟨hfz61_0,hfz61_1,hfz61_2⟩:=cF3 BK132.out)|(go_at_call 75;(with_reducible refine(spec_l1In.calls a2 1 50 false _ A21.out).mono ?_);rintro e w' ⟨rfl,⟨nd,rfl⟩⟩;(try (rw[drewN_self w60];generalize hq_:World.drewN w60 _=w60;have n0_:Aside0 (w60.heap[gb132]?=some (.cells #[.int .i64 a0_0,.slice A0_1 l0_1.length c0_1,.int .i64 a0_2] 28 (0,0))):=⟨by rw[← hq_];exact(bL BK132.out)⟩;have n1_:Aside0 (w60.heap[gb133]?=some (.cells #[.int .i64 0,.slice none 0 0,.int .i64 0] 28 (0,0))):=⟨by rw[← hq_];exact(bL BK133.out)⟩;have n2_:Aside0 (Below w.heap.size w w60):=⟨by rw[← hq_];exact(bS2 GE132.out GE133.out)⟩;clear BK132 BK133 HB hq_;have BK132:=n0_;have BK133:=n1_;have HB:=n2_;clear n0_ n1_ n2_));obtain⟨hcy132_0,hcy132_1,hcy132_2⟩:=cC3 BK132.out;obtain⟨hcy133_0,hcy133_1,hcy133_2⟩:=cC3 BK133.out;obtain⟨hcz62_0,hcz62_1,hcz62_2⟩:=cC3 BK133.out;obtain⟨hfz62_0,hfz62_1,hfz62_2⟩:=cF3 BK133.out))
     refine bodyPost_ret (results_ct rfl _ _ gb133 28 #[.int .i64 0,.slice none 0 0,.int .i64 0] (0,0) _ rfl (by(with_reducible repeat (first|refine blk_drewN ?_ _|refine blk_drew ?_|refine blk_alloc ?_ _));refine blk_put (cs:=#[.int .i64 0,.slice none 0 0,.int .i64 0]) ?_ 2 _ rfl;(with_reducible repeat (first|refine blk_drewN ?_ _|refine blk_drew ?_|refine blk_alloc ?_ _));refine blk_put (cs:=#[.int .i64 0,.slice none 0 0,.int .i64 0]) ?_ 1 _ rfl;(with_reducible repeat (first|refine blk_drewN ?_ _|refine blk_drew ?_|refine blk_alloc ?_ _));refine blk_put (cs:=#[.int .i64 0,.slice none 0 0,.int .i64 0]) ?_ 0 _ rfl;(with_reducible repeat (first|refine blk_drewN ?_ _|refine blk_drew ?_|refine blk_alloc ?_ _));exact BK133.out) Try.underlying28 rfl (by kernel_rfl)) rfl ?_
     exact⟨_,by first|rfl|(simp[errW_none,errW_some]<;>rfl)|(simp[*,errW_none,errW_some]<;>rfl),by first|exact Kd.S_nil _ _ _ _ _|exact Kd.N_nil _ _ _ _ _|exact Kd.V_nil _ _ _ _ _|exact Kd.Q_nil _ _ _ _ _|exact Kd.R_nil _ _ _ _ _,bS2 GE132.out GE133.out⟩
 ·replace c5:=Bool.eq_false_iff.mpr c5
  subst c5
  have H1:(some (0,([]:List (S116)),0,false))=some (r1,r2,r3,r4):=by rw[if_neg (show ¬ (false=true) by decide)] at H;exact H
  clear H
  have H:=H1
  clear H1
  simp only[Option.some.injEq,Prod.mk.injEq] at H
  obtain⟨rfl,rfl,rfl,rfl⟩:=H
  go_enter Try.func16,Try.ntmps16
  go_wp2_with (first|((with_reducible refine gate_dst (N:=3) rfl ?_);(try (refine gate_guard (by rfl) ?_;dsimp only));refine box_event ?hg (N:=3) ?hd (cs:=#[.int .i64 a0_0,.slice A0_1 l0_1.length c0_1,.int .i64 a0_2]) (t:=28) ?hr ?_;(case hd=>rfl);(case hg=>rfl);(case hr=>first|(go_simp;done)|(go_simp;rfl));intro gb132 hg w63 hbox hb;have n0_:=Aside0.mk (below_step (bB) hb);have n1_:=Aside0.mk (hbox);have n2_:=Aside0.mk ((bG:w.heap.size≤gb132));have n3_:=Aside0.mk ((bG:w.heap.size≤gb132));clear HB;have HB:=n0_;have BK132:=n1_;have GW132:=n2_;have GE132:=n3_;clear n0_ n1_ n2_ n3_;clear hb hbox hg)|((with_reducible refine gate_dst (N:=6) rfl ?_);(try (refine gate_guard (by rfl) ?_;dsimp only));refine box_event ?hg (N:=6) ?hd (cs:=#[.int .i64 0,.slice none 0 0,.int .i64 0]) (t:=28) ?hr ?_;(case hd=>rfl);(case hg=>rfl);(case hr=>first|(go_simp;done)|(go_simp;rfl));intro gb133 hg w64 hbox hb;have n0_:=Aside0.mk (bM BK132.out hb);have n1_:=Aside0.mk (below_step (bS GE132.out) hb);have n2_:=Aside0.mk (hbox);have n3_:=Aside0.mk ((by rw[hg];exact(below_size (bS GE132.out)):w.heap.size≤gb133));have n4_:=Aside0.mk ((by rw[hg];exact(below_size (bS GE132.out)):w.heap.size≤gb133));have n5_:=Aside0.mk ((bN BK132.out hg:gb132≠gb133));have n6_:=Aside0.mk ((bO BK132.out hg:gb133≠gb132));clear BK132 HB;have BK132:=n0_;have HB:=n1_;have BK133:=n2_;have GW133:=n3_;have GE133:=n4_;have NB132_133:=n5_;have NB133_132:=n6_;clear n0_ n1_ n2_ n3_ n4_ n5_ n6_;clear hb hbox hg;have hnb65:=NB132_133.out;have hnc65:=NB133_132.out;obtain⟨hcz66_0,hcz66_1,hcz66_2⟩:=cC3 BK132.out;obtain⟨hfz66_0,hfz66_1,hfz66_2⟩:=cF3 BK132.out)|((with_reducible refine gate_callee (f:=74) rfl ?_);refine goesA (some 9) rfl rfl Try.func74 #[.agg #[.int .i64 a0_0,.slice A0_1 l0_1.length c0_1,.int .i64 a0_2]] rfl ?_;(with_reducible refine(spec_GoodTurns.calls k a0_0 _ _ l0_1 a0_2 false _ ?side1 ?side2 A4.out).mono ?_);(case side1=>exact bC HR0_1.out);(case side2=>exact HC0_1.out);rintro e w67 ⟨rfl,hb⟩;refine⟨_,rfl,?_⟩;have n0_:=Aside0.mk (bM BK132.out hb);have n1_:=Aside0.mk (bM BK133.out hb);have n2_:=Aside0.mk (below_step (bS2 GE132.out GE133.out) hb);clear BK132 BK133 HB;have BK132:=n0_;have BK133:=n1_;have HB:=n2_;clear n0_ n1_ n2_;(try clear hb);(try clear hb2);(try clear hk);(try clear hi);obtain⟨hcz68_0,hcz68_1,hcz68_2⟩:=cC3 BK133.out;obtain⟨hfz68_0,hfz68_1,hfz68_2⟩:=cF3 BK133.out))
  refine bodyPost_ret (results_ct rfl _ _ gb133 28 #[.int .i64 0,.slice none 0 0,.int .i64 0] (0,0) _ rfl (by(with_reducible repeat (first|refine blk_drewN ?_ _|refine blk_drew ?_|refine blk_alloc ?_ _));refine blk_put (cs:=#[.int .i64 0,.slice none 0 0,.int .i64 0]) ?_ 2 _ rfl;(with_reducible repeat (first|refine blk_drewN ?_ _|refine blk_drew ?_|refine blk_alloc ?_ _));refine blk_put (cs:=#[.int .i64 0,.slice none 0 0,.int .i64 0]) ?_ 1 _ rfl;(with_reducible repeat (first|refine blk_drewN ?_ _|refine blk_drew ?_|refine blk_alloc ?_ _));refine blk_put (cs:=#[.int .i64 0,.slice none 0 0,.int .i64 0]) ?_ 0 _ rfl;(with_reducible repeat (first|refine blk_drewN ?_ _|refine blk_drew ?_|refine blk_alloc ?_ _));exact BK133.out) Try.underlying28 rfl (by kernel_rfl)) rfl ?_
  exact⟨_,by first|rfl|(simp[errW_none,errW_some]<;>rfl)|(simp[*,errW_none,errW_some]<;>rfl),by first|exact Kd.S_nil _ _ _ _ _|exact Kd.N_nil _ _ _ _ _|exact Kd.V_nil _ _ _ _ _|exact Kd.Q_nil _ _ _ _ _|exact Kd.R_nil _ _ _ _ _,bS2 GE132.out GE133.out⟩

/-! ### laws_toIntS: function 32 -/
def laws_toIntS.l0:Nat→List Int→List Int→Int→Option (List Int)
 | 0,_,_,_=>none
 | k+1,x0,x3,x4=>if x4 < (x0.length:Int) then (if 0≤x4 then (if x4 < (x3.length:Int) then (laws_toIntS.l0 k x0 (x3.set (x4:Int).toNat (rd x0 x4)) (wrap64 (x4+1))) else (none)) else (none)) else (some x3)
def laws_toIntS.f (k:Nat) (l0:List Int):Option (List Int):=if 0≤(l0.length:Int) then (if ((l0.length:Int):Int).toNat≤35184372088832 then (laws_toIntS.l0 k l0 (List.replicate ((l0.length:Int):Int).toNat 0) 0) else (none)) else (none)
theorem laws_toIntS.mono_l : ∀ k,(∀ y0 y1 y2,LeO (laws_toIntS.l0 k y0 y1 y2) (laws_toIntS.l0 (k+1) y0 y1 y2))
 | 0=>fun _ _ _ r h=>by simp[laws_toIntS.l0] at h
 | k+1=>by
  have ih0:=laws_toIntS.mono_l k
  ·intro y0 y1 y2
   unfold laws_toIntS.l0
   repeat' first
   | (with_reducible exact ih0 _ _ _)
   | (with_reducible exact LeO.refl _)
   | (with_reducible exact LeO.none _)
   | (with_reducible refine LeO.ite ?_ ?_)
   | (with_reducible refine LeO.bind ?_ (fun _ => ?_))
   | exact ih0 _ _ _
   | exact LeO.none _
   | refine LeO.ite ?_ ?_
   | refine LeO.bind ?_ (fun _ => ?_)
theorem laws_toIntS.mono : ∀ a0 k,LeO (laws_toIntS.f k a0) (laws_toIntS.f (k+1) a0):=by
 intro a0 k
 have ih0:=laws_toIntS.mono_l k
 unfold laws_toIntS.f
 repeat' first
  | (with_reducible exact ih0 _ _ _)
  | (with_reducible exact LeO.refl _)
  | (with_reducible exact LeO.none _)
  | (with_reducible refine LeO.ite ?_ ?_)
  | (with_reducible refine LeO.bind ?_ (fun _ => ?_))
  | exact ih0 _ _ _
  | exact LeO.none _
  | refine LeO.ite ?_ ?_
  | refine LeO.bind ?_ (fun _ => ?_)
set_option maxHeartbeats 8000000 in
set_option maxRecDepth 100000 in
theorem laws_toIntS.calls (k:Nat) (A0:Option Addr) (c0:Nat) (l0:List Int) (r:List Int) (w:World) (hr0:Kd.C (Kd.int .i64) w A0 l0.length l0) (hc0:l0.length≤c0) (h:laws_toIntS.f k l0=some r) :
  Calls Try.prog 32 #[.slice A0 l0.length c0] w fun e w' => ∃ v0_:Value,e=.returned (v0_)∧Kd.R (Kd.int .i64) 3 w' w.heap.size (fun _=>True) v0_ r∧Below w.heap.size w w':=by
 have HR0:=Aside0.mk hr0
 have HC0:=Aside0.mk hc0
 clear hr0 hc0
 have HB:=Aside0.mk (Below.refl w.heap.size w)
 have H:(if 0≤(l0.length:Int) then (if ((l0.length:Int):Int).toNat≤35184372088832 then (laws_toIntS.l0 k l0 (List.replicate ((l0.length:Int):Int).toNat 0) 0) else (none)) else (none))=some r:=h
 clear h
 by_cases c2:0≤(l0.length:Int)
 ·rw[if_pos c2] at H
  have c2b0:=eq_true c2
  have c2b1:decide (0≤(l0.length:Int))=true:=decide_eq_true c2
  clear c2
  by_cases c3:((l0.length:Int):Int).toNat≤35184372088832
  ·rw[if_pos c3] at H
   have c3b0:=eq_true c3
   have c3b1:decide (((l0.length:Int):Int).toNat≤35184372088832)=true:=decide_eq_true c3
   clear c3
   obtain⟨y147,hy147⟩ : ∃ y_:List Int,y_=(List.replicate ((l0.length:Int):Int).toNat 0):=⟨_,rfl⟩
   replace H:(laws_toIntS.l0 k l0 y147 0)=some r:=by first|(rw[hy147];with_reducible exact H)|(have H2_:=(Option.bind_some _ _).symm.trans H;rw[hy147];with_reducible exact H2_)|(have H2_:=(Option.bind_some _ _).symm.trans H;with_reducible exact H2_)|with_reducible exact H|(rw[hy147];exact H)|exact H
   have Ny147:=Aside0.mk hy147
   clear hy147
   have H':=Aside0.mk H
   clear H
   go_enter Try.func32,Try.ntmps32
   go_wp2_with (first|((with_reducible refine gate_dst (N:=7) rfl ?_);refine Kd.R_make (Kd.int .i64) _ 3 rfl (N:=7) rfl 37 _ _ rfl (l0.length:Int) rfl rfl Try.underlying37 (.int .i64 0) 8 info3 rfl (by decide) (by omega) 0 (ok:=fun _=>True) (okp:=fun _=>True) rfl (fun _ hk=>hk) trivial (of_decide_eq_true (bD)) (Nat.le_trans (Nat.mul_le_mul_right _ (of_decide_eq_true (bD):(l0.length:Int).toNat≤35184372088832)) (by omega)) (Below.refl _ _) (Nat.le_refl _) ?_;intro v148 w4 ho5 hb hg_ hnew_;clear hg_ hnew_;(first|rw[← Ny147.out] at ho5|(simp only[Int.reduceToNat] at ho5;rw[← Ny147.out] at ho5));have n0_:=Aside0.mk (Kd.R_lower ho5 (below_size (bB)));have n1_:=Aside0.mk (below_step (bB) hb);clear HB;have HO149:=n0_;have HB:=n1_;clear n0_ n1_;clear hb ho5))
   go_loopg [4] k (fun kq v4 w' => ∃ (x3_1:List Int) (x4_1:Int),v4=.int .i64 x4_1∧Aside0 (laws_toIntS.l0 kq l0 x3_1 x4_1=some r)∧Aside0 (kq≤k)∧Aside0 (Kd.R (Kd.int .i64) 3 w' w.heap.size (fun _=>True) v148 x3_1)∧Aside0 (Below w.heap.size w w'))
   case atStart=>exact⟨(y147),(0),(bR),H',⟨Nat.le_refl _⟩,⟨by(with_reducible repeat (first|apply Kd.R_alloc|apply Kd.R_drewN|apply Kd.R_drew));exact HO149.out⟩,⟨by repeat (first|(with_reducible first|exact HB.out|apply below_alloc|apply pw_below_drewN|apply below_drew1)|exact HB.out)⟩⟩
   case round =>
    clear H'
    try clear c2
    try clear c2b0
    try clear c2b1
    try clear p2
    try clear c3
    try clear c3b0
    try clear c3b1
    obtain⟨x3_1,x4_1,rfl,HA,HK1,HO_3,HB⟩:=hrel
    cases gk with
    | zero=>exact absurd HA.out (by simp[laws_toIntS.l0])
    | succ k1 =>
     have H:=HA.out
     clear HA
     simp only[laws_toIntS.l0] at H
     by_cases c6:x4_1 < (l0.length:Int)
     ·rw[if_pos c6] at H
      have c6b0:decide (x4_1 < (l0.length:Int))=true:=decide_eq_true c6
      clear c6
      by_cases c7:0≤x4_1
      ·rw[if_pos c7] at H
       have c7b0:decide (0≤x4_1)=true:=decide_eq_true c7
       clear c7
       by_cases c8:x4_1 < (x3_1.length:Int)
       ·rw[if_pos c8] at H
        have c8b0:decide (x4_1 < (x3_1.length:Int))=true:=decide_eq_true c8
        clear c8
        obtain⟨y151,hy151⟩ : ∃ y_:List Int,y_=(x3_1.set (x4_1:Int).toNat (rd l0 x4_1)):=⟨_,rfl⟩
        replace H:(laws_toIntS.l0 k1 l0 y151 (wrap64 (x4_1+1)))=some r:=by first|(rw[hy151];with_reducible exact H)|(have H2_:=(Option.bind_some _ _).symm.trans H;rw[hy151];with_reducible exact H2_)|(have H2_:=(Option.bind_some _ _).symm.trans H;with_reducible exact H2_)|with_reducible exact H|(rw[hy151];exact H)|exact H
        have Ny151:=Aside0.mk hy151
        clear hy151
        have H':=Aside0.mk H
        clear H
        have p150:0≤(x4_1:Int):=of_decide_eq_true (bD)
        have q150:x4_1 < (l0.length:Int):=of_decide_eq_true (bD)
        obtain⟨ad150,e150,hx150_0⟩:=Kd.at_int HR0.out x4_1 p150 q150
        cases e150
        replace hx150_0:=(HB.out.cell (World.block_lt_of_cell? w _ hx150_0)).trans hx150_0
        replace p150:=eq_true p150
        replace q150:=eq_true q150
        have p9:0≤(x4_1:Int):=of_decide_eq_true (bD)
        have q9:(x4_1:Int) < ((x3_1.length:Int):Int):=of_decide_eq_true (bD)
        obtain⟨go9,co9,eo9,gb9,gl9,cl9,HG9⟩:=Kd.R_form HO_3.out (by omega)
        (first|cases eo9|(injection eo9 with ea_ en_ ec_;(first|subst ea_|(injection ea_ with ea_;subst ea_));subst ec_;clear en_))
        have GB9:=Aside0.mk gb9
        have GG9:=Aside0.mk HG9
        clear gb9 gl9 HG9
        obtain⟨hx9_0,hf9_0⟩:=Kd.R_celln 0 HO_3.out (x4_1:Int) p9 q9
        replace p9:=eq_true p9
        replace q9:=eq_true q9
        have HP10:=Kd.R_putg HO_3.out (x4_1:Int) (rd l0 x4_1)
        go_wp2_with (first|((with_reducible refine gate_store (t:=3) (p:=20) rfl ?_);refine store_event (t:=3) (p:=20) (v:=?vo_w11) (w1:=(wr.setCell ⟨go9,(x4_1:Int).toNat,none⟩ (.int .i64 (rd l0 x4_1)))) ?hg ?ho ?hn ?hr ?_;(case ho=>rfl);(case hg=>rfl);(case hn=>rfl);(case hr=>first|(go_simp;done)|(go_simp;rfl));intro w11 hw;have hg:wr.grownBy w11 (some go9):=(by rw[hw];exact HP10.2);have hp_:Kd.R (Kd.int .i64) 3 w11 w.heap.size (fun _=>True) (.slice (some ⟨go9,0,none⟩) x3_1.length co9) y151:=(by rw[hw,Ny151.out];exact HP10.1);clear HP10;have n0_:=Aside0.mk (hp_);have n1_:=Aside0.mk ((by rw[hw];exact below_set (HB.out) GB9.out:Below w.heap.size w w11));clear HO_3 HB;have HO_3:=n0_;have HB:=n1_;clear n0_ n1_;clear hg hw hp_))
        go_roundg k1
        case measure=>have:=HK1.out;omega
        case rel=>exact⟨(y151),(wrap64 (x4_1+1)),(bR),H',⟨by have:=HK1.out;omega⟩,⟨by(with_reducible repeat (first|apply Kd.R_alloc|apply Kd.R_drewN|apply Kd.R_drew));exact HO_3.out⟩,⟨by repeat (first|(with_reducible first|exact HB.out|apply below_alloc|apply pw_below_drewN|apply below_drew1)|exact HB.out)⟩⟩
       ·rw[if_neg c8] at H
        exact absurd H (by simp)
      ·rw[if_neg c7] at H
       exact absurd H (by simp)
     ·rw[if_neg c6] at H
      have c6b0:decide (x4_1 < (l0.length:Int))=false:=decide_eq_false c6
      clear c6
      obtain rfl:=Option.some.inj H
      go_wp2
      go_ret
      exact⟨_,by first|rfl|(simp[errW_none,errW_some]<;>rfl)|(simp[*,errW_none,errW_some]<;>rfl),by(with_reducible repeat (first|apply Kd.R_alloc|apply Kd.R_drewN|apply Kd.R_drew));exact HO_3.out,bB⟩
  ·rw[if_neg c3] at H
   exact absurd H (by simp)
 ·rw[if_neg c2] at H
  exact absurd H (by simp)

/-! ### laws_toQueue: function 139 -/
def laws_toQueue.f (k:Nat) (l0_0:List Int) (a0_1:Int) (a0_2:Int):Option (List Int × Int × Int):=(laws_toIntS.f k l0_0).bind fun t155=>(some (t155,a0_1,a0_2))
theorem laws_toQueue.mono : ∀ a0 a1 a2 k,LeO (laws_toQueue.f k a0 a1 a2) (laws_toQueue.f (k+1) a0 a1 a2):=by
 intro a0 a1 a2 k
 unfold laws_toQueue.f
 repeat' first
  | (with_reducible exact laws_toIntS.mono _ _)
  | (with_reducible exact LeO.refl _)
  | (with_reducible exact LeO.none _)
  | (with_reducible refine LeO.ite ?_ ?_)
  | (with_reducible refine LeO.bind ?_ (fun _ => ?_))
  | exact laws_toIntS.mono _ _
  | exact LeO.none _
  | refine LeO.ite ?_ ?_
  | refine LeO.bind ?_ (fun _ => ?_)
set_option maxHeartbeats 8000000 in
set_option maxRecDepth 100000 in
theorem laws_toQueue.calls (k:Nat) (A0_0:Option Addr) (c0_0:Nat) (l0_0:List Int) (a0_1:Int) (a0_2:Int) (r1:List Int) (r2:Int) (r3:Int) (w:World) (hr0_0:Kd.C (Kd.int .i64) w A0_0 l0_0.length l0_0) (hc0_0:l0_0.length≤c0_0) (h:laws_toQueue.f k l0_0 a0_1 a0_2=some (r1,r2,r3)) :
  Calls Try.prog 139 #[.agg #[.slice A0_0 l0_0.length c0_0,.int .i64 a0_1,.int .i64 a0_2]] w fun e w' => ∃ v0_:Value,e=.returned (.agg #[v0_,.int .i64 r2,.int .i64 r3])∧Kd.R (Kd.int .i64) 3 w' w.heap.size (fun _=>True) v0_ r1∧Below w.heap.size w w':=by
 have hu167:=Try.underlying167
 have hu116:=Try.underlying116
 have HR0_0:=Aside0.mk hr0_0
 have HC0_0:=Aside0.mk hc0_0
 clear hr0_0 hc0_0
 have HB:=Aside0.mk (Below.refl w.heap.size w)
 have H:((laws_toIntS.f k l0_0).bind fun t155=>(some (t155,a0_1,a0_2)))=some (r1,r2,r3):=h
 clear h
 replace H:=Option.bind_eq_some_iff.mp H
 obtain⟨t155,A20,H⟩:=H
 replace H:(some (t155,a0_1,a0_2))=some (r1,r2,r3):=H
 have A2:=Aside0.mk A20
 clear A20
 simp only[Option.some.injEq,Prod.mk.injEq] at H
 obtain⟨rfl,rfl,rfl⟩:=H
 go_enter Try.func139,Try.ntmps139
 go_wp2_with (first|((with_reducible refine gate_dst (N:=1) rfl ?_);refine box_event ?hg (N:=1) ?hd (cs:=#[.slice A0_0 l0_0.length c0_0,.int .i64 a0_1,.int .i64 a0_2]) (t:=167) ?hr ?_;(case hd=>rfl);(case hg=>rfl);(case hr=>first|(go_simp;done)|(go_simp;rfl));intro gb152 hg w3 hbox hb;have n0_:=Aside0.mk (below_step (bB) hb);have n1_:=Aside0.mk (hbox);have n2_:=Aside0.mk ((bG:w.heap.size≤gb152));have n3_:=Aside0.mk ((bG:w.heap.size≤gb152));clear HB;have HB:=n0_;have BK152:=n1_;have GW152:=n2_;have GE152:=n3_;clear n0_ n1_ n2_ n3_;clear hb hbox hg)|((with_reducible refine gate_dst (N:=2) rfl ?_);refine box_event ?hg (N:=2) ?hd (cs:=#[.slice none 0 0,.int .i64 0,.int .i64 0]) (t:=116) ?hr ?_;(case hd=>rfl);(case hg=>rfl);(case hr=>first|(go_simp;done)|(go_simp;rfl));intro gb153 hg w4 hbox hb;have n0_:=Aside0.mk (bM BK152.out hb);have n1_:=Aside0.mk (below_step (bS GE152.out) hb);have n2_:=Aside0.mk (hbox);have n3_:=Aside0.mk ((by rw[hg];exact(below_size (bS GE152.out)):w.heap.size≤gb153));have n4_:=Aside0.mk ((by rw[hg];exact(below_size (bS GE152.out)):w.heap.size≤gb153));have n5_:=Aside0.mk ((bN BK152.out hg:gb152≠gb153));have n6_:=Aside0.mk ((bO BK152.out hg:gb153≠gb152));clear BK152 HB;have BK152:=n0_;have HB:=n1_;have BK153:=n2_;have GW153:=n3_;have GE153:=n4_;have NB152_153:=n5_;have NB153_152:=n6_;clear n0_ n1_ n2_ n3_ n4_ n5_ n6_;clear hb hbox hg)|((with_reducible refine gate_dst (N:=3) rfl ?_);refine box_event ?hg (N:=3) ?hd (cs:=#[.slice none 0 0,.int .i64 0,.int .i64 0]) (t:=116) ?hr ?_;(case hd=>rfl);(case hg=>rfl);(case hr=>first|(go_simp;done)|(go_simp;rfl));intro gb154 hg w5 hbox hb;have n0_:=Aside0.mk (bM BK152.out hb);have n1_:=Aside0.mk (bM BK153.out hb);have n2_:=Aside0.mk (below_step (bS2 GE152.out GE153.out) hb);have n3_:=Aside0.mk (hbox);have n4_:=Aside0.mk ((by rw[hg];exact(below_size (bS2 GE152.out GE153.out)):w.heap.size≤gb154));have n5_:=Aside0.mk ((by rw[hg];exact(below_size (bS2 GE152.out GE153.out)):w.heap.size≤gb154));have n6_:=Aside0.mk ((bN BK152.out hg:gb152≠gb154));have n7_:=Aside0.mk ((bO BK152.out hg:gb154≠gb152));have n8_:=Aside0.mk ((bN BK153.out hg:gb153≠gb154));have n9_:=Aside0.mk ((bO BK153.out hg:gb154≠gb153));clear BK152 BK153 HB;have BK152:=n0_;have BK153:=n1_;have HB:=n2_;have BK154:=n3_;have GW154:=n4_;have GE154:=n5_;have NB152_154:=n6_;have NB154_152:=n7_;have NB153_154:=n8_;have NB154_153:=n9_;clear n0_ n1_ n2_ n3_ n4_ n5_ n6_ n7_ n8_ n9_;clear hb hbox hg;have hnb6:=NB152_153.out;have hnc6:=NB153_152.out;have hnb7:=NB152_154.out;have hnc7:=NB154_152.out;obtain⟨hcz8_0,hcz8_1,hcz8_2⟩:=cC3 BK152.out;obtain⟨hfz8_0,hfz8_1,hfz8_2⟩:=cF3 BK152.out)|((with_reducible refine gate_callee (f:=32) rfl ?_);refine goesA (some 6) rfl rfl Try.func32 #[.slice A0_0 l0_0.length c0_0] rfl ?_;(with_reducible refine(laws_toIntS.calls k _ _ l0_0 t155 _ ?side1 ?side2 A2.out).mono ?_);(case side1=>exact bC HR0_0.out);(case side2=>exact HC0_0.out);rintro e w9 ⟨v156,rfl,ho0,hb⟩;refine⟨_,rfl,?_⟩;have n0_:=Aside0.mk (Kd.R_lower ho0 (below_size (bS3 GE152.out GE153.out GE154.out)));have n1_:=Aside0.mk (bM BK152.out hb);have n2_:=Aside0.mk (bM BK153.out hb);have n3_:=Aside0.mk (bM BK154.out hb);have n4_:=Aside0.mk (below_step (bS3 GE152.out GE153.out GE154.out) hb);clear BK152 BK153 BK154 HB;have HO157:=n0_;have BK152:=n1_;have BK153:=n2_;have BK154:=n3_;have HB:=n4_;clear n0_ n1_ n2_ n3_ n4_;(try clear hb);(try clear hb2);(try clear hk);(try clear hi);(try clear ho0);obtain⟨Ao10,co10,eo10⟩:=Kd.R_slice HO157.out;subst eo10;have hnb11:=NB154_153.out;have hnc11:=NB153_154.out;obtain⟨hcz12_0,hcz12_1,hcz12_2⟩:=cC3 BK154.out;obtain⟨hfz12_0,hfz12_1,hfz12_2⟩:=cF3 BK154.out;obtain⟨hcz13_0,hcz13_1,hcz13_2⟩:=cC3 BK152.out;obtain⟨hfz13_0,hfz13_1,hfz13_2⟩:=cF3 BK152.out;obtain⟨hcz14_0,hcz14_1,hcz14_2⟩:=cC3 BK153.out;obtain⟨hfz14_0,hfz14_1,hfz14_2⟩:=cF3 BK153.out))
 refine bodyPost_ret (results_cell_row rfl _ _ gb153 116 #[.slice Ao10 t155.length co10,.int .i64 a0_1,.int .i64 a0_2] (0,0) _ rfl (by(with_reducible repeat (first|refine blk_drewN ?_ _|refine blk_drew ?_|refine blk_alloc ?_ _));refine blk_put (cs:=#[.slice Ao10 t155.length co10,.int .i64 a0_1,.int .i64 0]) ?_ 2 _ rfl;(with_reducible repeat (first|refine blk_drewN ?_ _|refine blk_drew ?_|refine blk_alloc ?_ _));refine blk_put (cs:=#[.slice Ao10 t155.length co10,.int .i64 0,.int .i64 0]) ?_ 1 _ rfl;(with_reducible repeat (first|refine blk_drewN ?_ _|refine blk_drew ?_|refine blk_alloc ?_ _));refine blk_put (cs:=#[.slice none 0 0,.int .i64 0,.int .i64 0]) ?_ 0 _ rfl;(with_reducible repeat (first|refine blk_drewN ?_ _|refine blk_drew ?_|refine blk_alloc ?_ _));refine blk_far ?_ NB153_154.out _;(with_reducible repeat (first|refine blk_drewN ?_ _|refine blk_drew ?_|refine blk_alloc ?_ _));refine blk_far ?_ NB153_154.out _;(with_reducible repeat (first|refine blk_drewN ?_ _|refine blk_drew ?_|refine blk_alloc ?_ _));refine blk_far ?_ NB153_154.out _;(with_reducible repeat (first|refine blk_drewN ?_ _|refine blk_drew ?_|refine blk_alloc ?_ _));exact BK153.out) Try.underlying116 rfl (by kernel_rfl)) rfl ?_
 exact⟨_,by first|rfl|(simp[errW_none,errW_some]<;>rfl)|(simp[*,errW_none,errW_some]<;>rfl),by(with_reducible repeat (first|apply Kd.R_alloc|apply Kd.R_drewN|apply Kd.R_drew));exact Kd.R_mono (Kd.R_far (p:=⟨gb153,2,none⟩) (Kd.R_far (p:=⟨gb153,1,none⟩) (Kd.R_far (p:=⟨gb153,0,none⟩) (Kd.R_far (p:=⟨gb154,2,none⟩) (Kd.R_far (p:=⟨gb154,1,none⟩) (Kd.R_far (p:=⟨gb154,0,none⟩) (Kd.R_types (Kd.R_types HO157.out BK154.out (by decide)) BK153.out (by decide)) (fun _ hk=>hk.1.2) (.slice Ao10 t155.length co10)) (fun _ hk=>hk.1.2) (.int .i64 a0_1)) (fun _ hk=>hk.1.2) (.int .i64 a0_2)) (fun _ hk=>hk.2) (.slice Ao10 t155.length co10)) (fun _ hk=>hk.2) (.int .i64 a0_1)) (fun _ hk=>hk.2) (.int .i64 a0_2)) (fun _ hk=>trivial),bS3 GE152.out GE153.out GE154.out⟩

/-! ### laws_toQueueS: function 77 -/
def laws_toQueueS.l0:Nat→List (S167)→List (S116)→Int→Option ((List (S116)))
 | 0,_,_,_=>none
 | k+1,x0,x3,x4=>if x4 < (x0.length:Int) then (if 0≤x4 then ((laws_toQueue.f k ((rd_T167 x0 x4).f0) ((rd_T167 x0 x4).f1) ((rd_T167 x0 x4).f2)).bind fun bt162=>(if x4 < (x3.length:Int) then (laws_toQueueS.l0 k x0 (x3.set (x4:Int).toNat (⟨bt162.1,bt162.2.1,bt162.2.2⟩:S116)) (wrap64 (x4+1))) else (none))) else (none)) else (some x3)
def laws_toQueueS.f (k:Nat) (l0:List (S167)):Option ((List (S116))):=if 0≤(l0.length:Int) then (if ((l0.length:Int):Int).toNat≤7036874417766 then (laws_toQueueS.l0 k l0 (List.replicate ((l0.length:Int):Int).toNat z116) 0) else (none)) else (none)
theorem laws_toQueueS.mono_l : ∀ k,(∀ y0 y1 y2,LeO (laws_toQueueS.l0 k y0 y1 y2) (laws_toQueueS.l0 (k+1) y0 y1 y2))
 | 0=>fun _ _ _ r h=>by simp[laws_toQueueS.l0] at h
 | k+1=>by
  have ih0:=laws_toQueueS.mono_l k
  ·intro y0 y1 y2
   unfold laws_toQueueS.l0
   repeat' first
   | (with_reducible exact ih0 _ _ _)
   | (with_reducible exact laws_toQueue.mono _ _ _ _)
   | (with_reducible exact LeO.refl _)
   | (with_reducible exact LeO.none _)
   | (with_reducible refine LeO.ite ?_ ?_)
   | (with_reducible refine LeO.bind ?_ (fun _ => ?_))
   | exact ih0 _ _ _
   | exact laws_toQueue.mono _ _ _ _
   | exact LeO.none _
   | refine LeO.ite ?_ ?_
   | refine LeO.bind ?_ (fun _ => ?_)
theorem laws_toQueueS.mono : ∀ a0 k,LeO (laws_toQueueS.f k a0) (laws_toQueueS.f (k+1) a0):=by
 intro a0 k
 have ih0:=laws_toQueueS.mono_l k
 unfold laws_toQueueS.f
 repeat' first
  | (with_reducible exact ih0 _ _ _)
  | (with_reducible exact laws_toQueue.mono _ _ _ _)
  | (with_reducible exact LeO.refl _)
  | (with_reducible exact LeO.none _)
  | (with_reducible refine LeO.ite ?_ ?_)
  | (with_reducible refine LeO.bind ?_ (fun _ => ?_))
  | exact ih0 _ _ _
  | exact laws_toQueue.mono _ _ _ _
  | exact LeO.none _
  | refine LeO.ite ?_ ?_
  | refine LeO.bind ?_ (fun _ => ?_)
set_option maxHeartbeats 8000000 in
set_option maxRecDepth 100000 in
theorem laws_toQueueS.calls (k:Nat) (A0:Option Addr) (c0:Nat) (l0:List (S167)) (r:List (S116)) (w:World) (hr0:Kd.C k167 w A0 l0.length l0) (hc0:l0.length≤c0) (h:laws_toQueueS.f k l0=some r) :
  Calls Try.prog 77 #[.slice A0 l0.length c0] w fun e w' => ∃ v0_:Value,e=.returned (v0_)∧Kd.S k116 116 w' w.heap.size (fun _=>True) v0_ r∧Below w.heap.size w w':=by
 have hu167:=Try.underlying167
 have hu116:=Try.underlying116
 have HR0:=Aside0.mk hr0
 have HC0:=Aside0.mk hc0
 clear hr0 hc0
 have HB:=Aside0.mk (Below.refl w.heap.size w)
 have H:(if 0≤(l0.length:Int) then (if ((l0.length:Int):Int).toNat≤7036874417766 then (laws_toQueueS.l0 k l0 (List.replicate ((l0.length:Int):Int).toNat z116) 0) else (none)) else (none))=some r:=h
 clear h
 by_cases c2:0≤(l0.length:Int)
 ·rw[if_pos c2] at H
  have c2b0:=eq_true c2
  have c2b1:decide (0≤(l0.length:Int))=true:=decide_eq_true c2
  clear c2
  by_cases c3:((l0.length:Int):Int).toNat≤7036874417766
  ·rw[if_pos c3] at H
   have c3b0:=eq_true c3
   have c3b1:decide (((l0.length:Int):Int).toNat≤7036874417766)=true:=decide_eq_true c3
   clear c3
   obtain⟨y158,hy158⟩ : ∃ y_:List (S116),y_=(List.replicate ((l0.length:Int):Int).toNat z116):=⟨_,rfl⟩
   replace H:(laws_toQueueS.l0 k l0 y158 0)=some r:=by first|(rw[hy158];with_reducible exact H)|(have H2_:=(Option.bind_some _ _).symm.trans H;rw[hy158];with_reducible exact H2_)|(have H2_:=(Option.bind_some _ _).symm.trans H;with_reducible exact H2_)|with_reducible exact H|(rw[hy158];exact H)|exact H
   have Ny158:=Aside0.mk hy158
   clear hy158
   have H':=Aside0.mk H
   clear H
   go_enter Try.func77,Try.ntmps77
   go_wp2_with (first|((with_reducible refine gate_dst (N:=7) rfl ?_);refine Kd.S_make k116 _ 116 rfl (N:=7) rfl 26 _ _ rfl (l0.length:Int) rfl rfl Try.underlying26 (.agg #[(.slice none 0 0),(.int .i64 0),(.int .i64 0)]) 40 info116 rfl (by decide) (by omega) z116 (ok:=fun _=>True) (okp:=fun _=>True) (k116_mkM _ _ _ z116 (Kd.R_nil _ _ _ _ _)) (fun _ hk=>hk) trivial (of_decide_eq_true (bD)) (Nat.le_trans (Nat.mul_le_mul_right _ (of_decide_eq_true (bD):(l0.length:Int).toNat≤7036874417766)) (by omega)) (Below.refl _ _) (Nat.le_refl _) ?_;intro v159 w4 ho5 hb hg_ hnew_;clear hg_ hnew_;(first|rw[← Ny158.out] at ho5|(simp only[Int.reduceToNat] at ho5;rw[← Ny158.out] at ho5));have n0_:=Aside0.mk (Kd.S_lower ho5 (below_size (bB)));have n1_:=Aside0.mk (below_step (bB) hb);clear HB;have HO160:=n0_;have HB:=n1_;clear n0_ n1_;clear hb ho5))
   go_loopg [4] k (fun kq v4 w' => ∃ (x3_1:List (S116)) (x4_1:Int),v4=.int .i64 x4_1∧Aside0 (laws_toQueueS.l0 kq l0 x3_1 x4_1=some r)∧Aside0 (kq≤k)∧Aside0 (Kd.S k116 116 w' w.heap.size (fun _=>True) v159 x3_1)∧Aside0 (Below w.heap.size w w'))
   case atStart=>exact⟨(y158),(0),(bR),H',⟨Nat.le_refl _⟩,⟨by(with_reducible repeat (first|apply Kd.S_alloc|apply Kd.S_drewN|apply Kd.S_drew));exact HO160.out⟩,⟨by repeat (first|(with_reducible first|exact HB.out|apply below_alloc|apply pw_below_drewN|apply below_drew1)|exact HB.out)⟩⟩
   case round =>
    clear H'
    try clear c2
    try clear c2b0
    try clear c2b1
    try clear p2
    try clear c3
    try clear c3b0
    try clear c3b1
    obtain⟨x3_1,x4_1,rfl,HA,HK1,HO_3,HB⟩:=hrel
    cases gk with
    | zero=>exact absurd HA.out (by simp[laws_toQueueS.l0])
    | succ k1 =>
     have H:=HA.out
     clear HA
     simp only[laws_toQueueS.l0] at H
     by_cases c6:x4_1 < (l0.length:Int)
     ·rw[if_pos c6] at H
      have c6b0:decide (x4_1 < (l0.length:Int))=true:=decide_eq_true c6
      clear c6
      by_cases c7:0≤x4_1
      ·rw[if_pos c7] at H
       have c7b0:decide (0≤x4_1)=true:=decide_eq_true c7
       clear c7
       replace H:=Option.bind_eq_some_iff.mp H
       obtain⟨⟨t162,t165,t166⟩,A80,H⟩:=H
       replace H:(if x4_1 < (x3_1.length:Int) then (laws_toQueueS.l0 k1 l0 (x3_1.set (x4_1:Int).toNat (⟨t162,t165,t166⟩:S116)) (wrap64 (x4_1+1))) else (none))=some r:=H
       have A8:=Aside0.mk A80
       clear A80
       by_cases c9:x4_1 < (x3_1.length:Int)
       ·rw[if_pos c9] at H
        have c9b0:decide (x4_1 < (x3_1.length:Int))=true:=decide_eq_true c9
        clear c9
        obtain⟨y167,hy167⟩ : ∃ y_:List (S116),y_=(x3_1.set (x4_1:Int).toNat (⟨t162,t165,t166⟩:S116)):=⟨_,rfl⟩
        replace H:(laws_toQueueS.l0 k1 l0 y167 (wrap64 (x4_1+1)))=some r:=by first|(rw[hy167];with_reducible exact H)|(have H2_:=(Option.bind_some _ _).symm.trans H;rw[hy167];with_reducible exact H2_)|(have H2_:=(Option.bind_some _ _).symm.trans H;with_reducible exact H2_)|with_reducible exact H|(rw[hy167];exact H)|exact H
        have Ny167:=Aside0.mk hy167
        clear hy167
        have H':=Aside0.mk H
        clear H
        have p161:0≤(x4_1:Int):=of_decide_eq_true (bD)
        have q161:x4_1 < (l0.length:Int):=of_decide_eq_true (bD)
        obtain⟨ad161,A161_0,c161_0,e161,hx161_0,hx161_1,hx161_2,hl161_0,hi161_0⟩:=at_T167 HR0.out x4_1 p161 q161
        cases e161
        replace hx161_0:=(HB.out.cell (World.block_lt_of_cell? w _ hx161_0)).trans hx161_0
        replace hx161_1:=(HB.out.cell (World.block_lt_of_cell? w _ hx161_1)).trans hx161_1
        replace hx161_2:=(HB.out.cell (World.block_lt_of_cell? w _ hx161_2)).trans hx161_2
        have HR161_0:=Aside0.mk hi161_0
        have HC161_0:=Aside0.mk hl161_0
        clear hi161_0 hl161_0
        replace p161:=eq_true p161
        replace q161:=eq_true q161
        go_wp2_with (first|((with_reducible refine gate_callee (f:=139) rfl ?_);refine goesA (some 20) rfl rfl Try.func139 #[.agg #[.slice A161_0 ((rd_T167 l0 x4_1).f0).length c161_0,.int .i64 ((rd_T167 l0 x4_1).f1),.int .i64 ((rd_T167 l0 x4_1).f2)]] rfl ?_;(with_reducible refine(laws_toQueue.calls k1 _ _ ((rd_T167 l0 x4_1).f0) ((rd_T167 l0 x4_1).f1) ((rd_T167 l0 x4_1).f2) t162 t165 t166 _ ?side1 ?side2 A8.out).mono ?_);(case side1=>exact bC HR161_0.out);(case side2=>exact HC161_0.out);rintro e w11 ⟨v163,rfl,ho0,hb⟩;refine⟨_,rfl,?_⟩;have n0_:=Aside0.mk (Kd.S_elder' (by(with_reducible repeat (first|apply Kd.S_alloc|apply Kd.S_drewN|apply Kd.S_drew));exact HO_3.out) (Kd.R_base ho0) hb);have n1_:=Aside0.mk (Kd.R_lower ho0 (below_size (bB)));have n2_:=Aside0.mk (below_step (bB) hb);clear HO_3 HB;have HO_3:=n0_;have HO164:=n1_;have HB:=n2_;clear n0_ n1_ n2_;(try clear hb);(try clear hb2);(try clear hk);(try clear hi);(try clear ho0);have p10:0≤(x4_1:Int):=of_decide_eq_true (bD);have q10:(x4_1:Int) < ((x3_1.length:Int):Int):=of_decide_eq_true (bD);obtain⟨go10,co10,eo10,gb10,gl10,cl10,HG10⟩:=Kd.S_form HO_3.out (by omega);(first|cases eo10|(injection eo10 with ea_ en_ ec_;(first|subst ea_|(injection ea_ with ea_;subst ea_));subst ec_;clear en_));have GB10:=Aside0.mk gb10;have GG10:=Aside0.mk HG10;clear gb10 gl10 HG10;obtain⟨_,ce10,hcl10,hM10,hcc10,hfr10,_,_⟩:=Kd.S_elem HO_3.out z116 (x4_1:Int) p10 q10;obtain⟨ve10_0,rfl,ge10_0⟩:=k116_openM hM10;have hx10_0:w11.cell? ⟨go10,(x4_1:Int).toNat * 3,none⟩=some (ve10_0):=hcc10 0 _ rfl;have hx10_1:w11.cell? ⟨go10,(x4_1:Int).toNat * 3+1,none⟩=some (.int .i64 ((rd_T116 x3_1 x4_1).f1)):=hcc10 1 _ rfl;have hx10_2:w11.cell? ⟨go10,(x4_1:Int).toNat * 3+2,none⟩=some (.int .i64 ((rd_T116 x3_1 x4_1).f2)):=hcc10 2 _ rfl;have hf10_0:w11.frozen? ⟨go10,(x4_1:Int).toNat * 3,none⟩=false:=hfr10 0;have hf10_1:w11.frozen? ⟨go10,(x4_1:Int).toNat * 3+1,none⟩=false:=hfr10 1;have hf10_2:w11.frozen? ⟨go10,(x4_1:Int).toNat * 3+2,none⟩=false:=hfr10 2;clear hcl10 hcc10 hfr10 hM10;replace p10:=eq_true p10;replace q10:=eq_true q10;have n_:=Aside0.mk (Kd.S_mono (ok':=(fun k_=>some k_≠(v163:Value).ownBlock)) HO_3.out (fun k_ hk=>hk.2));clear HO_3;have HO_3:=n_;clear n_;have HX12:=Aside0.mk (show Kd.S k116 116 w11 w.heap.size (fun k_=>((fun _=>True)) k_ ∧ ¬ ((fun k_=>some k_=(v163:Value).ownBlock)) k_) (.slice (some ⟨go10,0,none⟩) x3_1.length co10) x3_1 from (by(with_reducible repeat (first|apply Kd.S_alloc|apply Kd.S_drewN|apply Kd.S_drew));exact Kd.S_mono HO_3.out (fun k_ hk=>⟨trivial,fun e_=>hk e_⟩)));obtain⟨oki12,ce12,hcl12,hM12,hcc12,hfr12,hoki12,hH12⟩:=Kd.S_elem HX12.out z116 (x4_1:Int) (of_decide_eq_true (bD)) (by have h_:(x4_1:Int) < ((x3_1.length:Int):Int):=of_decide_eq_true (bD);first|exact h_|(have e_:=(Kd.S_reads' HO_3.out).1;omega)|simpa using h_);obtain⟨ve12_0,rfl,ge12_0⟩:=k116_openM hM12;have HP12:=Kd.S_seg hH12 (of_decide_eq_true (bD)) (by have h_:(x4_1:Int) < ((x3_1.length:Int):Int):=of_decide_eq_true (bD);first|exact h_|(have e_:=(Kd.S_reads' HO_3.out).1;omega)|simpa using h_) (seg:=[v163,.int .i64 t165,.int .i64 t166]) (j:=0) (show 3≤3 from by decide) (x':=(⟨t162,t165,t166⟩:S116)) (k116_mkM _ _ _ (⟨t162,t165,t166⟩:S116) (Kd.R_mono (Kd.R_tight rfl (Kd.R_mono (ok':=fun k_=>((fun _=>True)) k_∧k_≠go10) (Kd.R_apart' (HO164.out) (Kd.S_typed HO_3.out) (by decide)) (fun k_ hk=>⟨trivial,fun e_=>(hk.2) (by rw[e_];rfl)⟩))) (fun _ h_=>Or.inr (h_)))) (fun _ hk=>hk) (fun k_ hk_=>((Kd.R_mono (ok':=fun k_=>((fun _=>True)) k_∧k_≠go10) (Kd.R_apart' (HO164.out) (Kd.S_typed HO_3.out) (by decide)) (fun k_ hk=>⟨trivial,fun e_=>(hk.2) (by rw[e_];rfl)⟩))).1 k_ hk_.symm);have hx12_0:=hcc12 0 _ rfl;(try simp only[show(k116).sz=3 from rfl,Nat.mul_one,Nat.add_zero] at hx12_0);have hf12_0:=hfr12 0;(try simp only[show(k116).sz=3 from rfl,Nat.mul_one,Nat.add_zero] at hf12_0);have hx12_1:=hcc12 1 _ rfl;(try simp only[show(k116).sz=3 from rfl,Nat.mul_one,Nat.add_zero] at hx12_1);have hf12_1:=hfr12 1;(try simp only[show(k116).sz=3 from rfl,Nat.mul_one,Nat.add_zero] at hf12_1);have hx12_2:=hcc12 2 _ rfl;(try simp only[show(k116).sz=3 from rfl,Nat.mul_one,Nat.add_zero] at hx12_2);have hf12_2:=hfr12 2;(try simp only[show(k116).sz=3 from rfl,Nat.mul_one,Nat.add_zero] at hf12_2);clear hcl12 hcc12 hfr12 hM12 hoki12 hH12)|((with_reducible refine gate_store (t:=116) (p:=21) rfl ?_);refine store_event (t:=116) (p:=21) (v:=?vo_w13) (w1:=(((w11.setCell ⟨go10,(x4_1:Int).toNat * 3,none⟩ (v163)).setCell ⟨go10,(x4_1:Int).toNat * 3+1,none⟩ (.int .i64 t165)).setCell ⟨go10,(x4_1:Int).toNat * 3+2,none⟩ (.int .i64 t166))) ?hg ?ho ?hn ?hr ?_;(case ho=>rfl);(case hg=>rfl);(case hn=>rfl);(case hr=>(try (obtain⟨Aq_,cq_,eq_⟩:=Kd.R_slice HO164.out;subst eq_));first|(go_simp;done)|(go_simp;rfl));intro w13 hw;have hg:w11.grownBy w13 (some go10):=(by rw[hw];exact HP12.2);have hp_:Kd.S k116 116 w13 w.heap.size (fun _=>True) (.slice (some ⟨go10,0,none⟩) x3_1.length co10) y167:=(by rw[hw,Ny167.out];exact HP12.1);clear HP12;have n0_:=Aside0.mk (hp_);have n1_:=Aside0.mk ((by rw[hw];exact below_set (below_set (below_set (HB.out) GB10.out) GB10.out) GB10.out:Below w.heap.size w w13));clear HO_3 HB HO164;have HO_3:=n0_;have HB:=n1_;clear n0_ n1_;clear hg hw hp_))
        go_roundg k1
        case measure=>have:=HK1.out;omega
        case rel=>exact⟨(y167),(wrap64 (x4_1+1)),(bR),H',⟨by have:=HK1.out;omega⟩,⟨by(with_reducible repeat (first|apply Kd.S_alloc|apply Kd.S_drewN|apply Kd.S_drew));exact HO_3.out⟩,⟨by repeat (first|(with_reducible first|exact HB.out|apply below_alloc|apply pw_below_drewN|apply below_drew1)|exact HB.out)⟩⟩
       ·rw[if_neg c9] at H
        exact absurd H (by simp)
      ·rw[if_neg c7] at H
       exact absurd H (by simp)
     ·rw[if_neg c6] at H
      have c6b0:decide (x4_1 < (l0.length:Int))=false:=decide_eq_false c6
      clear c6
      obtain rfl:=Option.some.inj H
      go_wp2
      go_ret
      exact⟨_,by first|rfl|(simp[errW_none,errW_some]<;>rfl)|(simp[*,errW_none,errW_some]<;>rfl),by(with_reducible repeat (first|apply Kd.S_alloc|apply Kd.S_drewN|apply Kd.S_drew));exact HO_3.out,bB⟩
  ·rw[if_neg c3] at H
   exact absurd H (by simp)
 ·rw[if_neg c2] at H
  exact absurd H (by simp)

/-! ### laws_toTurns: function 17 -/
def laws_toTurns.f (k:Nat) (a0_0:Int) (l0_1:List (S167)) (a0_2:Int):Option (Int × (List (S116)) × Int):=(laws_toQueueS.f k l0_1).bind fun t171=>(some (a0_0,t171,a0_2))
theorem laws_toTurns.mono : ∀ a0 a1 a2 k,LeO (laws_toTurns.f k a0 a1 a2) (laws_toTurns.f (k+1) a0 a1 a2):=by
 intro a0 a1 a2 k
 unfold laws_toTurns.f
 repeat' first
  | (with_reducible exact laws_toQueueS.mono _ _)
  | (with_reducible exact LeO.refl _)
  | (with_reducible exact LeO.none _)
  | (with_reducible refine LeO.ite ?_ ?_)
  | (with_reducible refine LeO.bind ?_ (fun _ => ?_))
  | exact laws_toQueueS.mono _ _
  | exact LeO.none _
  | refine LeO.ite ?_ ?_
  | refine LeO.bind ?_ (fun _ => ?_)
set_option maxHeartbeats 8000000 in
set_option maxRecDepth 100000 in
theorem laws_toTurns.calls (k:Nat) (a0_0:Int) (A0_1:Option Addr) (c0_1:Nat) (l0_1:List (S167)) (a0_2:Int) (r1:Int) (r2:List (S116)) (r3:Int) (w:World) (hr0_1:Kd.C k167 w A0_1 l0_1.length l0_1) (hc0_1:l0_1.length≤c0_1) (h:laws_toTurns.f k a0_0 l0_1 a0_2=some (r1,r2,r3)) :
  Calls Try.prog 17 #[.agg #[.int .i64 a0_0,.slice A0_1 l0_1.length c0_1,.int .i64 a0_2]] w fun e w' => ∃ v1_:Value,e=.returned (.agg #[.int .i64 r1,v1_,.int .i64 r3])∧Kd.S k116 116 w' w.heap.size (fun _=>True) v1_ r2∧Below w.heap.size w w':=by
 have hu24:=Try.underlying24
 have hu28:=Try.underlying28
 have HR0_1:=Aside0.mk hr0_1
 have HC0_1:=Aside0.mk hc0_1
 clear hr0_1 hc0_1
 have HB:=Aside0.mk (Below.refl w.heap.size w)
 have H:((laws_toQueueS.f k l0_1).bind fun t171=>(some (a0_0,t171,a0_2)))=some (r1,r2,r3):=h
 clear h
 replace H:=Option.bind_eq_some_iff.mp H
 obtain⟨t171,A20,H⟩:=H
 replace H:(some (a0_0,t171,a0_2))=some (r1,r2,r3):=H
 have A2:=Aside0.mk A20
 clear A20
 simp only[Option.some.injEq,Prod.mk.injEq] at H
 obtain⟨rfl,rfl,rfl⟩:=H
 go_enter Try.func17,Try.ntmps17
 go_wp2_with (first|((with_reducible refine gate_dst (N:=1) rfl ?_);refine box_event ?hg (N:=1) ?hd (cs:=#[.int .i64 a0_0,.slice A0_1 l0_1.length c0_1,.int .i64 a0_2]) (t:=24) ?hr ?_;(case hd=>rfl);(case hg=>rfl);(case hr=>first|(go_simp;done)|(go_simp;rfl));intro gb168 hg w3 hbox hb;have n0_:=Aside0.mk (below_step (bB) hb);have n1_:=Aside0.mk (hbox);have n2_:=Aside0.mk ((bG:w.heap.size≤gb168));have n3_:=Aside0.mk ((bG:w.heap.size≤gb168));clear HB;have HB:=n0_;have BK168:=n1_;have GW168:=n2_;have GE168:=n3_;clear n0_ n1_ n2_ n3_;clear hb hbox hg)|((with_reducible refine gate_dst (N:=2) rfl ?_);refine box_event ?hg (N:=2) ?hd (cs:=#[.int .i64 0,.slice none 0 0,.int .i64 0]) (t:=28) ?hr ?_;(case hd=>rfl);(case hg=>rfl);(case hr=>first|(go_simp;done)|(go_simp;rfl));intro gb169 hg w4 hbox hb;have n0_:=Aside0.mk (bM BK168.out hb);have n1_:=Aside0.mk (below_step (bS GE168.out) hb);have n2_:=Aside0.mk (hbox);have n3_:=Aside0.mk ((by rw[hg];exact(below_size (bS GE168.out)):w.heap.size≤gb169));have n4_:=Aside0.mk ((by rw[hg];exact(below_size (bS GE168.out)):w.heap.size≤gb169));have n5_:=Aside0.mk ((bN BK168.out hg:gb168≠gb169));have n6_:=Aside0.mk ((bO BK168.out hg:gb169≠gb168));clear BK168 HB;have BK168:=n0_;have HB:=n1_;have BK169:=n2_;have GW169:=n3_;have GE169:=n4_;have NB168_169:=n5_;have NB169_168:=n6_;clear n0_ n1_ n2_ n3_ n4_ n5_ n6_;clear hb hbox hg)|((with_reducible refine gate_dst (N:=3) rfl ?_);refine box_event ?hg (N:=3) ?hd (cs:=#[.int .i64 0,.slice none 0 0,.int .i64 0]) (t:=28) ?hr ?_;(case hd=>rfl);(case hg=>rfl);(case hr=>first|(go_simp;done)|(go_simp;rfl));intro gb170 hg w5 hbox hb;have n0_:=Aside0.mk (bM BK168.out hb);have n1_:=Aside0.mk (bM BK169.out hb);have n2_:=Aside0.mk (below_step (bS2 GE168.out GE169.out) hb);have n3_:=Aside0.mk (hbox);have n4_:=Aside0.mk ((by rw[hg];exact(below_size (bS2 GE168.out GE169.out)):w.heap.size≤gb170));have n5_:=Aside0.mk ((by rw[hg];exact(below_size (bS2 GE168.out GE169.out)):w.heap.size≤gb170));have n6_:=Aside0.mk ((bN BK168.out hg:gb168≠gb170));have n7_:=Aside0.mk ((bO BK168.out hg:gb170≠gb168));have n8_:=Aside0.mk ((bN BK169.out hg:gb169≠gb170));have n9_:=Aside0.mk ((bO BK169.out hg:gb170≠gb169));clear BK168 BK169 HB;have BK168:=n0_;have BK169:=n1_;have HB:=n2_;have BK170:=n3_;have GW170:=n4_;have GE170:=n5_;have NB168_170:=n6_;have NB170_168:=n7_;have NB169_170:=n8_;have NB170_169:=n9_;clear n0_ n1_ n2_ n3_ n4_ n5_ n6_ n7_ n8_ n9_;clear hb hbox hg;have hnb6:=NB168_169.out;have hnc6:=NB169_168.out;have hnb7:=NB168_170.out;have hnc7:=NB170_168.out;obtain⟨hcz8_0,hcz8_1,hcz8_2⟩:=cC3 BK168.out;obtain⟨hfz8_0,hfz8_1,hfz8_2⟩:=cF3 BK168.out;have hnb9:=NB170_169.out;have hnc9:=NB169_170.out;obtain⟨hcz10_0,hcz10_1,hcz10_2⟩:=cC3 BK170.out;obtain⟨hfz10_0,hfz10_1,hfz10_2⟩:=cF3 BK170.out)|((with_reducible refine gate_callee (f:=77) rfl ?_);refine goesA (some 9) rfl rfl Try.func77 #[.slice A0_1 l0_1.length c0_1] rfl ?_;(with_reducible refine(laws_toQueueS.calls k _ _ l0_1 t171 _ ?side1 ?side2 A2.out).mono ?_);(case side1=>exact Kd.C_below HR0_1.out (bS3 GE168.out GE169.out GE170.out));(case side2=>exact HC0_1.out);rintro e w11 ⟨v172,rfl,ho0,hb⟩;refine⟨_,rfl,?_⟩;have n0_:=Aside0.mk (Kd.S_lower ho0 (below_size (bS3 GE168.out GE169.out GE170.out)));have n1_:=Aside0.mk (blk_below (g:=gb168) (o:=.cells #[.int .i64 a0_0,.slice A0_1 l0_1.length c0_1,.int .i64 a0_2] 24 (0,0)) (by(with_reducible repeat (first|refine blk_drewN ?_ _|refine blk_drew ?_|refine blk_alloc ?_ _));refine blk_far ?_ NB168_170.out _;(with_reducible repeat (first|refine blk_drewN ?_ _|refine blk_drew ?_|refine blk_alloc ?_ _));exact BK168.out) hb);have n2_:=Aside0.mk (blk_below (g:=gb169) (o:=.cells #[.int .i64 0,.slice none 0 0,.int .i64 0] 28 (0,0)) (by(with_reducible repeat (first|refine blk_drewN ?_ _|refine blk_drew ?_|refine blk_alloc ?_ _));refine blk_far ?_ NB169_170.out _;(with_reducible repeat (first|refine blk_drewN ?_ _|refine blk_drew ?_|refine blk_alloc ?_ _));exact BK169.out) hb);have n3_:=Aside0.mk (blk_below (g:=gb170) (o:=.cells #[.int .i64 a0_0,.slice none 0 0,.int .i64 0] 28 (0,0)) (by(with_reducible repeat (first|refine blk_drewN ?_ _|refine blk_drew ?_|refine blk_alloc ?_ _));refine blk_put (cs:=#[.int .i64 0,.slice none 0 0,.int .i64 0]) ?_ 0 _ rfl;(with_reducible repeat (first|refine blk_drewN ?_ _|refine blk_drew ?_|refine blk_alloc ?_ _));exact BK170.out) hb);have n4_:=Aside0.mk (below_step (bS3 GE168.out GE169.out GE170.out) hb);clear BK168 BK169 BK170 HB;have HO173:=n0_;have BK168:=n1_;have BK169:=n2_;have BK170:=n3_;have HB:=n4_;clear n0_ n1_ n2_ n3_ n4_;(try clear hb);(try clear hb2);(try clear hk);(try clear hi);(try clear ho0);obtain⟨Ao12,co12,eo12⟩:=Kd.S_slice HO173.out;subst eo12;obtain⟨hcz13_0,hcz13_1,hcz13_2⟩:=cC3 BK170.out;obtain⟨hfz13_0,hfz13_1,hfz13_2⟩:=cF3 BK170.out;obtain⟨hcz14_0,hcz14_1,hcz14_2⟩:=cC3 BK168.out;obtain⟨hfz14_0,hfz14_1,hfz14_2⟩:=cF3 BK168.out;obtain⟨hcz15_0,hcz15_1,hcz15_2⟩:=cC3 BK169.out;obtain⟨hfz15_0,hfz15_1,hfz15_2⟩:=cF3 BK169.out))
 refine bodyPost_ret (results_cell_row rfl _ _ gb169 28 #[.int .i64 a0_0,.slice Ao12 t171.length co12,.int .i64 a0_2] (0,0) _ rfl (by(with_reducible repeat (first|refine blk_drewN ?_ _|refine blk_drew ?_|refine blk_alloc ?_ _));refine blk_put (cs:=#[.int .i64 a0_0,.slice Ao12 t171.length co12,.int .i64 0]) ?_ 2 _ rfl;(with_reducible repeat (first|refine blk_drewN ?_ _|refine blk_drew ?_|refine blk_alloc ?_ _));refine blk_put (cs:=#[.int .i64 a0_0,.slice none 0 0,.int .i64 0]) ?_ 1 _ rfl;(with_reducible repeat (first|refine blk_drewN ?_ _|refine blk_drew ?_|refine blk_alloc ?_ _));refine blk_put (cs:=#[.int .i64 0,.slice none 0 0,.int .i64 0]) ?_ 0 _ rfl;(with_reducible repeat (first|refine blk_drewN ?_ _|refine blk_drew ?_|refine blk_alloc ?_ _));refine blk_far ?_ NB169_170.out _;(with_reducible repeat (first|refine blk_drewN ?_ _|refine blk_drew ?_|refine blk_alloc ?_ _));refine blk_far ?_ NB169_170.out _;(with_reducible repeat (first|refine blk_drewN ?_ _|refine blk_drew ?_|refine blk_alloc ?_ _));exact BK169.out) Try.underlying28 rfl (by kernel_rfl)) rfl ?_
 exact⟨_,by first|rfl|(simp[errW_none,errW_some]<;>rfl)|(simp[*,errW_none,errW_some]<;>rfl),by(with_reducible repeat (first|apply Kd.S_alloc|apply Kd.S_drewN|apply Kd.S_drew));exact Kd.S_mono (Kd.S_far (p:=⟨gb169,2,none⟩) (Kd.S_far (p:=⟨gb169,1,none⟩) (Kd.S_far (p:=⟨gb169,0,none⟩) (Kd.S_far (p:=⟨gb170,2,none⟩) (Kd.S_far (p:=⟨gb170,1,none⟩) (Kd.S_types (Kd.S_types HO173.out BK170.out (by decide)) BK169.out (by decide)) (fun _ hk=>hk.1.2) (.slice Ao12 t171.length co12)) (fun _ hk=>hk.1.2) (.int .i64 a0_2)) (fun _ hk=>hk.2) (.int .i64 a0_0)) (fun _ hk=>hk.2) (.slice Ao12 t171.length co12)) (fun _ hk=>hk.2) (.int .i64 a0_2)) (fun _ hk=>trivial),bS3 GE168.out GE169.out GE170.out⟩

/-! ### impl_within: function 79 -/
def impl_within.f (a0:Int) (a1:Int) (a2:Int):Option (Bool):=if a1≤a0 then (some (decide (a0≤a2))) else (some false)
set_option maxHeartbeats 8000000 in
set_option maxRecDepth 100000 in
theorem impl_within.calls (a0:Int) (a1:Int) (a2:Int) (r:Bool) (w:World) (h:impl_within.f a0 a1 a2=some r) :
  Calls Try.prog 79 #[.int .i64 a0,.int .i64 a1,.int .i64 a2] w fun e w'=>e=.returned (.bool r)∧Drawn0 w w':=by
 have H:(if a1≤a0 then (some (decide (a0≤a2))) else (some false))=some r:=h
 clear h
 by_cases c4:a1≤a0
 ·rw[if_pos c4] at H
  have c4b0:decide (a1≤a0)=true:=decide_eq_true c4
  clear c4
  obtain rfl:=Option.some.inj H
  go_enter Try.func79,Try.ntmps79
  go_wp2
  go_ret
  exact⟨bR,bW⟩
 ·rw[if_neg c4] at H
  have c4b0:decide (a1≤a0)=false:=decide_eq_false c4
  clear c4
  obtain rfl:=Option.some.inj H
  go_enter Try.func79,Try.ntmps79
  go_wp2
  go_ret
  exact⟨bR,bW⟩

-- NOT PRINTED: function 148 (slices_IndexFunc_int_int)

-- NOT PRINTED: function 113 (slices_ContainsFunc_int_int)

/-! ### impl_isTime: function 140 -/
def impl_isTime.f (a0:Int):Option (Bool):=(impl_within.f a0 0 1000000).bind fun t174=>(some t174)
set_option maxHeartbeats 8000000 in
set_option maxRecDepth 100000 in
theorem impl_isTime.calls (a0:Int) (r:Bool) (w:World) (h:impl_isTime.f a0=some r) :
  Calls Try.prog 140 #[.int .i64 a0] w fun e w'=>e=.returned (.bool r)∧Drawn0 w w':=by
 have H:((impl_within.f a0 0 1000000).bind fun t174=>(some t174))=some r:=h
 clear h
 replace H:=Option.bind_eq_some_iff.mp H
 obtain⟨t174,A20,H⟩:=H
 replace H:(some t174)=some r:=H
 have A2:=Aside0.mk A20
 clear A20
 obtain rfl:=Option.some.inj H
 go_enter Try.func140,Try.ntmps140
 go_wp2_with (first|((with_reducible refine gate_callee (f:=79) rfl ?_);refine goesA (some 4) rfl rfl Try.func79 #[.int .i64 a0,.int .i64 0,.int .i64 1000000] rfl ?_;(with_reducible refine(impl_within.calls a0 0 1000000 t174 _ A2.out).mono ?_);rintro e w' ⟨rfl,⟨nd,rfl⟩⟩;refine⟨_,rfl,?_⟩))
 go_ret
 exact⟨bR,bW⟩

/-! ### impl_GoodTurns_lit1: function 141 -/
def impl_GoodTurns_lit1.f (a0:Int):Option (Bool):=(impl_within.f a0 1 50).bind fun t182=>(some (!t182))
set_option maxHeartbeats 8000000 in
set_option maxRecDepth 100000 in
theorem impl_GoodTurns_lit1.calls (a0:Int) (r:Bool) (w:World) (h:impl_GoodTurns_lit1.f a0=some r) :
  Calls Try.prog 141 #[.int .i64 a0] w fun e w'=>e=.returned (.bool r)∧Drawn0 w w':=by
 have H:((impl_within.f a0 1 50).bind fun t182=>(some (!t182)))=some r:=h
 clear h
 replace H:=Option.bind_eq_some_iff.mp H
 obtain⟨t182,A20,H⟩:=H
 replace H:(some (!t182))=some r:=H
 have A2:=Aside0.mk A20
 clear A20
 obtain rfl:=Option.some.inj H
 go_enter Try.func141,Try.ntmps141
 go_wp2_with (first|((with_reducible refine gate_callee (f:=79) rfl ?_);refine goesA (some 4) rfl rfl Try.func79 #[.int .i64 a0,.int .i64 1,.int .i64 50] rfl ?_;(with_reducible refine(impl_within.calls a0 1 50 t182 _ A2.out).mono ?_);rintro e w' ⟨rfl,⟨nd,rfl⟩⟩;refine⟨_,rfl,?_⟩))
 go_ret
 exact⟨bR,bW⟩

end Go.Proofs.Yteneeohaoplpbaa.XFnExactPutLong
