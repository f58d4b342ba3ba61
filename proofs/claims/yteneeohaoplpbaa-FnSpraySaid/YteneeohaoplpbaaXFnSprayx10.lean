-- Written by this session's own program (wip/xprint.py) out of the translation; Lean checks it.
import Derived.Test.YteneeohaoplpbaaXFnSprayx0
import Derived.Test.YteneeohaoplpbaaXFnSprayx1
import Derived.Test.YteneeohaoplpbaaXFnSprayx2
import Derived.Test.YteneeohaoplpbaaXFnSprayx3
import Derived.Test.YteneeohaoplpbaaXFnSprayx4
import Derived.Test.YteneeohaoplpbaaXFnSprayx6
import Derived.Test.YteneeohaoplpbaaXFnSprayx7
import Derived.Test.YteneeohaoplpbaaXFnSprayx8
import Derived.Test.YteneeohaoplpbaaXFnSprayx9
namespace Go.Proofs.Yteneeohaoplpbaa.XFnSpray
open Go.RowKit Go.Proofs.YteneeohaoplpbaaW.PrintWords Go.Proofs.YteneeohaoplpbaaW.PrintLast Go.Proofs.YteneeohaoplpbaaW.PrintMore
open Go.Proofs.YteneeohaoplpbaaW.PrintWords.Aside0 renaming mk → am
open List renaming setIfInBounds_toArray → zA, set_cons_zero → zB, set_cons_succ → zC
attribute [local go_sem] max2_int min2_int max_two min_two max_three min_three max_four min_four   -- for this text's walks alone
set_option linter.unusedVariables false
set_option linter.unusedSimpArgs false

/-! ### laws_FnSpray: function 6 -/
mutual
def laws_FnSpray.j0:Nat→List Int→Int→Int→Int→Int→Bool→Bool→List Int→Int→Bool→Option (Bool)
 | 0,_,_,_,_,_,_,_,_,_,_=>none
 | k+1,x1,x6,x7,x8,x11,x12,x81,x469000,x469001,x469002=>if x81=true then (some false) else (if x12=true then ((impl_TokensIn.f k x469000 x469001 x469002).bind fun bt478=>((impl_CarriersIn.f k x469000 x469001 x469002).bind fun bt480=>(if bt478.2=true then (if bt478.1=x8 then (if bt480.2=true then (if (bt480.1.length:Int) > x8 then (some false) else ((laws_has.f k bt480.1 x7).bind fun t484=>(if t484=true then (some false) else ((laws_has.f k bt480.1 x6).bind fun t485=>(if t485=true then (if (x469002 != (decide (x11 > 0)))=true then (some false) else ((impl_GoodSpray.f k x469000 x469001 x469002).bind fun t486=>(if t486=true then (laws_FnSpray.j1 k x1) else (some false)))) else (some false)))))) else (some false)) else (some false)) else (some false)))) else (laws_FnSpray.j1 k x1))
def laws_FnSpray.j1:Nat→List Int→Option (Bool)
 | 0,_=>none
 | k+1,x1=>(spec_DrawMeetBoth.f k x1).bind fun bt487=>((impl_MeetBoth.f k bt487.1 bt487.2.1 bt487.2.2.1 bt487.2.2.2.1 bt487.2.2.2.2).bind fun bt496=>((spec_MeetBoth.f k bt487.1 bt487.2.1 bt487.2.2.1 bt487.2.2.2.1 bt487.2.2.2.2).bind fun bt503=>(if (bt496.2.2.2 != bt503.2.2.2)=true then (laws_FnSpray.j2 k bt496.2.2.2 true bt487.1 bt487.2.1 bt487.2.2.1 bt496.1 bt496.2.1 bt496.2.2.1) else ((laws_sameSprays.f k bt496.1 bt496.2.1 bt496.2.2.1 bt503.1 bt503.2.1 bt503.2.2.1).bind fun t510=>(if t510=true then ((impl_GoodSpray.f k bt487.1 bt487.2.1 bt487.2.2.1).bind fun t511=>((spec_GoodSpray.f k bt487.1 bt487.2.1 bt487.2.2.1).bind fun t512=>(laws_FnSpray.j2 k bt496.2.2.2 (t511 != t512) bt487.1 bt487.2.1 bt487.2.2.1 bt496.1 bt496.2.1 bt496.2.2.1))) else (laws_FnSpray.j2 k bt496.2.2.2 true bt487.1 bt487.2.1 bt487.2.2.1 bt496.1 bt496.2.1 bt496.2.2.1))))))
def laws_FnSpray.j2:Nat→Bool→Bool→List Int→Int→Bool→List Int→Int→Bool→Option (Bool)
 | 0,_,_,_,_,_,_,_,_=>none
 | k+1,x23,x165,x495000,x495001,x495002,x503000,x503001,x503002=>if x165=true then (some false) else (if x23=true then ((impl_TokensIn.f k x495000 x495001 x495002).bind fun bt513=>((impl_TokensIn.f k x503000 x503001 x503002).bind fun bt515=>((impl_CarriersIn.f k x495000 x495001 x495002).bind fun bt517=>((impl_CarriersIn.f k x503000 x503001 x503002).bind fun bt521=>(if bt513.2=true then (if bt515.2=true then (if bt513.1=bt515.1 then (if bt517.2=true then (if bt521.2=true then (if (bt521.1.length:Int) < (bt517.1.length:Int) then (some false) else (if x495002=true then (if x503002=true then (some true) else (some false)) else (some true))) else (some false)) else (some false)) else (some false)) else (some false)) else (some false)))))) else (some true))
end
def laws_FnSpray.f (k:Nat) (l0:List Int) (l1:List Int):Option (Bool):=if (wrap64 ((l0.length:Int)+(l1.length:Int))) > 1048576 then (some true) else ((spec_DrawPlaySpray.f k l0).bind fun bt454=>((impl_PlaySpray.f k bt454.1 bt454.2.1 bt454.2.2.1 bt454.2.2.2.1 bt454.2.2.2.2).bind fun bt461=>((spec_PlaySpray.f k bt454.1 bt454.2.1 bt454.2.2.1 bt454.2.2.2.1 bt454.2.2.2.2).bind fun bt469=>(if (bt461.2.2.2.2 != bt469.2.2.2.2)=true then (laws_FnSpray.j0 k l1 bt454.2.1 bt454.2.2.1 bt454.2.2.2.1 bt461.2.2.2.1 bt461.2.2.2.2 true bt461.1 bt461.2.1 bt461.2.2.1) else (if bt461.2.2.2.1=bt469.2.2.2.1 then ((laws_sameSprays.f k bt461.1 bt461.2.1 bt461.2.2.1 bt469.1 bt469.2.1 bt469.2.2.1).bind fun t477=>(laws_FnSpray.j0 k l1 bt454.2.1 bt454.2.2.1 bt454.2.2.2.1 bt461.2.2.2.1 bt461.2.2.2.2 (!t477) bt461.1 bt461.2.1 bt461.2.2.1)) else (laws_FnSpray.j0 k l1 bt454.2.1 bt454.2.2.1 bt454.2.2.2.1 bt461.2.2.2.1 bt461.2.2.2.2 true bt461.1 bt461.2.1 bt461.2.2.1))))))
theorem laws_FnSpray.mono_l : ∀ k,(∀ y0 y1 y2 y3 y4 y5 y6 y7 y8 y9,LeO (laws_FnSpray.j0 k y0 y1 y2 y3 y4 y5 y6 y7 y8 y9) (laws_FnSpray.j0 (k+1) y0 y1 y2 y3 y4 y5 y6 y7 y8 y9))∧(∀ y0,LeO (laws_FnSpray.j1 k y0) (laws_FnSpray.j1 (k+1) y0))∧(∀ y0 y1 y2 y3 y4 y5 y6 y7,LeO (laws_FnSpray.j2 k y0 y1 y2 y3 y4 y5 y6 y7) (laws_FnSpray.j2 (k+1) y0 y1 y2 y3 y4 y5 y6 y7))
 | 0=>⟨fun _ _ _ _ _ _ _ _ _ _ r h=>by simp[laws_FnSpray.j0] at h,fun _ r h=>by simp[laws_FnSpray.j1] at h,fun _ _ _ _ _ _ _ _ r h=>by simp[laws_FnSpray.j2] at h⟩
 | k+1=>by
  obtain⟨ih0,ih1,ih2⟩:=laws_FnSpray.mono_l k
  refine⟨?_,?_,?_⟩
  ·intro y0 y1 y2 y3 y4 y5 y6 y7 y8 y9
   unfold laws_FnSpray.j0
   repeat' first
   | (with_reducible exact ih0 _ _ _ _ _ _ _ _ _ _)
   | (with_reducible exact ih1 _)
   | (with_reducible exact ih2 _ _ _ _ _ _ _ _)
   | (with_reducible exact impl_CarriersIn.mono _ _ _ _)
   | (with_reducible exact impl_GoodSpray.mono _ _ _ _)
   | (with_reducible exact impl_MeetBoth.mono _ _ _ _ _ _)
   | (with_reducible exact impl_PlaySpray.mono _ _ _ _ _ _)
   | (with_reducible exact impl_TokensIn.mono _ _ _ _)
   | (with_reducible exact laws_has.mono _ _ _)
   | (with_reducible exact laws_sameSprays.mono _ _ _ _ _ _ _)
   | (with_reducible exact spec_DrawMeetBoth.mono _ _)
   | (with_reducible exact spec_DrawPlaySpray.mono _ _)
   | (with_reducible exact spec_GoodSpray.mono _ _ _ _)
   | (with_reducible exact spec_MeetBoth.mono _ _ _ _ _ _)
   | (with_reducible exact spec_PlaySpray.mono _ _ _ _ _ _)
   | (with_reducible exact LeO.refl _)
   | (with_reducible exact LeO.none _)
   | (with_reducible refine LeO.ite ?_ ?_)
   | (with_reducible refine LeO.bind ?_ (fun _ => ?_))
  ·intro y0
   unfold laws_FnSpray.j1
   repeat' first
   | (with_reducible exact ih0 _ _ _ _ _ _ _ _ _ _)
   | (with_reducible exact ih1 _)
   | (with_reducible exact ih2 _ _ _ _ _ _ _ _)
   | (with_reducible exact impl_CarriersIn.mono _ _ _ _)
   | (with_reducible exact impl_GoodSpray.mono _ _ _ _)
   | (with_reducible exact impl_MeetBoth.mono _ _ _ _ _ _)
   | (with_reducible exact impl_PlaySpray.mono _ _ _ _ _ _)
   | (with_reducible exact impl_TokensIn.mono _ _ _ _)
   | (with_reducible exact laws_has.mono _ _ _)
   | (with_reducible exact laws_sameSprays.mono _ _ _ _ _ _ _)
   | (with_reducible exact spec_DrawMeetBoth.mono _ _)
   | (with_reducible exact spec_DrawPlaySpray.mono _ _)
   | (with_reducible exact spec_GoodSpray.mono _ _ _ _)
   | (with_reducible exact spec_MeetBoth.mono _ _ _ _ _ _)
   | (with_reducible exact spec_PlaySpray.mono _ _ _ _ _ _)
   | (with_reducible exact LeO.refl _)
   | (with_reducible exact LeO.none _)
   | (with_reducible refine LeO.ite ?_ ?_)
   | (with_reducible refine LeO.bind ?_ (fun _ => ?_))
  ·intro y0 y1 y2 y3 y4 y5 y6 y7
   unfold laws_FnSpray.j2
   repeat' first
   | (with_reducible exact ih0 _ _ _ _ _ _ _ _ _ _)
   | (with_reducible exact ih1 _)
   | (with_reducible exact ih2 _ _ _ _ _ _ _ _)
   | (with_reducible exact impl_CarriersIn.mono _ _ _ _)
   | (with_reducible exact impl_GoodSpray.mono _ _ _ _)
   | (with_reducible exact impl_MeetBoth.mono _ _ _ _ _ _)
   | (with_reducible exact impl_PlaySpray.mono _ _ _ _ _ _)
   | (with_reducible exact impl_TokensIn.mono _ _ _ _)
   | (with_reducible exact laws_has.mono _ _ _)
   | (with_reducible exact laws_sameSprays.mono _ _ _ _ _ _ _)
   | (with_reducible exact spec_DrawMeetBoth.mono _ _)
   | (with_reducible exact spec_DrawPlaySpray.mono _ _)
   | (with_reducible exact spec_GoodSpray.mono _ _ _ _)
   | (with_reducible exact spec_MeetBoth.mono _ _ _ _ _ _)
   | (with_reducible exact spec_PlaySpray.mono _ _ _ _ _ _)
   | (with_reducible exact LeO.refl _)
   | (with_reducible exact LeO.none _)
   | (with_reducible refine LeO.ite ?_ ?_)
   | (with_reducible refine LeO.bind ?_ (fun _ => ?_))
theorem laws_FnSpray.mono : ∀ a0 a1 k,LeO (laws_FnSpray.f k a0 a1) (laws_FnSpray.f (k+1) a0 a1):=by
 intro a0 a1 k
 obtain⟨ih0,ih1,ih2⟩:=laws_FnSpray.mono_l k
 unfold laws_FnSpray.f
 repeat' first
  | (with_reducible exact ih0 _ _ _ _ _ _ _ _ _ _)
  | (with_reducible exact ih1 _)
  | (with_reducible exact ih2 _ _ _ _ _ _ _ _)
  | (with_reducible exact impl_CarriersIn.mono _ _ _ _)
  | (with_reducible exact impl_GoodSpray.mono _ _ _ _)
  | (with_reducible exact impl_MeetBoth.mono _ _ _ _ _ _)
  | (with_reducible exact impl_PlaySpray.mono _ _ _ _ _ _)
  | (with_reducible exact impl_TokensIn.mono _ _ _ _)
  | (with_reducible exact laws_has.mono _ _ _)
  | (with_reducible exact laws_sameSprays.mono _ _ _ _ _ _ _)
  | (with_reducible exact spec_DrawMeetBoth.mono _ _)
  | (with_reducible exact spec_DrawPlaySpray.mono _ _)
  | (with_reducible exact spec_GoodSpray.mono _ _ _ _)
  | (with_reducible exact spec_MeetBoth.mono _ _ _ _ _ _)
  | (with_reducible exact spec_PlaySpray.mono _ _ _ _ _ _)
  | (with_reducible exact LeO.refl _)
  | (with_reducible exact LeO.none _)
  | (with_reducible refine LeO.ite ?_ ?_)
  | (with_reducible refine LeO.bind ?_ (fun _ => ?_))
def laws_FnSpray.T16:Bool × List (List Nat × List Nat):=(true,[([],[]),([],[]),([0,1],[0,1]),([2],[2]),([3],[3]),([3],[3]),([4,5,3,3],[3,4,5]),([6,3],[3,6]),([3,7],[3,7]),([8,6],[8]),([9],[9]),([10,9,9],[9,10]),([9],[9]),([12,11,9],[9,12]),([11,13,9],[9,11,13]),([9,14],[9,14])])
def laws_FnSpray.B16:List Nat:=[0,0,3,7,15,15,63,127,255,511,1023,2047,1023,8191,16383,32767]
theorem laws_FnSpray.tab16:rtab .any (opsOf Try.f6 16)=laws_FnSpray.T16:=by kernel_rfl
theorem laws_FnSpray.bits16:waitsOk laws_FnSpray.T16.2 laws_FnSpray.B16=true:=by kernel_rfl
set_option maxHeartbeats 8000000 in
set_option maxRecDepth 100000 in
theorem laws_FnSpray.calls (k:Nat) (A0:Option Addr) (c0:Nat) (l0:List Int) (A1:Option Addr) (c1:Nat) (l1:List Int) (r:Bool) (w:World) (hr0:Kd.C (Kd.int .u8) w A0 l0.length l0) (hc0:l0.length≤c0) (hr1:Kd.C (Kd.int .u8) w A1 l1.length l1) (hc1:l1.length≤c1) (h:laws_FnSpray.f k l0 l1=some r) :
  Calls Try.prog 6 #[.slice A0 l0.length c0,.slice A1 l1.length c1] w fun e w'=>e=.returned (.bool r)∧Below w.heap.size w w':=by
 have hu62:=Try.underlying62
 have hu72:=Try.underlying72
 have HR0:=am hr0
 have HC0:=am hc0
 clear hr0 hc0
 have HR1:=am hr1
 have HC1:=am hc1
 clear hr1 hc1
 have HB:=am (Below.refl w.heap.size w)
 have H:(if (wrap64 ((l0.length:Int)+(l1.length:Int))) > 1048576 then (some true) else ((spec_DrawPlaySpray.f k l0).bind fun bt454=>((impl_PlaySpray.f k bt454.1 bt454.2.1 bt454.2.2.1 bt454.2.2.2.1 bt454.2.2.2.2).bind fun bt461=>((spec_PlaySpray.f k bt454.1 bt454.2.1 bt454.2.2.1 bt454.2.2.2.1 bt454.2.2.2.2).bind fun bt469=>(if (bt461.2.2.2.2 != bt469.2.2.2.2)=true then (laws_FnSpray.j0 k l1 bt454.2.1 bt454.2.2.1 bt454.2.2.2.1 bt461.2.2.2.1 bt461.2.2.2.2 true bt461.1 bt461.2.1 bt461.2.2.1) else (if bt461.2.2.2.1=bt469.2.2.2.1 then ((laws_sameSprays.f k bt461.1 bt461.2.1 bt461.2.2.1 bt469.1 bt469.2.1 bt469.2.2.1).bind fun t477=>(laws_FnSpray.j0 k l1 bt454.2.1 bt454.2.2.1 bt454.2.2.2.1 bt461.2.2.2.1 bt461.2.2.2.2 (!t477) bt461.1 bt461.2.1 bt461.2.2.1)) else (laws_FnSpray.j0 k l1 bt454.2.1 bt454.2.2.1 bt454.2.2.2.1 bt461.2.2.2.1 bt461.2.2.2.2 true bt461.1 bt461.2.1 bt461.2.2.1)))))))=some r:=h
 clear h
 by_cases c3:(wrap64 ((l0.length:Int)+(l1.length:Int))) > 1048576
 ·rw[if_pos c3] at H
  have c3b0:decide (1048576 < (wrap64 ((l0.length:Int)+(l1.length:Int))))=true:=decide_eq_true c3
  clear c3
  obtain rfl:=Option.some.inj H
  go_enter Try.func6,Try.ntmps6
  go_wp2
  go_ret
  exact⟨bE,bB⟩
 ·rw[if_neg c3] at H
  have c3b0:decide (1048576 < (wrap64 ((l0.length:Int)+(l1.length:Int))))=false:=decide_eq_false c3
  clear c3
  replace H:=bI_ H
  obtain⟨⟨t454,t455,t456,t457,t458⟩,A40,H⟩:=H
  have A4:=am A40
  clear A40
  replace H:=bI_ H
  obtain⟨⟨t461,t464,t465,t466,t467⟩,A50,H⟩:=H
  have A5:=am A50
  clear A50
  replace H:=bI_ H
  obtain⟨⟨t469,t472,t473,t474,t475⟩,A60,H⟩:=H
  have A6:=am A60
  clear A60
  have HC7:=am H
  clear H
  go_enter Try.func6,Try.ntmps6
  go_upto_region 6 with (first|((with_reducible refine gate_callee (f:=37) rfl ?_);refine goesA (some 42) rfl rfl Try.func37 #[.slice A0 l0.length c0] rfl ?_;(with_reducible refine(spec_DrawPlaySpray.calls k _ _ l0 t454 t455 t456 t457 t458 _ ?side1 ?side2 A4.out).mono ?_);(case side1=>repeat (first|exact HR0.out|(with_reducible refine Kd.C_alloc ?_ _)|(with_reducible refine Kd.C_drewN ?_ _)|(with_reducible refine Kd.C_drew ?_)));(case side2=>exact HC0.out);rintro e w8 ⟨v459,rfl,ho0,hb⟩;refine⟨_,rfl,?_⟩;have n0_:=am (Kd.R_lower ho0 (below_size (bB)));have n1_:=am (below_step (bB) hb);clear HB;have HO460:=n0_;have HB:=n1_;clear n0_ n1_;(try clear hb);(try clear hb2);(try clear hk);(try clear hi);(try clear ho0);obtain⟨Ao9,co9,eo9⟩:=Kd.R_slice HO460.out;subst eo9)|((with_reducible refine gate_callee (f:=38) rfl ?_);refine goesA (some 54) rfl rfl Try.func38 #[.int .i64 t454,.int .i64 t455,.int .i64 t456,.int .i64 t457,.slice Ao9 t458.length co9] rfl ?_;(with_reducible refine(impl_PlaySpray.calls k t454 t455 t456 t457 _ _ t458 t461 t464 t465 t466 t467 _ ?side1 ?side2 A5.out).mono ?_);(case side1=>exact bT HO460.out);(case side2=>exact(Kd.R_reads' HO460.out).2.1);rintro e w10 ⟨v462,rfl,ho0,hb⟩;refine⟨_,rfl,?_⟩;have n0_:=am (Kd.R_below (bK HO460.out) hb);have n1_:=am (Kd.R_lower ho0 (below_size (bB)));have n2_:=am (below_step (bB) hb);clear HO460 HB;have HO460:=n0_;have HO463:=n1_;have HB:=n2_;clear n0_ n1_ n2_;(try clear hb);(try clear hb2);(try clear hk);(try clear hi);(try clear ho0))|((with_reducible refine gate_dst (N:=10) rfl ?_);(try (refine gate_guard (by rfl) ?_;dsimp only));refine box_event ?hg (N:=10) ?hd (cs:=#[.slice none 0 0,.int .i64 0,.bool false]) (t:=62) ?hr ?_;(case hd=>rfl);(case hg=>rfl);(case hr=>first|(go_simp;done)|(go_simp;rfl));intro gb468 hg w11 hbox hb;have n0_:=am (Kd.R_below (bK HO460.out) hb);have n1_:=am (Kd.R_below (bK HO463.out) hb);have n2_:=am (below_step (bB) hb);have n3_:=am (hbox);have n4_:=am ((bG:w.heap.size≤gb468));have n5_:=am ((bG:w.heap.size≤gb468));clear HO460 HO463 HB;have HO460:=n0_;have HO463:=n1_;have HB:=n2_;have BK468:=n3_;have GW468:=n4_;have GE468:=n5_;clear n0_ n1_ n2_ n3_ n4_ n5_;clear hb hbox hg;obtain⟨Ao12,co12,eo12⟩:=Kd.R_slice HO463.out;subst eo12;obtain⟨hcz13_0,hcz13_1,hcz13_2⟩:=cC3 BK468.out;obtain⟨hfz13_0,hfz13_1,hfz13_2⟩:=cF3 BK468.out)|((with_reducible refine gate_callee (f:=39) rfl ?_);refine goesA (some 64) rfl rfl Try.func39 #[.int .i64 t454,.int .i64 t455,.int .i64 t456,.int .i64 t457,.slice Ao9 t458.length co9] rfl ?_;(with_reducible refine(spec_PlaySpray.calls k t454 t455 t456 t457 _ _ t458 t469 t472 t473 t474 t475 _ ?side1 ?side2 A6.out).mono ?_);(case side1=>refine(Kd.R_reads' (e:=72) (base:=w.heap.size) (ok:=fun k_=>True) (n:=t458.length) (c:=co9) ?_).2.2;exact(b38_));(case side2=>exact(Kd.R_reads' HO460.out).2.1);rintro e w14 ⟨v470,rfl,ho0,hb⟩;refine⟨_,rfl,?_⟩;have n0_:=am (Kd.R_below (b38_) hb);have n1_:=am (Kd.R_elder' (b39_) (Kd.R_base ho0) hb);have n2_:=am (Kd.R_lower (Kd.R_new' ho0 (Kd.R_lt (b39_))) (below_size (bS GE468.out)));have n3_:=am (blk_below (g:=gb468) (o:=.cells #[.slice Ao12 t461.length co12,.int .i64 t464,.bool t465] 62 (0,0)) (by(with_reducible repeat (first|refine blk_drewN ?_ _|refine blk_drew ?_|refine blk_alloc ?_ _));apply bU3;(with_reducible repeat (first|refine blk_drewN ?_ _|refine blk_drew ?_|refine blk_alloc ?_ _));exact BK468.out) hb);have n4_:=am (below_step (bS GE468.out) hb);clear HO460 HO463 BK468 HB;have HO460:=n0_;have HO463:=n1_;have HO471:=n2_;have BK468:=n3_;have HB:=n4_;clear n0_ n1_ n2_ n3_ n4_;(try clear hb);(try clear hb2);(try clear hk);(try clear hi);(try clear ho0))|((with_reducible refine gate_dst (N:=13) rfl ?_);(try (refine gate_guard (by rfl) ?_;dsimp only));refine box_event ?hg (N:=13) ?hd (cs:=#[.slice none 0 0,.int .i64 0,.bool false]) (t:=62) ?hr ?_;(case hd=>rfl);(case hg=>rfl);(case hr=>first|(go_simp;done)|(go_simp;rfl));intro gb476 hg w15 hbox hb;have n0_:=am (Kd.R_below (bK HO460.out) hb);have n1_:=am (Kd.R_below (bK HO463.out) hb);have n2_:=am (Kd.R_below (bK HO471.out) hb);have n3_:=am (bM BK468.out hb);have n4_:=am (below_step (bS GE468.out) hb);have n5_:=am (hbox);have n6_:=am ((by rw[hg];exact(below_size (bS GE468.out)):w.heap.size≤gb476));have n7_:=am ((by rw[hg];exact(below_size (bS GE468.out)):w.heap.size≤gb476));have n8_:=am ((bN BK468.out hg:gb468≠gb476));have n9_:=am ((bO BK468.out hg:gb476≠gb468));clear HO460 HO463 HO471 BK468 HB;have HO460:=n0_;have HO463:=n1_;have HO471:=n2_;have BK468:=n3_;have HB:=n4_;have BK476:=n5_;have GW476:=n6_;have GE476:=n7_;have NB468_476:=n8_;have NB476_468:=n9_;clear n0_ n1_ n2_ n3_ n4_ n5_ n6_ n7_ n8_ n9_;clear hb hbox hg;obtain⟨Ao16,co16,eo16⟩:=Kd.R_slice HO471.out;subst eo16;have hnb17:=NB476_468.out;have hnc17:=NB468_476.out;obtain⟨hcz18_0,hcz18_1,hcz18_2⟩:=cC3 BK476.out;obtain⟨hfz18_0,hfz18_1,hfz18_2⟩:=cF3 BK476.out))
  (try simp only[Act.put,zA,zB,zC])
  go_cut [81] (fun v81 wc => ∃ (kq:Nat) (x81_6:Bool),v81=.bool x81_6∧Aside0 (laws_FnSpray.j0 kq l1 t455 t456 t457 t466 t467 x81_6 t461 t464 t465=some r)∧Aside0 (kq≤k)∧Aside0 (Kd.R (Kd.int .i64) 3 wc w.heap.size (fun k_=>some k_≠((.slice Ao16 t469.length co16):Value).ownBlock) (.slice Ao12 t461.length co12) t461)∧Aside0 (Kd.R (Kd.int .i64) 3 wc w.heap.size (fun k_=>some k_≠((.slice Ao12 t461.length co12):Value).ownBlock) (.slice Ao16 t469.length co16) t469)∧Aside0 (wc.heap[gb468]?=some (.cells #[(.slice Ao12 t461.length co12),.int .i64 t464,.bool t465] 62 (0,0)))∧Aside0 (wc.heap[gb476]?=some (.cells #[(.slice Ao16 t469.length co16),.int .i64 t472,.bool t473] 62 (0,0)))∧Aside0 (Below w.heap.size w wc))
  case first => as_aux_lemma =>
   have H:=HC7.out
   clear HC7
   by_cases c19:(t467 != t475)=true
   ·rw[if_pos c19] at H
    have c19b0:(t467 != t475)=true:=c19
    (try (have c19b1:decide (t467=t475)=false:=by simpa using c19))
    (try (have c19b2:(t467 == t475)=false:=by simpa using c19))
    (try (have c19b3 : ¬ (t467=t475):=by simpa using c19))
    clear c19
    (first|rw[c19b0]|(simp only[i64_w,i32_w];rw[c19b0])|skip)
    have H':=am H
    clear H
    go_wp2
    go_meet
    case rel=>exact⟨_,(true),(bR),H',⟨by first|omega|exact Nat.le_refl _⟩,⟨by(with_reducible repeat (first|apply Kd.R_alloc|apply Kd.R_drewN|apply Kd.R_drew));exact Kd.R_mono (Kd.R_far (p:=⟨gb476,2,none⟩) (Kd.R_far (p:=⟨gb476,1,none⟩) (Kd.R_far (p:=⟨gb476,0,none⟩) (Kd.R_types HO463.out BK476.out (b17_)) (fun _ hk=>hk.2) (.slice Ao16 t469.length co16)) (fun _ hk=>hk.2) (.int .i64 t472)) (fun _ hk=>hk.2) (.bool t473)) (fun _ hk=>hk.1.2)⟩,⟨by(with_reducible repeat (first|apply Kd.R_alloc|apply Kd.R_drewN|apply Kd.R_drew));exact Kd.R_mono (Kd.R_far (p:=⟨gb476,2,none⟩) (Kd.R_far (p:=⟨gb476,1,none⟩) (Kd.R_far (p:=⟨gb476,0,none⟩) (Kd.R_types HO471.out BK476.out (b17_)) (fun _ hk=>hk.2) (.slice Ao16 t469.length co16)) (fun _ hk=>hk.2) (.int .i64 t472)) (fun _ hk=>hk.2) (.bool t473)) (fun _ hk=>hk.1.2)⟩,⟨by(with_reducible repeat (first|refine blk_drewN ?_ _|refine blk_drew ?_|refine blk_alloc ?_ _));refine blk_far ?_ NB468_476.out _;(with_reducible repeat (first|refine blk_drewN ?_ _|refine blk_drew ?_|refine blk_alloc ?_ _));refine blk_far ?_ NB468_476.out _;(with_reducible repeat (first|refine blk_drewN ?_ _|refine blk_drew ?_|refine blk_alloc ?_ _));refine blk_far ?_ NB468_476.out _;(with_reducible repeat (first|refine blk_drewN ?_ _|refine blk_drew ?_|refine blk_alloc ?_ _));exact BK468.out⟩,⟨by(with_reducible repeat (first|refine blk_drewN ?_ _|refine blk_drew ?_|refine blk_alloc ?_ _));apply bU3;(with_reducible repeat (first|refine blk_drewN ?_ _|refine blk_drew ?_|refine blk_alloc ?_ _));exact BK476.out⟩,⟨bS2 GE468.out GE476.out⟩⟩
   ·rw[if_neg c19] at H
    have c19b0:(t467 != t475)=false:=by simpa using c19
    (try (have c19b1:decide (t467=t475)=true:=by simpa using c19))
    (try (have c19b2:(t467 == t475)=true:=by simpa using c19))
    clear c19
    (first|rw[c19b0]|(simp only[i64_w,i32_w];rw[c19b0])|skip)
    by_cases c20:t466=t474
    ·rw[if_pos c20] at H
     have c20b0:(t466 == t474)=true:=beq_iff_eq.mpr c20
     have c20b1:(t466 != t474)=false:=bne_eq_false_iff_eq.mpr c20
     clear c20
     replace H:=bI_ H
     obtain⟨t477,A210,H⟩:=H
     have A21:=am A210
     clear A210
     have H':=am H
     clear H
     have hnb22:=NB468_476.out
     have hnc22:=NB476_468.out
     obtain⟨hcz23_0,hcz23_1,hcz23_2⟩:=cC3 BK468.out
     obtain⟨hfz23_0,hfz23_1,hfz23_2⟩:=cF3 BK468.out
     obtain⟨hcz24_0,hcz24_1,hcz24_2⟩:=cC3 BK476.out
     obtain⟨hfz24_0,hfz24_1,hfz24_2⟩:=cF3 BK476.out
     go_wp2_with (first|(go_at_call 40;(with_reducible refine(laws_sameSprays.calls k _ _ t461 t464 t465 _ _ t469 t472 t473 t477 _ ?side1 ?side2 ?side3 ?side4 A21.out).mono ?_);(case side1=>refine(Kd.R_reads' (e:=3) (base:=w.heap.size) (ok:=fun k_=>(True∧some k_≠(.slice Ao16 t469.length co16:Value).ownBlock)) (n:=t461.length) (c:=co12) ?_).2.2;exact(b40_));(case side2=>exact(Kd.R_reads' HO463.out).2.1);(case side3=>refine(Kd.R_reads' (e:=3) (base:=w.heap.size) (ok:=fun k_=>(True∧some k_≠(.slice Ao12 t461.length co12:Value).ownBlock)) (n:=t469.length) (c:=co16) ?_).2.2;exact(b41_));(case side4=>exact(Kd.R_reads' HO471.out).2.1);rintro e w25 ⟨rfl,hb⟩;have n0_:=am (Kd.R_below (by(with_reducible repeat (first|apply Kd.R_alloc|apply Kd.R_drewN|apply Kd.R_drew));exact(Kd.R_mono (Kd.R_far (p:=⟨gb476,2,none⟩) (Kd.R_far (p:=⟨gb476,1,none⟩) (Kd.R_far (p:=⟨gb476,0,none⟩) (Kd.R_types HO460.out BK476.out (b17_)) (fun _ hk=>hk.2) (.slice Ao16 t469.length co16)) (fun _ hk=>hk.2) (.int .i64 t472)) (fun _ hk=>hk.2) (.bool t473)) (fun _ h_=>h_.1))) hb);have n1_:=am (Kd.R_below (b40_) hb);have n2_:=am (Kd.R_below (b41_) hb);have n3_:=am (blk_below (g:=gb468) (o:=.cells #[.slice Ao12 t461.length co12,.int .i64 t464,.bool t465] 62 (0,0)) (by(with_reducible repeat (first|refine blk_drewN ?_ _|refine blk_drew ?_|refine blk_alloc ?_ _));refine blk_far ?_ NB468_476.out _;(with_reducible repeat (first|refine blk_drewN ?_ _|refine blk_drew ?_|refine blk_alloc ?_ _));refine blk_far ?_ NB468_476.out _;(with_reducible repeat (first|refine blk_drewN ?_ _|refine blk_drew ?_|refine blk_alloc ?_ _));refine blk_far ?_ NB468_476.out _;(with_reducible repeat (first|refine blk_drewN ?_ _|refine blk_drew ?_|refine blk_alloc ?_ _));exact BK468.out) hb);have n4_:=am (blk_below (g:=gb476) (o:=.cells #[.slice Ao16 t469.length co16,.int .i64 t472,.bool t473] 62 (0,0)) (by(with_reducible repeat (first|refine blk_drewN ?_ _|refine blk_drew ?_|refine blk_alloc ?_ _));apply bU3;(with_reducible repeat (first|refine blk_drewN ?_ _|refine blk_drew ?_|refine blk_alloc ?_ _));exact BK476.out) hb);have n5_:=am (below_step (bS2 GE468.out GE476.out) hb);clear HO460 HO463 HO471 BK468 BK476 HB;have HO460:=n0_;have HO463:=n1_;have HO471:=n2_;have BK468:=n3_;have BK476:=n4_;have HB:=n5_;clear n0_ n1_ n2_ n3_ n4_ n5_;(try clear hb);(try clear hb2);(try clear hk);(try clear hi)))
     go_meet
     case rel=>exact⟨_,(!t477),(bR),H',⟨by first|omega|exact Nat.le_refl _⟩,⟨by(with_reducible repeat (first|apply Kd.R_alloc|apply Kd.R_drewN|apply Kd.R_drew));exact Kd.R_mono HO463.out (fun _ hk=>hk.2)⟩,⟨by(with_reducible repeat (first|apply Kd.R_alloc|apply Kd.R_drewN|apply Kd.R_drew));exact Kd.R_mono HO471.out (fun _ hk=>hk.2)⟩,⟨by(with_reducible repeat (first|refine blk_drewN ?_ _|refine blk_drew ?_|refine blk_alloc ?_ _));exact BK468.out⟩,⟨by(with_reducible repeat (first|refine blk_drewN ?_ _|refine blk_drew ?_|refine blk_alloc ?_ _));exact BK476.out⟩,⟨bS2 GE468.out GE476.out⟩⟩
    ·rw[if_neg c20] at H
     have c20b0:(t466 == t474)=false:=beq_eq_false_iff_ne.mpr c20
     have c20b1:(t466 != t474)=true:=bne_iff_ne.mpr c20
     have H':=am H
     clear H
     go_wp2
     go_meet
     case rel=>exact⟨_,(true),(bR),H',⟨by first|omega|exact Nat.le_refl _⟩,⟨by(with_reducible repeat (first|apply Kd.R_alloc|apply Kd.R_drewN|apply Kd.R_drew));exact Kd.R_mono (Kd.R_far (p:=⟨gb476,2,none⟩) (Kd.R_far (p:=⟨gb476,1,none⟩) (Kd.R_far (p:=⟨gb476,0,none⟩) (Kd.R_types HO463.out BK476.out (b17_)) (fun _ hk=>hk.2) (.slice Ao16 t469.length co16)) (fun _ hk=>hk.2) (.int .i64 t472)) (fun _ hk=>hk.2) (.bool t473)) (fun _ hk=>hk.1.2)⟩,⟨by(with_reducible repeat (first|apply Kd.R_alloc|apply Kd.R_drewN|apply Kd.R_drew));exact Kd.R_mono (Kd.R_far (p:=⟨gb476,2,none⟩) (Kd.R_far (p:=⟨gb476,1,none⟩) (Kd.R_far (p:=⟨gb476,0,none⟩) (Kd.R_types HO471.out BK476.out (b17_)) (fun _ hk=>hk.2) (.slice Ao16 t469.length co16)) (fun _ hk=>hk.2) (.int .i64 t472)) (fun _ hk=>hk.2) (.bool t473)) (fun _ hk=>hk.1.2)⟩,⟨by(with_reducible repeat (first|refine blk_drewN ?_ _|refine blk_drew ?_|refine blk_alloc ?_ _));refine blk_far ?_ NB468_476.out _;(with_reducible repeat (first|refine blk_drewN ?_ _|refine blk_drew ?_|refine blk_alloc ?_ _));refine blk_far ?_ NB468_476.out _;(with_reducible repeat (first|refine blk_drewN ?_ _|refine blk_drew ?_|refine blk_alloc ?_ _));refine blk_far ?_ NB468_476.out _;(with_reducible repeat (first|refine blk_drewN ?_ _|refine blk_drew ?_|refine blk_alloc ?_ _));exact BK468.out⟩,⟨by(with_reducible repeat (first|refine blk_drewN ?_ _|refine blk_drew ?_|refine blk_alloc ?_ _));apply bU3;(with_reducible repeat (first|refine blk_drewN ?_ _|refine blk_drew ?_|refine blk_alloc ?_ _));exact BK476.out⟩,⟨bS2 GE468.out GE476.out⟩⟩
  case rest =>
   clear HC7
   try clear c1
   try clear c2
   try clear p2
   try clear c3
   try clear c3b0
   try clear c6
   try clear p6
   try clear c17
   try clear c19
   try clear c19b0
   try clear c19b1
   try clear c19b2
   try clear c20
   try clear c20b0
   try clear c20b1
   try clear c22
   try clear hcz13_0 hcz13_1 hcz13_2
   try clear hcz18_0 hcz18_1 hcz18_2
   try clear hcz23_0 hcz23_1 hcz23_2
   try clear hcz24_0 hcz24_1 hcz24_2
   try clear hfz13_0 hfz13_1 hfz13_2
   try clear hfz18_0 hfz18_1 hfz18_2
   try clear hfz23_0 hfz23_1 hfz23_2
   try clear hfz24_0 hfz24_1 hfz24_2
   obtain⟨kq,x81_6,rfl,HA,HJ6,HO_469000,HO_477000,BK468,BK476,HB⟩:=hcut
   cases kq with
   | zero=>exact absurd HA.out (by simp[laws_FnSpray.j0])
   | succ kj6 =>
    have H:=HA.out
    clear HA
    simp only[laws_FnSpray.j0] at H
    by_cases c26:x81_6=true
    ·subst c26
     have H1:(some false)=some r:=by rw[if_pos rfl] at H;exact H
     clear H
     have H:=H1
     clear H1
     obtain rfl:=Option.some.inj H
     go_wp2
     go_ret
     exact⟨bE,bS2 GE468.out GE476.out⟩
    ·replace c26:=Bool.eq_false_iff.mpr c26
     subst c26
     have H1:(if t467=true then ((impl_TokensIn.f kj6 t461 t464 t465).bind fun bt478=>((impl_CarriersIn.f kj6 t461 t464 t465).bind fun bt480=>(if bt478.2=true then (if bt478.1=t457 then (if bt480.2=true then (if (bt480.1.length:Int) > t457 then (some false) else ((laws_has.f kj6 bt480.1 t456).bind fun t484=>(if t484=true then (some false) else ((laws_has.f kj6 bt480.1 t455).bind fun t485=>(if t485=true then (if (t465 != (decide (t466 > 0)))=true then (some false) else ((impl_GoodSpray.f kj6 t461 t464 t465).bind fun t486=>(if t486=true then (laws_FnSpray.j1 kj6 l1) else (some false)))) else (some false)))))) else (some false)) else (some false)) else (some false)))) else (laws_FnSpray.j1 kj6 l1))=some r:=by rw[if_neg (show ¬ (false=true) by decide)] at H;exact H
     clear H
     have H:=H1
     clear H1
     have HC27:=am H
     clear H
     go_upto_if 82 with (fail)
     go_cut [] (fun wc => ∃ (kq:Nat),Aside0 (laws_FnSpray.j1 kq l1=some r)∧Aside0 (kq≤kj6)∧Aside0 (Kd.R (Kd.int .i64) 3 wc w.heap.size (fun k_=>some k_≠((.slice Ao16 t469.length co16):Value).ownBlock) (.slice Ao12 t461.length co12) t461)∧Aside0 (Kd.R (Kd.int .i64) 3 wc w.heap.size (fun k_=>some k_≠((.slice Ao12 t461.length co12):Value).ownBlock) (.slice Ao16 t469.length co16) t469)∧Aside0 (wc.heap[gb468]?=some (.cells #[(.slice Ao12 t461.length co12),.int .i64 t464,.bool t465] 62 (0,0)))∧Aside0 (wc.heap[gb476]?=some (.cells #[(.slice Ao16 t469.length co16),.int .i64 t472,.bool t473] 62 (0,0)))∧Aside0 (Below w.heap.size w wc))
     case first => as_aux_lemma =>
      have H:=HC27.out
      clear HC27
      by_cases c28:t467=true
      ·subst c28
       have H1:((impl_TokensIn.f kj6 t461 t464 t465).bind fun bt478=>((impl_CarriersIn.f kj6 t461 t464 t465).bind fun bt480=>(if bt478.2=true then (if bt478.1=t457 then (if bt480.2=true then (if (bt480.1.length:Int) > t457 then (some false) else ((laws_has.f kj6 bt480.1 t456).bind fun t484=>(if t484=true then (some false) else ((laws_has.f kj6 bt480.1 t455).bind fun t485=>(if t485=true then (if (t465 != (decide (t466 > 0)))=true then (some false) else ((impl_GoodSpray.f kj6 t461 t464 t465).bind fun t486=>(if t486=true then (laws_FnSpray.j1 kj6 l1) else (some false)))) else (some false)))))) else (some false)) else (some false)) else (some false))))=some r:=by rw[if_pos rfl] at H;exact H
       clear H
       have H:=H1
       clear H1
       replace H:=bI_ H
       obtain⟨⟨t478,t479⟩,A290,H⟩:=H
       have A29:=am A290
       clear A290
       replace H:=bI_ H
       obtain⟨⟨t480,t483⟩,A300,H⟩:=H
       have A30:=am A300
       clear A300
       by_cases c31:t479=true
       ·subst c31
        have H1:(if t478=t457 then (if t483=true then (if (t480.length:Int) > t457 then (some false) else ((laws_has.f kj6 t480 t456).bind fun t484=>(if t484=true then (some false) else ((laws_has.f kj6 t480 t455).bind fun t485=>(if t485=true then (if (t465 != (decide (t466 > 0)))=true then (some false) else ((impl_GoodSpray.f kj6 t461 t464 t465).bind fun t486=>(if t486=true then (laws_FnSpray.j1 kj6 l1) else (some false)))) else (some false)))))) else (some false)) else (some false))=some r:=by rw[if_pos rfl] at H;exact H
        clear H
        have H:=H1
        clear H1
        by_cases c32:t478=t457
        ·rw[if_pos c32] at H
         have c32b0:(t478 == t457)=true:=beq_iff_eq.mpr c32
         have c32b1:(t478 != t457)=false:=bne_eq_false_iff_eq.mpr c32
         clear c32
         (first|rw[c32b0]|(simp only[i64_w,i32_w];rw[c32b0])|skip)
         by_cases c33:t483=true
         ·subst c33
          have H1:(if (t480.length:Int) > t457 then (some false) else ((laws_has.f kj6 t480 t456).bind fun t484=>(if t484=true then (some false) else ((laws_has.f kj6 t480 t455).bind fun t485=>(if t485=true then (if (t465 != (decide (t466 > 0)))=true then (some false) else ((impl_GoodSpray.f kj6 t461 t464 t465).bind fun t486=>(if t486=true then (laws_FnSpray.j1 kj6 l1) else (some false)))) else (some false))))))=some r:=by rw[if_pos rfl] at H;exact H
          clear H
          have H:=H1
          clear H1
          by_cases c34:(t480.length:Int) > t457
          ·rw[if_pos c34] at H
           have c34b0:decide (t457 < (t480.length:Int))=true:=decide_eq_true c34
           clear c34
           obtain rfl:=Option.some.inj H
           have hnb35:=NB468_476.out
           have hnc35:=NB476_468.out
           obtain⟨hcz36_0,hcz36_1,hcz36_2⟩:=cC3 BK468.out
           obtain⟨hfz36_0,hfz36_1,hfz36_2⟩:=cF3 BK468.out
           go_wp2_with (first|((with_reducible refine gate_callee (f:=41) rfl ?_);refine goesA (some 85) rfl rfl Try.func41 #[.agg #[.slice Ao12 t461.length co12,.int .i64 t464,.bool t465]] rfl ?_;(with_reducible refine(impl_TokensIn.calls kj6 _ _ t461 t464 t465 t478 true _ ?side1 ?side2 A29.out).mono ?_);(case side1=>exact bT HO_469000.out);(case side2=>exact(Kd.R_reads' HO_469000.out).2.1);rintro e w37 ⟨rfl,hb⟩;refine⟨_,rfl,?_⟩;have n0_:=am (Kd.R_below (bK HO_469000.out) hb);have n1_:=am (Kd.R_below (bK HO_477000.out) hb);have n2_:=am (bM BK468.out hb);have n3_:=am (bM BK476.out hb);have n4_:=am (below_step (bS2 GE468.out GE476.out) hb);clear HO_469000 HO_477000 BK468 BK476 HB;have HO_469000:=n0_;have HO_477000:=n1_;have BK468:=n2_;have BK476:=n3_;have HB:=n4_;clear n0_ n1_ n2_ n3_ n4_;(try clear hb);(try clear hb2);(try clear hk);(try clear hi);obtain⟨hcz38_0,hcz38_1,hcz38_2⟩:=cC3 BK468.out;obtain⟨hfz38_0,hfz38_1,hfz38_2⟩:=cF3 BK468.out)|((with_reducible refine gate_callee (f:=42) rfl ?_);refine goesA (some 90) rfl rfl Try.func42 #[.agg #[.slice Ao12 t461.length co12,.int .i64 t464,.bool t465]] rfl ?_;(with_reducible refine(impl_CarriersIn.calls kj6 _ _ t461 t464 t465 t480 true _ ?side1 ?side2 A30.out).mono ?_);(case side1=>exact bT HO_469000.out);(case side2=>exact(Kd.R_reads' HO_469000.out).2.1);rintro e w39 ⟨v481,rfl,ho0,hb⟩;refine⟨_,rfl,?_⟩;have n0_:=am (Kd.R_elder' (bK HO_469000.out) (Kd.R_base ho0) hb);have n1_:=am (Kd.R_elder' (bK HO_477000.out) (Kd.R_base ho0) hb);have n2_:=am (Kd.R_lower (Kd.R_new' (Kd.R_new' ho0 (Kd.R_lt (bK HO_469000.out))) (Kd.R_lt (bK HO_477000.out))) (below_size (bS2 GE468.out GE476.out)));have n3_:=am (bM BK468.out hb);have n4_:=am (bM BK476.out hb);have n5_:=am (below_step (bS2 GE468.out GE476.out) hb);clear HO_469000 HO_477000 BK468 BK476 HB;have HO_469000:=n0_;have HO_477000:=n1_;have HO482:=n2_;have BK468:=n3_;have BK476:=n4_;have HB:=n5_;clear n0_ n1_ n2_ n3_ n4_ n5_;(try clear hb);(try clear hb2);(try clear hk);(try clear hi);(try clear ho0);obtain⟨Ao40,co40,eo40⟩:=Kd.R_slice HO482.out;subst eo40))
           go_ret
           exact⟨bE,bS2 GE468.out GE476.out⟩
          ·rw[if_neg c34] at H
           have c34b0:decide (t457 < (t480.length:Int))=false:=decide_eq_false c34
           clear c34
           replace H:=bI_ H
           obtain⟨t484,A410,H⟩:=H
           have A41:=am A410
           clear A410
           by_cases c42:t484=true
           ·subst c42
            have H1:(some false)=some r:=by rw[if_pos rfl] at H;exact H
            clear H
            have H:=H1
            clear H1
            obtain rfl:=Option.some.inj H
            have hnb43:=NB468_476.out
            have hnc43:=NB476_468.out
            obtain⟨hcz44_0,hcz44_1,hcz44_2⟩:=cC3 BK468.out
            obtain⟨hfz44_0,hfz44_1,hfz44_2⟩:=cF3 BK468.out
            go_wp2_with (first|((with_reducible refine gate_callee (f:=41) rfl ?_);refine goesA (some 85) rfl rfl Try.func41 #[.agg #[.slice Ao12 t461.length co12,.int .i64 t464,.bool t465]] rfl ?_;(with_reducible refine(impl_TokensIn.calls kj6 _ _ t461 t464 t465 t478 true _ ?side1 ?side2 A29.out).mono ?_);(case side1=>exact bT HO_469000.out);(case side2=>exact(Kd.R_reads' HO_469000.out).2.1);rintro e w45 ⟨rfl,hb⟩;refine⟨_,rfl,?_⟩;have n0_:=am (Kd.R_below (bK HO_469000.out) hb);have n1_:=am (Kd.R_below (bK HO_477000.out) hb);have n2_:=am (bM BK468.out hb);have n3_:=am (bM BK476.out hb);have n4_:=am (below_step (bS2 GE468.out GE476.out) hb);clear HO_469000 HO_477000 BK468 BK476 HB;have HO_469000:=n0_;have HO_477000:=n1_;have BK468:=n2_;have BK476:=n3_;have HB:=n4_;clear n0_ n1_ n2_ n3_ n4_;(try clear hb);(try clear hb2);(try clear hk);(try clear hi);obtain⟨hcz46_0,hcz46_1,hcz46_2⟩:=cC3 BK468.out;obtain⟨hfz46_0,hfz46_1,hfz46_2⟩:=cF3 BK468.out)|((with_reducible refine gate_callee (f:=42) rfl ?_);refine goesA (some 90) rfl rfl Try.func42 #[.agg #[.slice Ao12 t461.length co12,.int .i64 t464,.bool t465]] rfl ?_;(with_reducible refine(impl_CarriersIn.calls kj6 _ _ t461 t464 t465 t480 true _ ?side1 ?side2 A30.out).mono ?_);(case side1=>exact bT HO_469000.out);(case side2=>exact(Kd.R_reads' HO_469000.out).2.1);rintro e w47 ⟨v481,rfl,ho0,hb⟩;refine⟨_,rfl,?_⟩;have n0_:=am (Kd.R_elder' (bK HO_469000.out) (Kd.R_base ho0) hb);have n1_:=am (Kd.R_elder' (bK HO_477000.out) (Kd.R_base ho0) hb);have n2_:=am (Kd.R_lower (Kd.R_new' (Kd.R_new' ho0 (Kd.R_lt (bK HO_469000.out))) (Kd.R_lt (bK HO_477000.out))) (below_size (bS2 GE468.out GE476.out)));have n3_:=am (bM BK468.out hb);have n4_:=am (bM BK476.out hb);have n5_:=am (below_step (bS2 GE468.out GE476.out) hb);clear HO_469000 HO_477000 BK468 BK476 HB;have HO_469000:=n0_;have HO_477000:=n1_;have HO482:=n2_;have BK468:=n3_;have BK476:=n4_;have HB:=n5_;clear n0_ n1_ n2_ n3_ n4_ n5_;(try clear hb);(try clear hb2);(try clear hk);(try clear hi);(try clear ho0);obtain⟨Ao48,co48,eo48⟩:=Kd.R_slice HO482.out;subst eo48)|(go_at_call 43;(with_reducible refine(laws_has.calls kj6 _ _ t480 t456 true _ ?side1 ?side2 A41.out).mono ?_);(case side1=>exact bT HO482.out);(case side2=>exact(Kd.R_reads' HO482.out).2.1);rintro e w' ⟨rfl,⟨nd,rfl⟩⟩))
            go_ret
            exact⟨bE,bS2 GE468.out GE476.out⟩
           ·replace c42:=Bool.eq_false_iff.mpr c42
            subst c42
            have H1:((laws_has.f kj6 t480 t455).bind fun t485=>(if t485=true then (if (t465 != (decide (t466 > 0)))=true then (some false) else ((impl_GoodSpray.f kj6 t461 t464 t465).bind fun t486=>(if t486=true then (laws_FnSpray.j1 kj6 l1) else (some false)))) else (some false)))=some r:=by rw[if_neg (show ¬ (false=true) by decide)] at H;exact H
            clear H
            have H:=H1
            clear H1
            replace H:=bI_ H
            obtain⟨t485,A490,H⟩:=H
            have A49:=am A490
            clear A490
            by_cases c50:t485=true
            ·subst c50
             have H1:(if (t465 != (decide (t466 > 0)))=true then (some false) else ((impl_GoodSpray.f kj6 t461 t464 t465).bind fun t486=>(if t486=true then (laws_FnSpray.j1 kj6 l1) else (some false))))=some r:=by rw[if_pos rfl] at H;exact H
             clear H
             have H:=H1
             clear H1
             by_cases c51:(t465 != (decide (t466 > 0)))=true
             ·rw[if_pos c51] at H
              have c51b0:(t465 != (decide (t466 > 0)))=true:=c51
              (try (have c51b1:decide (t465=(decide (t466 > 0)))=false:=by simpa using c51))
              (try (have c51b2:(t465 == (decide (t466 > 0)))=false:=by simpa using c51))
              (try (have c51b3 : ¬ (t465=(decide (t466 > 0))):=by simpa using c51))
              clear c51
              obtain rfl:=Option.some.inj H
              have hnb52:=NB468_476.out
              have hnc52:=NB476_468.out
              obtain⟨hcz53_0,hcz53_1,hcz53_2⟩:=cC3 BK468.out
              obtain⟨hfz53_0,hfz53_1,hfz53_2⟩:=cF3 BK468.out
              go_wp2_with (first|((with_reducible refine gate_callee (f:=41) rfl ?_);refine goesA (some 85) rfl rfl Try.func41 #[.agg #[.slice Ao12 t461.length co12,.int .i64 t464,.bool t465]] rfl ?_;(with_reducible refine(impl_TokensIn.calls kj6 _ _ t461 t464 t465 t478 true _ ?side1 ?side2 A29.out).mono ?_);(case side1=>exact bT HO_469000.out);(case side2=>exact(Kd.R_reads' HO_469000.out).2.1);rintro e w54 ⟨rfl,hb⟩;refine⟨_,rfl,?_⟩;have n0_:=am (Kd.R_below (bK HO_469000.out) hb);have n1_:=am (Kd.R_below (bK HO_477000.out) hb);have n2_:=am (bM BK468.out hb);have n3_:=am (bM BK476.out hb);have n4_:=am (below_step (bS2 GE468.out GE476.out) hb);clear HO_469000 HO_477000 BK468 BK476 HB;have HO_469000:=n0_;have HO_477000:=n1_;have BK468:=n2_;have BK476:=n3_;have HB:=n4_;clear n0_ n1_ n2_ n3_ n4_;(try clear hb);(try clear hb2);(try clear hk);(try clear hi);obtain⟨hcz55_0,hcz55_1,hcz55_2⟩:=cC3 BK468.out;obtain⟨hfz55_0,hfz55_1,hfz55_2⟩:=cF3 BK468.out)|((with_reducible refine gate_callee (f:=42) rfl ?_);refine goesA (some 90) rfl rfl Try.func42 #[.agg #[.slice Ao12 t461.length co12,.int .i64 t464,.bool t465]] rfl ?_;(with_reducible refine(impl_CarriersIn.calls kj6 _ _ t461 t464 t465 t480 true _ ?side1 ?side2 A30.out).mono ?_);(case side1=>exact bT HO_469000.out);(case side2=>exact(Kd.R_reads' HO_469000.out).2.1);rintro e w56 ⟨v481,rfl,ho0,hb⟩;refine⟨_,rfl,?_⟩;have n0_:=am (Kd.R_elder' (bK HO_469000.out) (Kd.R_base ho0) hb);have n1_:=am (Kd.R_elder' (bK HO_477000.out) (Kd.R_base ho0) hb);have n2_:=am (Kd.R_lower (Kd.R_new' (Kd.R_new' ho0 (Kd.R_lt (bK HO_469000.out))) (Kd.R_lt (bK HO_477000.out))) (below_size (bS2 GE468.out GE476.out)));have n3_:=am (bM BK468.out hb);have n4_:=am (bM BK476.out hb);have n5_:=am (below_step (bS2 GE468.out GE476.out) hb);clear HO_469000 HO_477000 BK468 BK476 HB;have HO_469000:=n0_;have HO_477000:=n1_;have HO482:=n2_;have BK468:=n3_;have BK476:=n4_;have HB:=n5_;clear n0_ n1_ n2_ n3_ n4_ n5_;(try clear hb);(try clear hb2);(try clear hk);(try clear hi);(try clear ho0);obtain⟨Ao57,co57,eo57⟩:=Kd.R_slice HO482.out;subst eo57)|(go_at_call 43;(with_reducible refine(laws_has.calls kj6 _ _ t480 t456 false _ ?side1 ?side2 A41.out).mono ?_);(case side1=>exact bT HO482.out);(case side2=>exact(Kd.R_reads' HO482.out).2.1);rintro e w' ⟨rfl,⟨nd,rfl⟩⟩)|(go_at_call 43;(with_reducible refine(laws_has.calls kj6 _ _ t480 t455 true _ ?side1 ?side2 A49.out).mono ?_);(case side1=>exact bT HO482.out);(case side2=>exact(Kd.R_reads' HO482.out).2.1);rintro e w' ⟨rfl,⟨nd,rfl⟩⟩;obtain⟨hcz58_0,hcz58_1,hcz58_2⟩:=cC3 BK468.out;obtain⟨hfz58_0,hfz58_1,hfz58_2⟩:=cF3 BK468.out))
              go_ret
              exact⟨bE,bS2 GE468.out GE476.out⟩
             ·rw[if_neg c51] at H
              have c51b0:(t465 != (decide (t466 > 0)))=false:=by simpa using c51
              (try (have c51b1:decide (t465=(decide (t466 > 0)))=true:=by simpa using c51))
              (try (have c51b2:(t465 == (decide (t466 > 0)))=true:=by simpa using c51))
              clear c51
              replace H:=bI_ H
              obtain⟨t486,A590,H⟩:=H
              have A59:=am A590
              clear A590
              by_cases c60:t486=true
              ·subst c60
               have H1:(laws_FnSpray.j1 kj6 l1)=some r:=by rw[if_pos rfl] at H;exact H
               clear H
               have H:=H1
               clear H1
               have H':=am H
               clear H
               have hnb61:=NB468_476.out
               have hnc61:=NB476_468.out
               obtain⟨hcz62_0,hcz62_1,hcz62_2⟩:=cC3 BK468.out
               obtain⟨hfz62_0,hfz62_1,hfz62_2⟩:=cF3 BK468.out
               go_wp2_with (first|((with_reducible refine gate_callee (f:=41) rfl ?_);refine goesA (some 85) rfl rfl Try.func41 #[.agg #[.slice Ao12 t461.length co12,.int .i64 t464,.bool t465]] rfl ?_;(with_reducible refine(impl_TokensIn.calls kj6 _ _ t461 t464 t465 t478 true _ ?side1 ?side2 A29.out).mono ?_);(case side1=>exact bT HO_469000.out);(case side2=>exact(Kd.R_reads' HO_469000.out).2.1);rintro e w63 ⟨rfl,hb⟩;refine⟨_,rfl,?_⟩;have n0_:=am (Kd.R_below (bK HO_469000.out) hb);have n1_:=am (Kd.R_below (bK HO_477000.out) hb);have n2_:=am (bM BK468.out hb);have n3_:=am (bM BK476.out hb);have n4_:=am (below_step (bS2 GE468.out GE476.out) hb);clear HO_469000 HO_477000 BK468 BK476 HB;have HO_469000:=n0_;have HO_477000:=n1_;have BK468:=n2_;have BK476:=n3_;have HB:=n4_;clear n0_ n1_ n2_ n3_ n4_;(try clear hb);(try clear hb2);(try clear hk);(try clear hi);obtain⟨hcz64_0,hcz64_1,hcz64_2⟩:=cC3 BK468.out;obtain⟨hfz64_0,hfz64_1,hfz64_2⟩:=cF3 BK468.out)|((with_reducible refine gate_callee (f:=42) rfl ?_);refine goesA (some 90) rfl rfl Try.func42 #[.agg #[.slice Ao12 t461.length co12,.int .i64 t464,.bool t465]] rfl ?_;(with_reducible refine(impl_CarriersIn.calls kj6 _ _ t461 t464 t465 t480 true _ ?side1 ?side2 A30.out).mono ?_);(case side1=>exact bT HO_469000.out);(case side2=>exact(Kd.R_reads' HO_469000.out).2.1);rintro e w65 ⟨v481,rfl,ho0,hb⟩;refine⟨_,rfl,?_⟩;have n0_:=am (Kd.R_elder' (bK HO_469000.out) (Kd.R_base ho0) hb);have n1_:=am (Kd.R_elder' (bK HO_477000.out) (Kd.R_base ho0) hb);have n2_:=am (Kd.R_lower (Kd.R_new' (Kd.R_new' ho0 (Kd.R_lt (bK HO_469000.out))) (Kd.R_lt (bK HO_477000.out))) (below_size (bS2 GE468.out GE476.out)));have n3_:=am (bM BK468.out hb);have n4_:=am (bM BK476.out hb);have n5_:=am (below_step (bS2 GE468.out GE476.out) hb);clear HO_469000 HO_477000 BK468 BK476 HB;have HO_469000:=n0_;have HO_477000:=n1_;have HO482:=n2_;have BK468:=n3_;have BK476:=n4_;have HB:=n5_;clear n0_ n1_ n2_ n3_ n4_ n5_;(try clear hb);(try clear hb2);(try clear hk);(try clear hi);(try clear ho0);obtain⟨Ao66,co66,eo66⟩:=Kd.R_slice HO482.out;subst eo66)|(go_at_call 43;(with_reducible refine(laws_has.calls kj6 _ _ t480 t456 false _ ?side1 ?side2 A41.out).mono ?_);(case side1=>exact bT HO482.out);(case side2=>exact(Kd.R_reads' HO482.out).2.1);rintro e w' ⟨rfl,⟨nd,rfl⟩⟩)|(go_at_call 43;(with_reducible refine(laws_has.calls kj6 _ _ t480 t455 true _ ?side1 ?side2 A49.out).mono ?_);(case side1=>exact bT HO482.out);(case side2=>exact(Kd.R_reads' HO482.out).2.1);rintro e w' ⟨rfl,⟨nd,rfl⟩⟩;obtain⟨hcz67_0,hcz67_1,hcz67_2⟩:=cC3 BK468.out;obtain⟨hfz67_0,hfz67_1,hfz67_2⟩:=cF3 BK468.out)|(go_at_call 44;(with_reducible refine(impl_GoodSpray.calls kj6 _ _ t461 t464 t465 true _ ?side1 ?side2 A59.out).mono ?_);(case side1=>exact bT HO_469000.out);(case side2=>exact(Kd.R_reads' HO_469000.out).2.1);rintro e w68 ⟨rfl,hb⟩;have n0_:=am (Kd.R_below (bK HO_469000.out) hb);have n1_:=am (Kd.R_below (bK HO_477000.out) hb);have n2_:=am (Kd.R_below (bK HO482.out) hb);have n3_:=am (bM BK468.out hb);have n4_:=am (bM BK476.out hb);have n5_:=am (below_step (bS2 GE468.out GE476.out) hb);clear HO_469000 HO_477000 HO482 BK468 BK476 HB;have HO_469000:=n0_;have HO_477000:=n1_;have HO482:=n2_;have BK468:=n3_;have BK476:=n4_;have HB:=n5_;clear n0_ n1_ n2_ n3_ n4_ n5_;(try clear hb);(try clear hb2);(try clear hk);(try clear hi)))
               go_meet
               case rel=>exact⟨_,H',⟨by have:=HJ6.out;first|omega|exact Nat.le_refl _⟩,⟨by(with_reducible repeat (first|apply Kd.R_alloc|apply Kd.R_drewN|apply Kd.R_drew));exact Kd.R_mono HO_469000.out (fun _ hk=>hk.1)⟩,⟨by(with_reducible repeat (first|apply Kd.R_alloc|apply Kd.R_drewN|apply Kd.R_drew));exact Kd.R_mono HO_477000.out (fun _ hk=>hk.1)⟩,⟨by(with_reducible repeat (first|refine blk_drewN ?_ _|refine blk_drew ?_|refine blk_alloc ?_ _));exact BK468.out⟩,⟨by(with_reducible repeat (first|refine blk_drewN ?_ _|refine blk_drew ?_|refine blk_alloc ?_ _));exact BK476.out⟩,⟨bS2 GE468.out GE476.out⟩⟩
              ·replace c60:=Bool.eq_false_iff.mpr c60
               subst c60
               have H1:(some false)=some r:=by rw[if_neg (show ¬ (false=true) by decide)] at H;exact H
               clear H
               have H:=H1
               clear H1
               obtain rfl:=Option.some.inj H
               have hnb69:=NB468_476.out
               have hnc69:=NB476_468.out
               obtain⟨hcz70_0,hcz70_1,hcz70_2⟩:=cC3 BK468.out
               obtain⟨hfz70_0,hfz70_1,hfz70_2⟩:=cF3 BK468.out
               go_wp2_with (first|((with_reducible refine gate_callee (f:=41) rfl ?_);refine goesA (some 85) rfl rfl Try.func41 #[.agg #[.slice Ao12 t461.length co12,.int .i64 t464,.bool t465]] rfl ?_;(with_reducible refine(impl_TokensIn.calls kj6 _ _ t461 t464 t465 t478 true _ ?side1 ?side2 A29.out).mono ?_);(case side1=>exact bT HO_469000.out);(case side2=>exact(Kd.R_reads' HO_469000.out).2.1);rintro e w71 ⟨rfl,hb⟩;refine⟨_,rfl,?_⟩;have n0_:=am (Kd.R_below (bK HO_469000.out) hb);have n1_:=am (Kd.R_below (bK HO_477000.out) hb);have n2_:=am (bM BK468.out hb);have n3_:=am (bM BK476.out hb);have n4_:=am (below_step (bS2 GE468.out GE476.out) hb);clear HO_469000 HO_477000 BK468 BK476 HB;have HO_469000:=n0_;have HO_477000:=n1_;have BK468:=n2_;have BK476:=n3_;have HB:=n4_;clear n0_ n1_ n2_ n3_ n4_;(try clear hb);(try clear hb2);(try clear hk);(try clear hi);obtain⟨hcz72_0,hcz72_1,hcz72_2⟩:=cC3 BK468.out;obtain⟨hfz72_0,hfz72_1,hfz72_2⟩:=cF3 BK468.out)|((with_reducible refine gate_callee (f:=42) rfl ?_);refine goesA (some 90) rfl rfl Try.func42 #[.agg #[.slice Ao12 t461.length co12,.int .i64 t464,.bool t465]] rfl ?_;(with_reducible refine(impl_CarriersIn.calls kj6 _ _ t461 t464 t465 t480 true _ ?side1 ?side2 A30.out).mono ?_);(case side1=>exact bT HO_469000.out);(case side2=>exact(Kd.R_reads' HO_469000.out).2.1);rintro e w73 ⟨v481,rfl,ho0,hb⟩;refine⟨_,rfl,?_⟩;have n0_:=am (Kd.R_elder' (bK HO_469000.out) (Kd.R_base ho0) hb);have n1_:=am (Kd.R_elder' (bK HO_477000.out) (Kd.R_base ho0) hb);have n2_:=am (Kd.R_lower (Kd.R_new' (Kd.R_new' ho0 (Kd.R_lt (bK HO_469000.out))) (Kd.R_lt (bK HO_477000.out))) (below_size (bS2 GE468.out GE476.out)));have n3_:=am (bM BK468.out hb);have n4_:=am (bM BK476.out hb);have n5_:=am (below_step (bS2 GE468.out GE476.out) hb);clear HO_469000 HO_477000 BK468 BK476 HB;have HO_469000:=n0_;have HO_477000:=n1_;have HO482:=n2_;have BK468:=n3_;have BK476:=n4_;have HB:=n5_;clear n0_ n1_ n2_ n3_ n4_ n5_;(try clear hb);(try clear hb2);(try clear hk);(try clear hi);(try clear ho0);obtain⟨Ao74,co74,eo74⟩:=Kd.R_slice HO482.out;subst eo74)|(go_at_call 43;(with_reducible refine(laws_has.calls kj6 _ _ t480 t456 false _ ?side1 ?side2 A41.out).mono ?_);(case side1=>exact bT HO482.out);(case side2=>exact(Kd.R_reads' HO482.out).2.1);rintro e w' ⟨rfl,⟨nd,rfl⟩⟩)|(go_at_call 43;(with_reducible refine(laws_has.calls kj6 _ _ t480 t455 true _ ?side1 ?side2 A49.out).mono ?_);(case side1=>exact bT HO482.out);(case side2=>exact(Kd.R_reads' HO482.out).2.1);rintro e w' ⟨rfl,⟨nd,rfl⟩⟩;obtain⟨hcz75_0,hcz75_1,hcz75_2⟩:=cC3 BK468.out;obtain⟨hfz75_0,hfz75_1,hfz75_2⟩:=cF3 BK468.out)|(go_at_call 44;(with_reducible refine(impl_GoodSpray.calls kj6 _ _ t461 t464 t465 false _ ?side1 ?side2 A59.out).mono ?_);(case side1=>exact bT HO_469000.out);(case side2=>exact(Kd.R_reads' HO_469000.out).2.1);rintro e w76 ⟨rfl,hb⟩;have n0_:=am (Kd.R_below (bK HO_469000.out) hb);have n1_:=am (Kd.R_below (bK HO_477000.out) hb);have n2_:=am (Kd.R_below (bK HO482.out) hb);have n3_:=am (bM BK468.out hb);have n4_:=am (bM BK476.out hb);have n5_:=am (below_step (bS2 GE468.out GE476.out) hb);clear HO_469000 HO_477000 HO482 BK468 BK476 HB;have HO_469000:=n0_;have HO_477000:=n1_;have HO482:=n2_;have BK468:=n3_;have BK476:=n4_;have HB:=n5_;clear n0_ n1_ n2_ n3_ n4_ n5_;(try clear hb);(try clear hb2);(try clear hk);(try clear hi)))
               go_ret
               exact⟨bE,bS2 GE468.out GE476.out⟩
            ·replace c50:=Bool.eq_false_iff.mpr c50
             subst c50
             have H1:(some false)=some r:=by rw[if_neg (show ¬ (false=true) by decide)] at H;exact H
             clear H
             have H:=H1
             clear H1
             obtain rfl:=Option.some.inj H
             have hnb77:=NB468_476.out
             have hnc77:=NB476_468.out
             obtain⟨hcz78_0,hcz78_1,hcz78_2⟩:=cC3 BK468.out
             obtain⟨hfz78_0,hfz78_1,hfz78_2⟩:=cF3 BK468.out
             go_wp2_with (first|((with_reducible refine gate_callee (f:=41) rfl ?_);refine goesA (some 85) rfl rfl Try.func41 #[.agg #[.slice Ao12 t461.length co12,.int .i64 t464,.bool t465]] rfl ?_;(with_reducible refine(impl_TokensIn.calls kj6 _ _ t461 t464 t465 t478 true _ ?side1 ?side2 A29.out).mono ?_);(case side1=>exact bT HO_469000.out);(case side2=>exact(Kd.R_reads' HO_469000.out).2.1);rintro e w79 ⟨rfl,hb⟩;refine⟨_,rfl,?_⟩;have n0_:=am (Kd.R_below (bK HO_469000.out) hb);have n1_:=am (Kd.R_below (bK HO_477000.out) hb);have n2_:=am (bM BK468.out hb);have n3_:=am (bM BK476.out hb);have n4_:=am (below_step (bS2 GE468.out GE476.out) hb);clear HO_469000 HO_477000 BK468 BK476 HB;have HO_469000:=n0_;have HO_477000:=n1_;have BK468:=n2_;have BK476:=n3_;have HB:=n4_;clear n0_ n1_ n2_ n3_ n4_;(try clear hb);(try clear hb2);(try clear hk);(try clear hi);obtain⟨hcz80_0,hcz80_1,hcz80_2⟩:=cC3 BK468.out;obtain⟨hfz80_0,hfz80_1,hfz80_2⟩:=cF3 BK468.out)|((with_reducible refine gate_callee (f:=42) rfl ?_);refine goesA (some 90) rfl rfl Try.func42 #[.agg #[.slice Ao12 t461.length co12,.int .i64 t464,.bool t465]] rfl ?_;(with_reducible refine(impl_CarriersIn.calls kj6 _ _ t461 t464 t465 t480 true _ ?side1 ?side2 A30.out).mono ?_);(case side1=>exact bT HO_469000.out);(case side2=>exact(Kd.R_reads' HO_469000.out).2.1);rintro e w81 ⟨v481,rfl,ho0,hb⟩;refine⟨_,rfl,?_⟩;have n0_:=am (Kd.R_elder' (bK HO_469000.out) (Kd.R_base ho0) hb);have n1_:=am (Kd.R_elder' (bK HO_477000.out) (Kd.R_base ho0) hb);have n2_:=am (Kd.R_lower (Kd.R_new' (Kd.R_new' ho0 (Kd.R_lt (bK HO_469000.out))) (Kd.R_lt (bK HO_477000.out))) (below_size (bS2 GE468.out GE476.out)));have n3_:=am (bM BK468.out hb);have n4_:=am (bM BK476.out hb);have n5_:=am (below_step (bS2 GE468.out GE476.out) hb);clear HO_469000 HO_477000 BK468 BK476 HB;have HO_469000:=n0_;have HO_477000:=n1_;have HO482:=n2_;have BK468:=n3_;have BK476:=n4_;have HB:=n5_;clear n0_ n1_ n2_ n3_ n4_ n5_;(try clear hb);(try clear hb2);(try clear hk);(try clear hi);(try clear ho0);obtain⟨Ao82,co82,eo82⟩:=Kd.R_slice HO482.out;subst eo82)|(go_at_call 43;(with_reducible refine(laws_has.calls kj6 _ _ t480 t456 false _ ?side1 ?side2 A41.out).mono ?_);(case side1=>exact bT HO482.out);(case side2=>exact(Kd.R_reads' HO482.out).2.1);rintro e w' ⟨rfl,⟨nd,rfl⟩⟩)|(go_at_call 43;(with_reducible refine(laws_has.calls kj6 _ _ t480 t455 false _ ?side1 ?side2 A49.out).mono ?_);(case side1=>exact bT HO482.out);(case side2=>exact(Kd.R_reads' HO482.out).2.1);rintro e w' ⟨rfl,⟨nd,rfl⟩⟩))
             go_ret
             exact⟨bE,bS2 GE468.out GE476.out⟩
         ·replace c33:=Bool.eq_false_iff.mpr c33
          subst c33
          have H1:(some false)=some r:=by rw[if_neg (show ¬ (false=true) by decide)] at H;exact H
          clear H
          have H:=H1
          clear H1
          obtain rfl:=Option.some.inj H
          have hnb83:=NB468_476.out
          have hnc83:=NB476_468.out
          obtain⟨hcz84_0,hcz84_1,hcz84_2⟩:=cC3 BK468.out
          obtain⟨hfz84_0,hfz84_1,hfz84_2⟩:=cF3 BK468.out
          go_wp2_with (first|((with_reducible refine gate_callee (f:=41) rfl ?_);refine goesA (some 85) rfl rfl Try.func41 #[.agg #[.slice Ao12 t461.length co12,.int .i64 t464,.bool t465]] rfl ?_;(with_reducible refine(impl_TokensIn.calls kj6 _ _ t461 t464 t465 t478 true _ ?side1 ?side2 A29.out).mono ?_);(case side1=>exact bT HO_469000.out);(case side2=>exact(Kd.R_reads' HO_469000.out).2.1);rintro e w85 ⟨rfl,hb⟩;refine⟨_,rfl,?_⟩;have n0_:=am (Kd.R_below (bK HO_469000.out) hb);have n1_:=am (Kd.R_below (bK HO_477000.out) hb);have n2_:=am (bM BK468.out hb);have n3_:=am (bM BK476.out hb);have n4_:=am (below_step (bS2 GE468.out GE476.out) hb);clear HO_469000 HO_477000 BK468 BK476 HB;have HO_469000:=n0_;have HO_477000:=n1_;have BK468:=n2_;have BK476:=n3_;have HB:=n4_;clear n0_ n1_ n2_ n3_ n4_;(try clear hb);(try clear hb2);(try clear hk);(try clear hi);obtain⟨hcz86_0,hcz86_1,hcz86_2⟩:=cC3 BK468.out;obtain⟨hfz86_0,hfz86_1,hfz86_2⟩:=cF3 BK468.out)|((with_reducible refine gate_callee (f:=42) rfl ?_);refine goesA (some 90) rfl rfl Try.func42 #[.agg #[.slice Ao12 t461.length co12,.int .i64 t464,.bool t465]] rfl ?_;(with_reducible refine(impl_CarriersIn.calls kj6 _ _ t461 t464 t465 t480 false _ ?side1 ?side2 A30.out).mono ?_);(case side1=>exact bT HO_469000.out);(case side2=>exact(Kd.R_reads' HO_469000.out).2.1);rintro e w87 ⟨v481,rfl,ho0,hb⟩;refine⟨_,rfl,?_⟩;have n0_:=am (Kd.R_elder' (bK HO_469000.out) (Kd.R_base ho0) hb);have n1_:=am (Kd.R_elder' (bK HO_477000.out) (Kd.R_base ho0) hb);have n2_:=am (Kd.R_lower (Kd.R_new' (Kd.R_new' ho0 (Kd.R_lt (bK HO_469000.out))) (Kd.R_lt (bK HO_477000.out))) (below_size (bS2 GE468.out GE476.out)));have n3_:=am (bM BK468.out hb);have n4_:=am (bM BK476.out hb);have n5_:=am (below_step (bS2 GE468.out GE476.out) hb);clear HO_469000 HO_477000 BK468 BK476 HB;have HO_469000:=n0_;have HO_477000:=n1_;have HO482:=n2_;have BK468:=n3_;have BK476:=n4_;have HB:=n5_;clear n0_ n1_ n2_ n3_ n4_ n5_;(try clear hb);(try clear hb2);(try clear hk);(try clear hi);(try clear ho0)))
          go_ret
          exact⟨bE,bS2 GE468.out GE476.out⟩
        ·rw[if_neg c32] at H
         have c32b0:(t478 == t457)=false:=beq_eq_false_iff_ne.mpr c32
         have c32b1:(t478 != t457)=true:=bne_iff_ne.mpr c32
         (first|rw[c32b0]|(simp only[i64_w,i32_w];rw[c32b0])|skip)
         obtain rfl:=Option.some.inj H
         have hnb88:=NB468_476.out
         have hnc88:=NB476_468.out
         obtain⟨hcz89_0,hcz89_1,hcz89_2⟩:=cC3 BK468.out
         obtain⟨hfz89_0,hfz89_1,hfz89_2⟩:=cF3 BK468.out
         go_wp2_with (first|((with_reducible refine gate_callee (f:=41) rfl ?_);refine goesA (some 85) rfl rfl Try.func41 #[.agg #[.slice Ao12 t461.length co12,.int .i64 t464,.bool t465]] rfl ?_;(with_reducible refine(impl_TokensIn.calls kj6 _ _ t461 t464 t465 t478 true _ ?side1 ?side2 A29.out).mono ?_);(case side1=>exact bT HO_469000.out);(case side2=>exact(Kd.R_reads' HO_469000.out).2.1);rintro e w90 ⟨rfl,hb⟩;refine⟨_,rfl,?_⟩;have n0_:=am (Kd.R_below (bK HO_469000.out) hb);have n1_:=am (Kd.R_below (bK HO_477000.out) hb);have n2_:=am (bM BK468.out hb);have n3_:=am (bM BK476.out hb);have n4_:=am (below_step (bS2 GE468.out GE476.out) hb);clear HO_469000 HO_477000 BK468 BK476 HB;have HO_469000:=n0_;have HO_477000:=n1_;have BK468:=n2_;have BK476:=n3_;have HB:=n4_;clear n0_ n1_ n2_ n3_ n4_;(try clear hb);(try clear hb2);(try clear hk);(try clear hi);obtain⟨hcz91_0,hcz91_1,hcz91_2⟩:=cC3 BK468.out;obtain⟨hfz91_0,hfz91_1,hfz91_2⟩:=cF3 BK468.out)|((with_reducible refine gate_callee (f:=42) rfl ?_);refine goesA (some 90) rfl rfl Try.func42 #[.agg #[.slice Ao12 t461.length co12,.int .i64 t464,.bool t465]] rfl ?_;(with_reducible refine(impl_CarriersIn.calls kj6 _ _ t461 t464 t465 t480 t483 _ ?side1 ?side2 A30.out).mono ?_);(case side1=>exact bT HO_469000.out);(case side2=>exact(Kd.R_reads' HO_469000.out).2.1);rintro e w92 ⟨v481,rfl,ho0,hb⟩;refine⟨_,rfl,?_⟩;have n0_:=am (Kd.R_elder' (bK HO_469000.out) (Kd.R_base ho0) hb);have n1_:=am (Kd.R_elder' (bK HO_477000.out) (Kd.R_base ho0) hb);have n2_:=am (Kd.R_lower (Kd.R_new' (Kd.R_new' ho0 (Kd.R_lt (bK HO_469000.out))) (Kd.R_lt (bK HO_477000.out))) (below_size (bS2 GE468.out GE476.out)));have n3_:=am (bM BK468.out hb);have n4_:=am (bM BK476.out hb);have n5_:=am (below_step (bS2 GE468.out GE476.out) hb);clear HO_469000 HO_477000 BK468 BK476 HB;have HO_469000:=n0_;have HO_477000:=n1_;have HO482:=n2_;have BK468:=n3_;have BK476:=n4_;have HB:=n5_;clear n0_ n1_ n2_ n3_ n4_ n5_;(try clear hb);(try clear hb2);(try clear hk);(try clear hi);(try clear ho0)))
         go_ret
         exact⟨bE,bS2 GE468.out GE476.out⟩
       ·replace c31:=Bool.eq_false_iff.mpr c31
        subst c31
        have H1:(some false)=some r:=by rw[if_neg (show ¬ (false=true) by decide)] at H;exact H
        clear H
        have H:=H1
        clear H1
        obtain rfl:=Option.some.inj H
        have hnb93:=NB468_476.out
        have hnc93:=NB476_468.out
        obtain⟨hcz94_0,hcz94_1,hcz94_2⟩:=cC3 BK468.out
        obtain⟨hfz94_0,hfz94_1,hfz94_2⟩:=cF3 BK468.out
        go_wp2_with (first|((with_reducible refine gate_callee (f:=41) rfl ?_);refine goesA (some 85) rfl rfl Try.func41 #[.agg #[.slice Ao12 t461.length co12,.int .i64 t464,.bool t465]] rfl ?_;(with_reducible refine(impl_TokensIn.calls kj6 _ _ t461 t464 t465 t478 false _ ?side1 ?side2 A29.out).mono ?_);(case side1=>exact bT HO_469000.out);(case side2=>exact(Kd.R_reads' HO_469000.out).2.1);rintro e w95 ⟨rfl,hb⟩;refine⟨_,rfl,?_⟩;have n0_:=am (Kd.R_below (bK HO_469000.out) hb);have n1_:=am (Kd.R_below (bK HO_477000.out) hb);have n2_:=am (bM BK468.out hb);have n3_:=am (bM BK476.out hb);have n4_:=am (below_step (bS2 GE468.out GE476.out) hb);clear HO_469000 HO_477000 BK468 BK476 HB;have HO_469000:=n0_;have HO_477000:=n1_;have BK468:=n2_;have BK476:=n3_;have HB:=n4_;clear n0_ n1_ n2_ n3_ n4_;(try clear hb);(try clear hb2);(try clear hk);(try clear hi);obtain⟨hcz96_0,hcz96_1,hcz96_2⟩:=cC3 BK468.out;obtain⟨hfz96_0,hfz96_1,hfz96_2⟩:=cF3 BK468.out)|((with_reducible refine gate_callee (f:=42) rfl ?_);refine goesA (some 90) rfl rfl Try.func42 #[.agg #[.slice Ao12 t461.length co12,.int .i64 t464,.bool t465]] rfl ?_;(with_reducible refine(impl_CarriersIn.calls kj6 _ _ t461 t464 t465 t480 t483 _ ?side1 ?side2 A30.out).mono ?_);(case side1=>exact bT HO_469000.out);(case side2=>exact(Kd.R_reads' HO_469000.out).2.1);rintro e w97 ⟨v481,rfl,ho0,hb⟩;refine⟨_,rfl,?_⟩;have n0_:=am (Kd.R_elder' (bK HO_469000.out) (Kd.R_base ho0) hb);have n1_:=am (Kd.R_elder' (bK HO_477000.out) (Kd.R_base ho0) hb);have n2_:=am (Kd.R_lower (Kd.R_new' (Kd.R_new' ho0 (Kd.R_lt (bK HO_469000.out))) (Kd.R_lt (bK HO_477000.out))) (below_size (bS2 GE468.out GE476.out)));have n3_:=am (bM BK468.out hb);have n4_:=am (bM BK476.out hb);have n5_:=am (below_step (bS2 GE468.out GE476.out) hb);clear HO_469000 HO_477000 BK468 BK476 HB;have HO_469000:=n0_;have HO_477000:=n1_;have HO482:=n2_;have BK468:=n3_;have BK476:=n4_;have HB:=n5_;clear n0_ n1_ n2_ n3_ n4_ n5_;(try clear hb);(try clear hb2);(try clear hk);(try clear hi);(try clear ho0)))
        go_ret
        exact⟨bE,bS2 GE468.out GE476.out⟩
      ·replace c28:=Bool.eq_false_iff.mpr c28
       subst c28
       have H1:(laws_FnSpray.j1 kj6 l1)=some r:=by rw[if_neg (show ¬ (false=true) by decide)] at H;exact H
       clear H
       have H:=H1
       clear H1
       have H':=am H
       clear H
       go_wp2
       go_meet
       case rel=>exact⟨_,H',⟨by have:=HJ6.out;first|omega|exact Nat.le_refl _⟩,⟨by(with_reducible repeat (first|apply Kd.R_alloc|apply Kd.R_drewN|apply Kd.R_drew));exact HO_469000.out⟩,⟨by(with_reducible repeat (first|apply Kd.R_alloc|apply Kd.R_drewN|apply Kd.R_drew));exact HO_477000.out⟩,⟨by(with_reducible repeat (first|refine blk_drewN ?_ _|refine blk_drew ?_|refine blk_alloc ?_ _));exact BK468.out⟩,⟨by(with_reducible repeat (first|refine blk_drewN ?_ _|refine blk_drew ?_|refine blk_alloc ?_ _));exact BK476.out⟩,⟨bS2 GE468.out GE476.out⟩⟩
     case rest =>
      clear HC27
      try clear c1
      try clear c2
      try clear p2
      try clear c3
      try clear c3b0
      try clear c4
      try clear c5
      try clear c6
      try clear p6
      try clear c7
      try clear c8
      try clear c9
      try clear c17
      try clear c19
      try clear c19b0
      try clear c19b1
      try clear c19b2
      try clear c20
      try clear c20b0
      try clear c20b1
      try clear c22
      try clear c26
      try clear c28
      try clear c31
      try clear c32
      try clear c32b0
      try clear c32b1
      try clear c33
      try clear c34
      try clear c34b0
      try clear c35
      try clear c37
      try clear c38
      try clear c39
      try clear c41
      try clear c42
      try clear c43
      try clear c50
      try clear c51
      try clear c51b0
      try clear c51b1
      try clear c51b2
      try clear c52
      try clear c60
      try clear c61
      try clear p64
      try clear c69
      try clear c77
      try clear c83
      try clear c88
      try clear c93
      try clear hcz13_0 hcz13_1 hcz13_2
      try clear hcz18_0 hcz18_1 hcz18_2
      try clear hcz23_0 hcz23_1 hcz23_2
      try clear hcz24_0 hcz24_1 hcz24_2
      try clear hcz36_0 hcz36_1 hcz36_2
      try clear hcz38_0 hcz38_1 hcz38_2
      try clear hcz44_0 hcz44_1 hcz44_2
      try clear hcz46_0 hcz46_1 hcz46_2
      try clear hcz53_0 hcz53_1 hcz53_2
      try clear hcz55_0 hcz55_1 hcz55_2
      try clear hcz58_0 hcz58_1 hcz58_2
      try clear hcz62_0 hcz62_1 hcz62_2
      try clear hcz64_0 hcz64_1 hcz64_2
      try clear hcz67_0 hcz67_1 hcz67_2
      try clear hcz70_0 hcz70_1 hcz70_2
      try clear hcz72_0 hcz72_1 hcz72_2
      try clear hcz75_0 hcz75_1 hcz75_2
      try clear hcz78_0 hcz78_1 hcz78_2
      try clear hcz80_0 hcz80_1 hcz80_2
      try clear hcz84_0 hcz84_1 hcz84_2
      try clear hcz86_0 hcz86_1 hcz86_2
      try clear hcz89_0 hcz89_1 hcz89_2
      try clear hcz91_0 hcz91_1 hcz91_2
      try clear hcz94_0 hcz94_1 hcz94_2
      try clear hcz96_0 hcz96_1 hcz96_2
      try clear hfz13_0 hfz13_1 hfz13_2
      try clear hfz18_0 hfz18_1 hfz18_2
      try clear hfz23_0 hfz23_1 hfz23_2
      try clear hfz24_0 hfz24_1 hfz24_2
      try clear hfz36_0 hfz36_1 hfz36_2
      try clear hfz38_0 hfz38_1 hfz38_2
      try clear hfz44_0 hfz44_1 hfz44_2
      try clear hfz46_0 hfz46_1 hfz46_2
      try clear hfz53_0 hfz53_1 hfz53_2
      try clear hfz55_0 hfz55_1 hfz55_2
      try clear hfz58_0 hfz58_1 hfz58_2
      try clear hfz62_0 hfz62_1 hfz62_2
      try clear hfz64_0 hfz64_1 hfz64_2
      try clear hfz67_0 hfz67_1 hfz67_2
      try clear hfz70_0 hfz70_1 hfz70_2
      try clear hfz72_0 hfz72_1 hfz72_2
      try clear hfz75_0 hfz75_1 hfz75_2
      try clear hfz78_0 hfz78_1 hfz78_2
      try clear hfz80_0 hfz80_1 hfz80_2
      try clear hfz84_0 hfz84_1 hfz84_2
      try clear hfz86_0 hfz86_1 hfz86_2
      try clear hfz89_0 hfz89_1 hfz89_2
      try clear hfz91_0 hfz91_1 hfz91_2
      try clear hfz94_0 hfz94_1 hfz94_2
      try clear hfz96_0 hfz96_1 hfz96_2
      try clear p2
      try clear p6
      obtain⟨kq,HA,HJ26,HO_469000,HO_477000,BK468,BK476,HB⟩:=hcut
      cases kq with
      | zero=>exact absurd HA.out (by simp[laws_FnSpray.j1])
      | succ kj26 =>
       have H:=HA.out
       clear HA
       simp only[laws_FnSpray.j1] at H
       replace H:=bI_ H
       obtain⟨⟨t487,t490,t491,t492,t493⟩,A980,H⟩:=H
       have A98:=am A980
       clear A980
       replace H:=bI_ H
       obtain⟨⟨t496,t499,t500,t501⟩,A990,H⟩:=H
       have A99:=am A990
       clear A990
       replace H:=bI_ H
       obtain⟨⟨t503,t506,t507,t508⟩,A1000,H⟩:=H
       have A100:=am A1000
       clear A1000
       have HC101:=am H
       clear H
       go_upto_region 16 with (first|((with_reducible refine gate_callee (f:=45) rfl ?_);refine goesA (some 135) rfl rfl Try.func45 #[.slice A1 l1.length c1] rfl ?_;(with_reducible refine(spec_DrawMeetBoth.calls kj26 _ _ l1 t487 t490 t491 t492 t493 _ ?side1 ?side2 A98.out).mono ?_);(case side1=>exact bC HR1.out);(case side2=>exact HC1.out);rintro e w102 ⟨v488,rfl,ho0,hb⟩;refine⟨_,rfl,?_⟩;have n0_:=am (Kd.R_elder' (bK HO_469000.out) (Kd.R_base ho0) hb);have n1_:=am (Kd.R_elder' (bK HO_477000.out) (Kd.R_base ho0) hb);have n2_:=am (Kd.R_lower (Kd.R_new' (Kd.R_new' ho0 (Kd.R_lt (bK HO_469000.out))) (Kd.R_lt (bK HO_477000.out))) (below_size (bS2 GE468.out GE476.out)));have n3_:=am (bM BK468.out hb);have n4_:=am (bM BK476.out hb);have n5_:=am (below_step (bS2 GE468.out GE476.out) hb);clear HO_469000 HO_477000 BK468 BK476 HB;have HO_469000:=n0_;have HO_477000:=n1_;have HO489:=n2_;have BK468:=n3_;have BK476:=n4_;have HB:=n5_;clear n0_ n1_ n2_ n3_ n4_ n5_;(try clear hb);(try clear hb2);(try clear hk);(try clear hi);(try clear ho0))|((with_reducible refine gate_dst (N:=20) rfl ?_);(try (refine gate_guard (by rfl) ?_;dsimp only));refine box_event ?hg (N:=20) ?hd (cs:=#[.slice none 0 0,.int .i64 0,.bool false]) (t:=62) ?hr ?_;(case hd=>rfl);(case hg=>rfl);(case hr=>first|(go_simp;done)|(go_simp;rfl));intro gb494 hg w103 hbox hb;have n0_:=am (Kd.R_below (bK HO_469000.out) hb);have n1_:=am (Kd.R_below (bK HO_477000.out) hb);have n2_:=am (Kd.R_below (bK HO489.out) hb);have n3_:=am (bM BK468.out hb);have n4_:=am (bM BK476.out hb);have n5_:=am (below_step (bS2 GE468.out GE476.out) hb);have n6_:=am (hbox);have n7_:=am ((by rw[hg];exact(below_size (bS2 GE468.out GE476.out)):w.heap.size≤gb494));have n8_:=am ((by rw[hg];exact(below_size (bS2 GE468.out GE476.out)):w.heap.size≤gb494));have n9_:=am ((bN BK468.out hg:gb468≠gb494));have n10_:=am ((bO BK468.out hg:gb494≠gb468));have n11_:=am ((bN BK476.out hg:gb476≠gb494));have n12_:=am ((bO BK476.out hg:gb494≠gb476));clear HO_469000 HO_477000 HO489 BK468 BK476 HB;have HO_469000:=n0_;have HO_477000:=n1_;have HO489:=n2_;have BK468:=n3_;have BK476:=n4_;have HB:=n5_;have BK494:=n6_;have GW494:=n7_;have GE494:=n8_;have NB468_494:=n9_;have NB494_468:=n10_;have NB476_494:=n11_;have NB494_476:=n12_;clear n0_ n1_ n2_ n3_ n4_ n5_ n6_ n7_ n8_ n9_ n10_ n11_ n12_;clear hb hbox hg)|((with_reducible refine gate_dst (N:=21) rfl ?_);(try (refine gate_guard (by rfl) ?_;dsimp only));refine box_event ?hg (N:=21) ?hd (cs:=#[.int .i64 0,.int .i64 0]) (t:=72) ?hr ?_;(case hd=>rfl);(case hg=>rfl);(case hr=>first|(go_simp;done)|(go_simp;rfl));intro gb495 hg w104 hbox hb;have n0_:=am (Kd.R_below (bK HO_469000.out) hb);have n1_:=am (Kd.R_below (bK HO_477000.out) hb);have n2_:=am (Kd.R_below (bK HO489.out) hb);have n3_:=am (bM BK468.out hb);have n4_:=am (bM BK476.out hb);have n5_:=am (bM BK494.out hb);have n6_:=am (below_step (bS3 GE468.out GE476.out GE494.out) hb);have n7_:=am (hbox);have n8_:=am ((by rw[hg];exact(below_size (bS3 GE468.out GE476.out GE494.out)):w.heap.size≤gb495));have n9_:=am ((by rw[hg];exact(below_size (bS3 GE468.out GE476.out GE494.out)):w.heap.size≤gb495));have n10_:=am ((bN BK468.out hg:gb468≠gb495));have n11_:=am ((bO BK468.out hg:gb495≠gb468));have n12_:=am ((bN BK476.out hg:gb476≠gb495));have n13_:=am ((bO BK476.out hg:gb495≠gb476));have n14_:=am ((bN BK494.out hg:gb494≠gb495));have n15_:=am ((bO BK494.out hg:gb495≠gb494));clear HO_469000 HO_477000 HO489 BK468 BK476 BK494 HB;have HO_469000:=n0_;have HO_477000:=n1_;have HO489:=n2_;have BK468:=n3_;have BK476:=n4_;have BK494:=n5_;have HB:=n6_;have BK495:=n7_;have GW495:=n8_;have GE495:=n9_;have NB468_495:=n10_;have NB495_468:=n11_;have NB476_495:=n12_;have NB495_476:=n13_;have NB494_495:=n14_;have NB495_494:=n15_;clear n0_ n1_ n2_ n3_ n4_ n5_ n6_ n7_ n8_ n9_ n10_ n11_ n12_ n13_ n14_ n15_;clear hb hbox hg;obtain⟨Ao105,co105,eo105⟩:=Kd.R_slice HO489.out;subst eo105;have hnb106:=NB494_468.out;have hnc106:=NB468_494.out;have hnb107:=NB494_476.out;have hnc107:=NB476_494.out;have hnb108:=NB494_495.out;have hnc108:=NB495_494.out;obtain⟨hcz109_0,hcz109_1,hcz109_2⟩:=cC3 BK494.out;obtain⟨hfz109_0,hfz109_1,hfz109_2⟩:=cF3 BK494.out;have hnb110:=NB495_468.out;have hnc110:=NB468_495.out;have hnb111:=NB495_476.out;have hnc111:=NB476_495.out;obtain⟨hcz112_0,hcz112_1⟩:=cC2 BK495.out;obtain⟨hfz112_0,hfz112_1⟩:=cF2 BK495.out)|((with_reducible refine gate_callee (f:=46) rfl ?_);refine goesA (some 141) rfl rfl Try.func46 #[.agg #[.slice Ao105 t487.length co105,.int .i64 t490,.bool t491],.agg #[.int .i64 t492,.int .i64 t493]] rfl ?_;(with_reducible refine(impl_MeetBoth.calls kj26 _ _ t487 t490 t491 t492 t493 t496 t499 t500 t501 _ ?side1 ?side2 A99.out).mono ?_);(case side1=>refine(Kd.R_reads' (e:=3) (base:=w.heap.size) (ok:=fun k_=>((True∧some k_≠(.slice Ao12 t461.length co12:Value).ownBlock)∧some k_≠(.slice Ao16 t469.length co16:Value).ownBlock)) (n:=t487.length) (c:=co105) ?_).2.2;exact(b9_));(case side2=>exact(Kd.R_reads' HO489.out).2.1);rintro e w113 ⟨v497,rfl,ho0,hb⟩;refine⟨_,rfl,?_⟩;have n0_:=am (Kd.R_elder' (b24_) (Kd.R_base ho0) hb);have n1_:=am (Kd.R_elder' (b25_) (Kd.R_base ho0) hb);have n2_:=am (Kd.R_elder' (b9_) (Kd.R_base ho0) hb);have n3_:=am (Kd.R_lower (Kd.R_new' (Kd.R_new' (Kd.R_new' ho0 (Kd.R_lt (b24_))) (Kd.R_lt (b25_))) (Kd.R_lt (b9_))) (below_size (bS4 GE468.out GE476.out GE494.out GE495.out)));have n4_:=am (blk_below (g:=gb468) (o:=.cells #[.slice Ao12 t461.length co12,.int .i64 t464,.bool t465] 62 (0,0)) (by(with_reducible repeat (first|refine blk_drewN ?_ _|refine blk_drew ?_|refine blk_alloc ?_ _));refine blk_far ?_ NB468_495.out _;(with_reducible repeat (first|refine blk_drewN ?_ _|refine blk_drew ?_|refine blk_alloc ?_ _));refine blk_far ?_ NB468_495.out _;(with_reducible repeat (first|refine blk_drewN ?_ _|refine blk_drew ?_|refine blk_alloc ?_ _));refine blk_far ?_ NB468_494.out _;(with_reducible repeat (first|refine blk_drewN ?_ _|refine blk_drew ?_|refine blk_alloc ?_ _));refine blk_far ?_ NB468_494.out _;(with_reducible repeat (first|refine blk_drewN ?_ _|refine blk_drew ?_|refine blk_alloc ?_ _));refine blk_far ?_ NB468_494.out _;(with_reducible repeat (first|refine blk_drewN ?_ _|refine blk_drew ?_|refine blk_alloc ?_ _));exact BK468.out) hb);have n5_:=am (blk_below (g:=gb476) (o:=.cells #[.slice Ao16 t469.length co16,.int .i64 t472,.bool t473] 62 (0,0)) (by(with_reducible repeat (first|refine blk_drewN ?_ _|refine blk_drew ?_|refine blk_alloc ?_ _));refine blk_far ?_ NB476_495.out _;(with_reducible repeat (first|refine blk_drewN ?_ _|refine blk_drew ?_|refine blk_alloc ?_ _));refine blk_far ?_ NB476_495.out _;(with_reducible repeat (first|refine blk_drewN ?_ _|refine blk_drew ?_|refine blk_alloc ?_ _));refine blk_far ?_ NB476_494.out _;(with_reducible repeat (first|refine blk_drewN ?_ _|refine blk_drew ?_|refine blk_alloc ?_ _));refine blk_far ?_ NB476_494.out _;(with_reducible repeat (first|refine blk_drewN ?_ _|refine blk_drew ?_|refine blk_alloc ?_ _));refine blk_far ?_ NB476_494.out _;(with_reducible repeat (first|refine blk_drewN ?_ _|refine blk_drew ?_|refine blk_alloc ?_ _));exact BK476.out) hb);have n6_:=am (blk_below (g:=gb494) (o:=.cells #[.slice Ao105 t487.length co105,.int .i64 t490,.bool t491] 62 (0,0)) (by(with_reducible repeat (first|refine blk_drewN ?_ _|refine blk_drew ?_|refine blk_alloc ?_ _));refine blk_far ?_ NB494_495.out _;(with_reducible repeat (first|refine blk_drewN ?_ _|refine blk_drew ?_|refine blk_alloc ?_ _));refine blk_far ?_ NB494_495.out _;(with_reducible repeat (first|refine blk_drewN ?_ _|refine blk_drew ?_|refine blk_alloc ?_ _));apply bU3;(with_reducible repeat (first|refine blk_drewN ?_ _|refine blk_drew ?_|refine blk_alloc ?_ _));exact BK494.out) hb);have n7_:=am (blk_below (g:=gb495) (o:=.cells #[.int .i64 t492,.int .i64 t493] 72 (0,0)) (by(with_reducible repeat (first|refine blk_drewN ?_ _|refine blk_drew ?_|refine blk_alloc ?_ _));apply bU2;(with_reducible repeat (first|refine blk_drewN ?_ _|refine blk_drew ?_|refine blk_alloc ?_ _));refine blk_far ?_ NB495_494.out _;(with_reducible repeat (first|refine blk_drewN ?_ _|refine blk_drew ?_|refine blk_alloc ?_ _));refine blk_far ?_ NB495_494.out _;(with_reducible repeat (first|refine blk_drewN ?_ _|refine blk_drew ?_|refine blk_alloc ?_ _));refine blk_far ?_ NB495_494.out _;(with_reducible repeat (first|refine blk_drewN ?_ _|refine blk_drew ?_|refine blk_alloc ?_ _));exact BK495.out) hb);have n8_:=am (below_step (bS4 GE468.out GE476.out GE494.out GE495.out) hb);clear HO_469000 HO_477000 HO489 BK468 BK476 BK494 BK495 HB;have HO_469000:=n0_;have HO_477000:=n1_;have HO489:=n2_;have HO498:=n3_;have BK468:=n4_;have BK476:=n5_;have BK494:=n6_;have BK495:=n7_;have HB:=n8_;clear n0_ n1_ n2_ n3_ n4_ n5_ n6_ n7_ n8_;(try clear hb);(try clear hb2);(try clear hk);(try clear hi);(try clear ho0))|((with_reducible refine gate_dst (N:=22) rfl ?_);(try (refine gate_guard (by rfl) ?_;dsimp only));refine box_event ?hg (N:=22) ?hd (cs:=#[.slice none 0 0,.int .i64 0,.bool false]) (t:=62) ?hr ?_;(case hd=>rfl);(case hg=>rfl);(case hr=>first|(go_simp;done)|(go_simp;rfl));intro gb502 hg w114 hbox hb;have n0_:=am (Kd.R_below (bK HO_469000.out) hb);have n1_:=am (Kd.R_below (bK HO_477000.out) hb);have n2_:=am (Kd.R_below (bK HO489.out) hb);have n3_:=am (Kd.R_below (bK HO498.out) hb);have n4_:=am (bM BK468.out hb);have n5_:=am (bM BK476.out hb);have n6_:=am (bM BK494.out hb);have n7_:=am (bM BK495.out hb);have n8_:=am (below_step (bS4 GE468.out GE476.out GE494.out GE495.out) hb);have n9_:=am (hbox);have n10_:=am ((by rw[hg];exact(below_size (bS4 GE468.out GE476.out GE494.out GE495.out)):w.heap.size≤gb502));have n11_:=am ((by rw[hg];exact(below_size (bS4 GE468.out GE476.out GE494.out GE495.out)):w.heap.size≤gb502));have n12_:=am ((bN BK468.out hg:gb468≠gb502));have n13_:=am ((bO BK468.out hg:gb502≠gb468));have n14_:=am ((bN BK476.out hg:gb476≠gb502));have n15_:=am ((bO BK476.out hg:gb502≠gb476));have n16_:=am ((bN BK494.out hg:gb494≠gb502));have n17_:=am ((bO BK494.out hg:gb502≠gb494));have n18_:=am ((bN BK495.out hg:gb495≠gb502));have n19_:=am ((bO BK495.out hg:gb502≠gb495));clear HO_469000 HO_477000 HO489 HO498 BK468 BK476 BK494 BK495 HB;have HO_469000:=n0_;have HO_477000:=n1_;have HO489:=n2_;have HO498:=n3_;have BK468:=n4_;have BK476:=n5_;have BK494:=n6_;have BK495:=n7_;have HB:=n8_;have BK502:=n9_;have GW502:=n10_;have GE502:=n11_;have NB468_502:=n12_;have NB502_468:=n13_;have NB476_502:=n14_;have NB502_476:=n15_;have NB494_502:=n16_;have NB502_494:=n17_;have NB495_502:=n18_;have NB502_495:=n19_;clear n0_ n1_ n2_ n3_ n4_ n5_ n6_ n7_ n8_ n9_ n10_ n11_ n12_ n13_ n14_ n15_ n16_ n17_ n18_ n19_;clear hb hbox hg;obtain⟨Ao115,co115,eo115⟩:=Kd.R_slice HO498.out;subst eo115;have hnb116:=NB502_468.out;have hnc116:=NB468_502.out;have hnb117:=NB502_476.out;have hnc117:=NB476_502.out;have hnb118:=NB502_494.out;have hnc118:=NB494_502.out;have hnb119:=NB502_495.out;have hnc119:=NB495_502.out;obtain⟨hcz120_0,hcz120_1,hcz120_2⟩:=cC3 BK502.out;obtain⟨hfz120_0,hfz120_1,hfz120_2⟩:=cF3 BK502.out;obtain⟨hcz121_0,hcz121_1,hcz121_2⟩:=cC3 BK494.out;obtain⟨hfz121_0,hfz121_1,hfz121_2⟩:=cF3 BK494.out;obtain⟨hcz122_0,hcz122_1⟩:=cC2 BK495.out;obtain⟨hfz122_0,hfz122_1⟩:=cF2 BK495.out)|((with_reducible refine gate_callee (f:=47) rfl ?_);refine goesA (some 147) rfl rfl Try.func47 #[.agg #[.slice Ao105 t487.length co105,.int .i64 t490,.bool t491],.agg #[.int .i64 t492,.int .i64 t493]] rfl ?_;(with_reducible refine(spec_MeetBoth.calls kj26 _ _ t487 t490 t491 t492 t493 t503 t506 t507 t508 _ ?side1 ?side2 A100.out).mono ?_);(case side1=>refine(Kd.R_reads' (e:=3) (base:=w.heap.size) (ok:=fun k_=>(((True∧some k_≠(.slice Ao12 t461.length co12:Value).ownBlock)∧some k_≠(.slice Ao16 t469.length co16:Value).ownBlock)∧some k_≠(.slice Ao115 t496.length co115:Value).ownBlock)) (n:=t487.length) (c:=co105) ?_).2.2;exact(b26_));(case side2=>exact(Kd.R_reads' HO489.out).2.1);rintro e w123 ⟨v504,rfl,ho0,hb⟩;refine⟨_,rfl,?_⟩;have n0_:=am (Kd.R_elder' (b34_) (Kd.R_base ho0) hb);have n1_:=am (Kd.R_elder' (b35_) (Kd.R_base ho0) hb);have n2_:=am (Kd.R_elder' (b26_) (Kd.R_base ho0) hb);have n3_:=am (Kd.R_elder' (b36_) (Kd.R_base ho0) hb);have n4_:=am (Kd.R_lower (Kd.R_new' (Kd.R_new' (Kd.R_new' (Kd.R_new' ho0 (Kd.R_lt (b34_))) (Kd.R_lt (b35_))) (Kd.R_lt (b26_))) (Kd.R_lt (b36_))) (below_size (bS5 GE468.out GE476.out GE494.out GE495.out GE502.out)));have n5_:=am (blk_below (g:=gb468) (o:=.cells #[.slice Ao12 t461.length co12,.int .i64 t464,.bool t465] 62 (0,0)) (by(with_reducible repeat (first|refine blk_drewN ?_ _|refine blk_drew ?_|refine blk_alloc ?_ _));refine blk_far ?_ NB468_502.out _;(with_reducible repeat (first|refine blk_drewN ?_ _|refine blk_drew ?_|refine blk_alloc ?_ _));refine blk_far ?_ NB468_502.out _;(with_reducible repeat (first|refine blk_drewN ?_ _|refine blk_drew ?_|refine blk_alloc ?_ _));refine blk_far ?_ NB468_502.out _;(with_reducible repeat (first|refine blk_drewN ?_ _|refine blk_drew ?_|refine blk_alloc ?_ _));exact BK468.out) hb);have n6_:=am (blk_below (g:=gb476) (o:=.cells #[.slice Ao16 t469.length co16,.int .i64 t472,.bool t473] 62 (0,0)) (by(with_reducible repeat (first|refine blk_drewN ?_ _|refine blk_drew ?_|refine blk_alloc ?_ _));refine blk_far ?_ NB476_502.out _;(with_reducible repeat (first|refine blk_drewN ?_ _|refine blk_drew ?_|refine blk_alloc ?_ _));refine blk_far ?_ NB476_502.out _;(with_reducible repeat (first|refine blk_drewN ?_ _|refine blk_drew ?_|refine blk_alloc ?_ _));refine blk_far ?_ NB476_502.out _;(with_reducible repeat (first|refine blk_drewN ?_ _|refine blk_drew ?_|refine blk_alloc ?_ _));exact BK476.out) hb);have n7_:=am (blk_below (g:=gb494) (o:=.cells #[.slice Ao105 t487.length co105,.int .i64 t490,.bool t491] 62 (0,0)) (by(with_reducible repeat (first|refine blk_drewN ?_ _|refine blk_drew ?_|refine blk_alloc ?_ _));refine blk_far ?_ NB494_502.out _;(with_reducible repeat (first|refine blk_drewN ?_ _|refine blk_drew ?_|refine blk_alloc ?_ _));refine blk_far ?_ NB494_502.out _;(with_reducible repeat (first|refine blk_drewN ?_ _|refine blk_drew ?_|refine blk_alloc ?_ _));refine blk_far ?_ NB494_502.out _;(with_reducible repeat (first|refine blk_drewN ?_ _|refine blk_drew ?_|refine blk_alloc ?_ _));exact BK494.out) hb);have n8_:=am (blk_below (g:=gb495) (o:=.cells #[.int .i64 t492,.int .i64 t493] 72 (0,0)) (by(with_reducible repeat (first|refine blk_drewN ?_ _|refine blk_drew ?_|refine blk_alloc ?_ _));refine blk_far ?_ NB495_502.out _;(with_reducible repeat (first|refine blk_drewN ?_ _|refine blk_drew ?_|refine blk_alloc ?_ _));refine blk_far ?_ NB495_502.out _;(with_reducible repeat (first|refine blk_drewN ?_ _|refine blk_drew ?_|refine blk_alloc ?_ _));refine blk_far ?_ NB495_502.out _;(with_reducible repeat (first|refine blk_drewN ?_ _|refine blk_drew ?_|refine blk_alloc ?_ _));exact BK495.out) hb);have n9_:=am (blk_below (g:=gb502) (o:=.cells #[.slice Ao115 t496.length co115,.int .i64 t499,.bool t500] 62 (0,0)) (by(with_reducible repeat (first|refine blk_drewN ?_ _|refine blk_drew ?_|refine blk_alloc ?_ _));apply bU3;(with_reducible repeat (first|refine blk_drewN ?_ _|refine blk_drew ?_|refine blk_alloc ?_ _));exact BK502.out) hb);have n10_:=am (below_step (bS5 GE468.out GE476.out GE494.out GE495.out GE502.out) hb);clear HO_469000 HO_477000 HO489 HO498 BK468 BK476 BK494 BK495 BK502 HB;have HO_469000:=n0_;have HO_477000:=n1_;have HO489:=n2_;have HO498:=n3_;have HO505:=n4_;have BK468:=n5_;have BK476:=n6_;have BK494:=n7_;have BK495:=n8_;have BK502:=n9_;have HB:=n10_;clear n0_ n1_ n2_ n3_ n4_ n5_ n6_ n7_ n8_ n9_ n10_;(try clear hb);(try clear hb2);(try clear hk);(try clear hi);(try clear ho0))|((with_reducible refine gate_dst (N:=24) rfl ?_);(try (refine gate_guard (by rfl) ?_;dsimp only));refine box_event ?hg (N:=24) ?hd (cs:=#[.slice none 0 0,.int .i64 0,.bool false]) (t:=62) ?hr ?_;(case hd=>rfl);(case hg=>rfl);(case hr=>first|(go_simp;done)|(go_simp;rfl));intro gb509 hg w124 hbox hb;have n0_:=am (Kd.R_below (bK HO_469000.out) hb);have n1_:=am (Kd.R_below (bK HO_477000.out) hb);have n2_:=am (Kd.R_below (bK HO489.out) hb);have n3_:=am (Kd.R_below (bK HO498.out) hb);have n4_:=am (Kd.R_below (bK HO505.out) hb);have n5_:=am (bM BK468.out hb);have n6_:=am (bM BK476.out hb);have n7_:=am (bM BK494.out hb);have n8_:=am (bM BK495.out hb);have n9_:=am (bM BK502.out hb);have n10_:=am (below_step (bS5 GE468.out GE476.out GE494.out GE495.out GE502.out) hb);have n11_:=am (hbox);have n12_:=am ((by rw[hg];exact(below_size (bS5 GE468.out GE476.out GE494.out GE495.out GE502.out)):w.heap.size≤gb509));have n13_:=am ((by rw[hg];exact(below_size (bS5 GE468.out GE476.out GE494.out GE495.out GE502.out)):w.heap.size≤gb509));have n14_:=am ((bN BK468.out hg:gb468≠gb509));have n15_:=am ((bO BK468.out hg:gb509≠gb468));have n16_:=am ((bN BK476.out hg:gb476≠gb509));have n17_:=am ((bO BK476.out hg:gb509≠gb476));have n18_:=am ((bN BK494.out hg:gb494≠gb509));have n19_:=am ((bO BK494.out hg:gb509≠gb494));have n20_:=am ((bN BK495.out hg:gb495≠gb509));have n21_:=am ((bO BK495.out hg:gb509≠gb495));have n22_:=am ((bN BK502.out hg:gb502≠gb509));have n23_:=am ((bO BK502.out hg:gb509≠gb502));clear HO_469000 HO_477000 HO489 HO498 HO505 BK468 BK476 BK494 BK495 BK502 HB;have HO_469000:=n0_;have HO_477000:=n1_;have HO489:=n2_;have HO498:=n3_;have HO505:=n4_;have BK468:=n5_;have BK476:=n6_;have BK494:=n7_;have BK495:=n8_;have BK502:=n9_;have HB:=n10_;have BK509:=n11_;have GW509:=n12_;have GE509:=n13_;have NB468_509:=n14_;have NB509_468:=n15_;have NB476_509:=n16_;have NB509_476:=n17_;have NB494_509:=n18_;have NB509_494:=n19_;have NB495_509:=n20_;have NB509_495:=n21_;have NB502_509:=n22_;have NB509_502:=n23_;clear n0_ n1_ n2_ n3_ n4_ n5_ n6_ n7_ n8_ n9_ n10_ n11_ n12_ n13_ n14_ n15_ n16_ n17_ n18_ n19_ n20_ n21_ n22_ n23_;clear hb hbox hg;obtain⟨Ao125,co125,eo125⟩:=Kd.R_slice HO505.out;subst eo125;have hnb126:=NB509_468.out;have hnc126:=NB468_509.out;have hnb127:=NB509_476.out;have hnc127:=NB476_509.out;have hnb128:=NB509_494.out;have hnc128:=NB494_509.out;have hnb129:=NB509_495.out;have hnc129:=NB495_509.out;have hnb130:=NB509_502.out;have hnc130:=NB502_509.out;obtain⟨hcz131_0,hcz131_1,hcz131_2⟩:=cC3 BK509.out;obtain⟨hfz131_0,hfz131_1,hfz131_2⟩:=cF3 BK509.out))
       (try simp only[Act.put,zA,zB,zC])
       go_cut [165] (fun v165 wc => ∃ (kq:Nat) (x165_100:Bool),v165=.bool x165_100∧Aside0 (laws_FnSpray.j2 kq t501 x165_100 t487 t490 t491 t496 t499 t500=some r)∧Aside0 (kq≤kj26)∧Aside0 (Kd.R (Kd.int .i64) 3 wc w.heap.size (fun k_=>some k_≠((.slice Ao16 t469.length co16):Value).ownBlock∧some k_≠((.slice Ao105 t487.length co105):Value).ownBlock∧some k_≠((.slice Ao115 t496.length co115):Value).ownBlock∧some k_≠((.slice Ao125 t503.length co125):Value).ownBlock) (.slice Ao12 t461.length co12) t461)∧Aside0 (Kd.R (Kd.int .i64) 3 wc w.heap.size (fun k_=>some k_≠((.slice Ao12 t461.length co12):Value).ownBlock∧some k_≠((.slice Ao105 t487.length co105):Value).ownBlock∧some k_≠((.slice Ao115 t496.length co115):Value).ownBlock∧some k_≠((.slice Ao125 t503.length co125):Value).ownBlock) (.slice Ao16 t469.length co16) t469)∧Aside0 (Kd.R (Kd.int .i64) 3 wc w.heap.size (fun k_=>some k_≠((.slice Ao12 t461.length co12):Value).ownBlock∧some k_≠((.slice Ao16 t469.length co16):Value).ownBlock∧some k_≠((.slice Ao115 t496.length co115):Value).ownBlock∧some k_≠((.slice Ao125 t503.length co125):Value).ownBlock) (.slice Ao105 t487.length co105) t487)∧Aside0 (Kd.R (Kd.int .i64) 3 wc w.heap.size (fun k_=>some k_≠((.slice Ao12 t461.length co12):Value).ownBlock∧some k_≠((.slice Ao16 t469.length co16):Value).ownBlock∧some k_≠((.slice Ao105 t487.length co105):Value).ownBlock∧some k_≠((.slice Ao125 t503.length co125):Value).ownBlock) (.slice Ao115 t496.length co115) t496)∧Aside0 (Kd.R (Kd.int .i64) 3 wc w.heap.size (fun k_=>some k_≠((.slice Ao12 t461.length co12):Value).ownBlock∧some k_≠((.slice Ao16 t469.length co16):Value).ownBlock∧some k_≠((.slice Ao105 t487.length co105):Value).ownBlock∧some k_≠((.slice Ao115 t496.length co115):Value).ownBlock) (.slice Ao125 t503.length co125) t503)∧Aside0 (wc.heap[gb468]?=some (.cells #[(.slice Ao12 t461.length co12),.int .i64 t464,.bool t465] 62 (0,0)))∧Aside0 (wc.heap[gb476]?=some (.cells #[(.slice Ao16 t469.length co16),.int .i64 t472,.bool t473] 62 (0,0)))∧Aside0 (wc.heap[gb494]?=some (.cells #[(.slice Ao105 t487.length co105),.int .i64 t490,.bool t491] 62 (0,0)))∧Aside0 (wc.heap[gb495]?=some (.cells #[.int .i64 t492,.int .i64 t493] 72 (0,0)))∧Aside0 (wc.heap[gb502]?=some (.cells #[(.slice Ao115 t496.length co115),.int .i64 t499,.bool t500] 62 (0,0)))∧Aside0 (wc.heap[gb509]?=some (.cells #[(.slice Ao125 t503.length co125),.int .i64 t506,.bool t507] 62 (0,0)))∧Aside0 (Below w.heap.size w wc))
       case first =>
        have H:=HC101.out
        clear HC101
        by_cases c132:(t501 != t508)=true
        ·as_aux_lemma =>
          rw[if_pos c132] at H
          have c132b0:(t501 != t508)=true:=c132
          (try (have c132b1:decide (t501=t508)=false:=by simpa using c132))
          (try (have c132b2:(t501 == t508)=false:=by simpa using c132))
          (try (have c132b3 : ¬ (t501=t508):=by simpa using c132))
          clear c132
          (first|rw[c132b0]|(simp only[i64_w,i32_w];rw[c132b0])|skip)
          have H':=am H
          clear H
          try go_wp2
          have n0_:Aside0 (Kd.R (Kd.int .i64) 3 (((w124.setCell ⟨gb509,0,none⟩ (.slice Ao125 t503.length co125)).setCell ⟨gb509,1,none⟩ (.int .i64 t506)).setCell ⟨gb509,2,none⟩ (.bool t507)) w.heap.size (fun k_=>some k_≠(.slice Ao16 t469.length co16:Value).ownBlock∧some k_≠(.slice Ao105 t487.length co105:Value).ownBlock∧some k_≠(.slice Ao115 t496.length co115:Value).ownBlock∧some k_≠(.slice Ao125 t503.length co125:Value).ownBlock) (.slice Ao12 t461.length co12) t461):=⟨by(with_reducible repeat (first|apply Kd.R_alloc|apply Kd.R_drewN|apply Kd.R_drew));exact Kd.R_mono (Kd.R_far (p:=⟨gb509,2,none⟩) (Kd.R_far (p:=⟨gb509,1,none⟩) (Kd.R_far (p:=⟨gb509,0,none⟩) (Kd.R_types HO_469000.out BK509.out (b17_)) (fun _ hk=>hk.2) (.slice Ao125 t503.length co125)) (fun _ hk=>hk.2) (.int .i64 t506)) (fun _ hk=>hk.2) (.bool t507)) (fun _ hk=>⟨hk.1.1.1.1,⟨hk.1.1.1.2,⟨hk.1.1.2,hk.1.2⟩⟩⟩)⟩
          have n1_:Aside0 (Kd.R (Kd.int .i64) 3 (((w124.setCell ⟨gb509,0,none⟩ (.slice Ao125 t503.length co125)).setCell ⟨gb509,1,none⟩ (.int .i64 t506)).setCell ⟨gb509,2,none⟩ (.bool t507)) w.heap.size (fun k_=>some k_≠(.slice Ao12 t461.length co12:Value).ownBlock∧some k_≠(.slice Ao105 t487.length co105:Value).ownBlock∧some k_≠(.slice Ao115 t496.length co115:Value).ownBlock∧some k_≠(.slice Ao125 t503.length co125:Value).ownBlock) (.slice Ao16 t469.length co16) t469):=⟨by(with_reducible repeat (first|apply Kd.R_alloc|apply Kd.R_drewN|apply Kd.R_drew));exact Kd.R_mono (Kd.R_far (p:=⟨gb509,2,none⟩) (Kd.R_far (p:=⟨gb509,1,none⟩) (Kd.R_far (p:=⟨gb509,0,none⟩) (Kd.R_types HO_477000.out BK509.out (b17_)) (fun _ hk=>hk.2) (.slice Ao125 t503.length co125)) (fun _ hk=>hk.2) (.int .i64 t506)) (fun _ hk=>hk.2) (.bool t507)) (fun _ hk=>⟨hk.1.1.1.1,⟨hk.1.1.1.2,⟨hk.1.1.2,hk.1.2⟩⟩⟩)⟩
          have n2_:Aside0 (Kd.R (Kd.int .i64) 3 (((w124.setCell ⟨gb509,0,none⟩ (.slice Ao125 t503.length co125)).setCell ⟨gb509,1,none⟩ (.int .i64 t506)).setCell ⟨gb509,2,none⟩ (.bool t507)) w.heap.size (fun k_=>some k_≠(.slice Ao12 t461.length co12:Value).ownBlock∧some k_≠(.slice Ao16 t469.length co16:Value).ownBlock∧some k_≠(.slice Ao115 t496.length co115:Value).ownBlock∧some k_≠(.slice Ao125 t503.length co125:Value).ownBlock) (.slice Ao105 t487.length co105) t487):=⟨by(with_reducible repeat (first|apply Kd.R_alloc|apply Kd.R_drewN|apply Kd.R_drew));exact Kd.R_mono (Kd.R_far (p:=⟨gb509,2,none⟩) (Kd.R_far (p:=⟨gb509,1,none⟩) (Kd.R_far (p:=⟨gb509,0,none⟩) (Kd.R_types HO489.out BK509.out (b17_)) (fun _ hk=>hk.2) (.slice Ao125 t503.length co125)) (fun _ hk=>hk.2) (.int .i64 t506)) (fun _ hk=>hk.2) (.bool t507)) (fun _ hk=>⟨hk.1.1.1.1.2,⟨hk.1.1.1.2,⟨hk.1.1.2,hk.1.2⟩⟩⟩)⟩
          have n3_:Aside0 (Kd.R (Kd.int .i64) 3 (((w124.setCell ⟨gb509,0,none⟩ (.slice Ao125 t503.length co125)).setCell ⟨gb509,1,none⟩ (.int .i64 t506)).setCell ⟨gb509,2,none⟩ (.bool t507)) w.heap.size (fun k_=>some k_≠(.slice Ao12 t461.length co12:Value).ownBlock∧some k_≠(.slice Ao16 t469.length co16:Value).ownBlock∧some k_≠(.slice Ao105 t487.length co105:Value).ownBlock∧some k_≠(.slice Ao125 t503.length co125:Value).ownBlock) (.slice Ao115 t496.length co115) t496):=⟨by(with_reducible repeat (first|apply Kd.R_alloc|apply Kd.R_drewN|apply Kd.R_drew));exact Kd.R_mono (Kd.R_far (p:=⟨gb509,2,none⟩) (Kd.R_far (p:=⟨gb509,1,none⟩) (Kd.R_far (p:=⟨gb509,0,none⟩) (Kd.R_types HO498.out BK509.out (b17_)) (fun _ hk=>hk.2) (.slice Ao125 t503.length co125)) (fun _ hk=>hk.2) (.int .i64 t506)) (fun _ hk=>hk.2) (.bool t507)) (fun _ hk=>⟨hk.1.1.1.1.2,⟨hk.1.1.1.2,⟨hk.1.1.2,hk.1.2⟩⟩⟩)⟩
          have n4_:Aside0 (Kd.R (Kd.int .i64) 3 (((w124.setCell ⟨gb509,0,none⟩ (.slice Ao125 t503.length co125)).setCell ⟨gb509,1,none⟩ (.int .i64 t506)).setCell ⟨gb509,2,none⟩ (.bool t507)) w.heap.size (fun k_=>some k_≠(.slice Ao12 t461.length co12:Value).ownBlock∧some k_≠(.slice Ao16 t469.length co16:Value).ownBlock∧some k_≠(.slice Ao105 t487.length co105:Value).ownBlock∧some k_≠(.slice Ao115 t496.length co115:Value).ownBlock) (.slice Ao125 t503.length co125) t503):=⟨by(with_reducible repeat (first|apply Kd.R_alloc|apply Kd.R_drewN|apply Kd.R_drew));exact Kd.R_mono (Kd.R_far (p:=⟨gb509,2,none⟩) (Kd.R_far (p:=⟨gb509,1,none⟩) (Kd.R_far (p:=⟨gb509,0,none⟩) (Kd.R_types HO505.out BK509.out (b17_)) (fun _ hk=>hk.2) (.slice Ao125 t503.length co125)) (fun _ hk=>hk.2) (.int .i64 t506)) (fun _ hk=>hk.2) (.bool t507)) (fun _ hk=>⟨hk.1.1.1.1.2,⟨hk.1.1.1.2,⟨hk.1.1.2,hk.1.2⟩⟩⟩)⟩
          have n5_:Aside0 ((((w124.setCell ⟨gb509,0,none⟩ (.slice Ao125 t503.length co125)).setCell ⟨gb509,1,none⟩ (.int .i64 t506)).setCell ⟨gb509,2,none⟩ (.bool t507)).heap[gb468]?=some (.cells #[.slice Ao12 t461.length co12,.int .i64 t464,.bool t465] 62 (0,0))):=⟨by(with_reducible repeat (first|refine blk_drewN ?_ _|refine blk_drew ?_|refine blk_alloc ?_ _));refine blk_far ?_ NB468_509.out _;(with_reducible repeat (first|refine blk_drewN ?_ _|refine blk_drew ?_|refine blk_alloc ?_ _));refine blk_far ?_ NB468_509.out _;(with_reducible repeat (first|refine blk_drewN ?_ _|refine blk_drew ?_|refine blk_alloc ?_ _));refine blk_far ?_ NB468_509.out _;(with_reducible repeat (first|refine blk_drewN ?_ _|refine blk_drew ?_|refine blk_alloc ?_ _));exact BK468.out⟩
          have n6_:Aside0 ((((w124.setCell ⟨gb509,0,none⟩ (.slice Ao125 t503.length co125)).setCell ⟨gb509,1,none⟩ (.int .i64 t506)).setCell ⟨gb509,2,none⟩ (.bool t507)).heap[gb476]?=some (.cells #[.slice Ao16 t469.length co16,.int .i64 t472,.bool t473] 62 (0,0))):=⟨by(with_reducible repeat (first|refine blk_drewN ?_ _|refine blk_drew ?_|refine blk_alloc ?_ _));refine blk_far ?_ NB476_509.out _;(with_reducible repeat (first|refine blk_drewN ?_ _|refine blk_drew ?_|refine blk_alloc ?_ _));refine blk_far ?_ NB476_509.out _;(with_reducible repeat (first|refine blk_drewN ?_ _|refine blk_drew ?_|refine blk_alloc ?_ _));refine blk_far ?_ NB476_509.out _;(with_reducible repeat (first|refine blk_drewN ?_ _|refine blk_drew ?_|refine blk_alloc ?_ _));exact BK476.out⟩
          have n7_:Aside0 ((((w124.setCell ⟨gb509,0,none⟩ (.slice Ao125 t503.length co125)).setCell ⟨gb509,1,none⟩ (.int .i64 t506)).setCell ⟨gb509,2,none⟩ (.bool t507)).heap[gb494]?=some (.cells #[.slice Ao105 t487.length co105,.int .i64 t490,.bool t491] 62 (0,0))):=⟨by(with_reducible repeat (first|refine blk_drewN ?_ _|refine blk_drew ?_|refine blk_alloc ?_ _));refine blk_far ?_ NB494_509.out _;(with_reducible repeat (first|refine blk_drewN ?_ _|refine blk_drew ?_|refine blk_alloc ?_ _));refine blk_far ?_ NB494_509.out _;(with_reducible repeat (first|refine blk_drewN ?_ _|refine blk_drew ?_|refine blk_alloc ?_ _));refine blk_far ?_ NB494_509.out _;(with_reducible repeat (first|refine blk_drewN ?_ _|refine blk_drew ?_|refine blk_alloc ?_ _));exact BK494.out⟩
          have n8_:Aside0 ((((w124.setCell ⟨gb509,0,none⟩ (.slice Ao125 t503.length co125)).setCell ⟨gb509,1,none⟩ (.int .i64 t506)).setCell ⟨gb509,2,none⟩ (.bool t507)).heap[gb495]?=some (.cells #[.int .i64 t492,.int .i64 t493] 72 (0,0))):=⟨by(with_reducible repeat (first|refine blk_drewN ?_ _|refine blk_drew ?_|refine blk_alloc ?_ _));refine blk_far ?_ NB495_509.out _;(with_reducible repeat (first|refine blk_drewN ?_ _|refine blk_drew ?_|refine blk_alloc ?_ _));refine blk_far ?_ NB495_509.out _;(with_reducible repeat (first|refine blk_drewN ?_ _|refine blk_drew ?_|refine blk_alloc ?_ _));refine blk_far ?_ NB495_509.out _;(with_reducible repeat (first|refine blk_drewN ?_ _|refine blk_drew ?_|refine blk_alloc ?_ _));exact BK495.out⟩
          have n9_:Aside0 ((((w124.setCell ⟨gb509,0,none⟩ (.slice Ao125 t503.length co125)).setCell ⟨gb509,1,none⟩ (.int .i64 t506)).setCell ⟨gb509,2,none⟩ (.bool t507)).heap[gb502]?=some (.cells #[.slice Ao115 t496.length co115,.int .i64 t499,.bool t500] 62 (0,0))):=⟨by(with_reducible repeat (first|refine blk_drewN ?_ _|refine blk_drew ?_|refine blk_alloc ?_ _));refine blk_far ?_ NB502_509.out _;(with_reducible repeat (first|refine blk_drewN ?_ _|refine blk_drew ?_|refine blk_alloc ?_ _));refine blk_far ?_ NB502_509.out _;(with_reducible repeat (first|refine blk_drewN ?_ _|refine blk_drew ?_|refine blk_alloc ?_ _));refine blk_far ?_ NB502_509.out _;(with_reducible repeat (first|refine blk_drewN ?_ _|refine blk_drew ?_|refine blk_alloc ?_ _));exact BK502.out⟩
          have n10_:Aside0 ((((w124.setCell ⟨gb509,0,none⟩ (.slice Ao125 t503.length co125)).setCell ⟨gb509,1,none⟩ (.int .i64 t506)).setCell ⟨gb509,2,none⟩ (.bool t507)).heap[gb509]?=some (.cells #[.slice Ao125 t503.length co125,.int .i64 t506,.bool t507] 62 (0,0))):=⟨by(with_reducible repeat (first|refine blk_drewN ?_ _|refine blk_drew ?_|refine blk_alloc ?_ _));apply bU3;(with_reducible repeat (first|refine blk_drewN ?_ _|refine blk_drew ?_|refine blk_alloc ?_ _));exact BK509.out⟩
          have n11_:Aside0 (Below w.heap.size w (((w124.setCell ⟨gb509,0,none⟩ (.slice Ao125 t503.length co125)).setCell ⟨gb509,1,none⟩ (.int .i64 t506)).setCell ⟨gb509,2,none⟩ (.bool t507))):=⟨bS6 GE468.out GE476.out GE494.out GE495.out GE502.out GE509.out⟩
          (try clear HO_469000)
          (try clear HO_477000)
          (try clear HO489)
          (try clear HO498)
          (try clear HO505)
          (try clear BK468)
          (try clear BK476)
          (try clear BK494)
          (try clear BK495)
          (try clear BK502)
          (try clear BK509)
          (try clear HB)
          generalize (((w124.setCell ⟨gb509,0,none⟩ (.slice Ao125 t503.length co125)).setCell ⟨gb509,1,none⟩ (.int .i64 t506)).setCell ⟨gb509,2,none⟩ (.bool t507))=w133 at n0_ n1_ n2_ n3_ n4_ n5_ n6_ n7_ n8_ n9_ n10_ n11_ ⊢
          have HO_469000:=n0_
          have HO_477000:=n1_
          have HO489:=n2_
          have HO498:=n3_
          have HO505:=n4_
          have BK468:=n5_
          have BK476:=n6_
          have BK494:=n7_
          have BK495:=n8_
          have BK502:=n9_
          have BK509:=n10_
          have HB:=n11_
          clear n0_ n1_ n2_ n3_ n4_ n5_ n6_ n7_ n8_ n9_ n10_ n11_
          (try (rw[drewN_self w133];generalize hq_:World.drewN w133 _=w133;have n0_:=am (Kd.R_at hq_ HO_469000.out);have n1_:=am (Kd.R_at hq_ HO_477000.out);have n2_:=am (Kd.R_at hq_ HO489.out);have n3_:=am (Kd.R_at hq_ HO498.out);have n4_:=am (Kd.R_at hq_ HO505.out);have n5_:=am (blk_at hq_ BK468.out);have n6_:=am (blk_at hq_ BK476.out);have n7_:=am (blk_at hq_ BK494.out);have n8_:=am (blk_at hq_ BK495.out);have n9_:=am (blk_at hq_ BK502.out);have n10_:=am (blk_at hq_ BK509.out);have n11_:=am (below_at hq_ HB.out);clear hq_ HO_469000 HO_477000 HO489 HO498 HO505 BK468 BK476 BK494 BK495 BK502 BK509 HB;have HO_469000:=n0_;have HO_477000:=n1_;have HO489:=n2_;have HO498:=n3_;have HO505:=n4_;have BK468:=n5_;have BK476:=n6_;have BK494:=n7_;have BK495:=n8_;have BK502:=n9_;have BK509:=n10_;have HB:=n11_;clear n0_ n1_ n2_ n3_ n4_ n5_ n6_ n7_ n8_ n9_ n10_ n11_))
          have n0_:=am (Kd.R_drew HO_469000.out)
          have n1_:=am (Kd.R_drew HO_477000.out)
          have n2_:=am (Kd.R_drew HO489.out)
          have n3_:=am (Kd.R_drew HO498.out)
          have n4_:=am (Kd.R_drew HO505.out)
          have n5_:=am (blk_drew BK468.out)
          have n6_:=am (blk_drew BK476.out)
          have n7_:=am (blk_drew BK494.out)
          have n8_:=am (blk_drew BK495.out)
          have n9_:=am (blk_drew BK502.out)
          have n10_:=am (blk_drew BK509.out)
          have n11_:=am (below_drew1 HB.out)
          clear HO_469000 HO_477000 HO489 HO498 HO505 BK468 BK476 BK494 BK495 BK502 BK509 HB
          have HO_469000:=n0_
          have HO_477000:=n1_
          have HO489:=n2_
          have HO498:=n3_
          have HO505:=n4_
          have BK468:=n5_
          have BK476:=n6_
          have BK494:=n7_
          have BK495:=n8_
          have BK502:=n9_
          have BK509:=n10_
          have HB:=n11_
          clear n0_ n1_ n2_ n3_ n4_ n5_ n6_ n7_ n8_ n9_ n10_ n11_
          refine start_ (n:=16) (S:=fun w'=>True) (ds:=[]) #[false,false,false,false,false,false,false,false,false,false,false,false,false,false,false,false] (b4_) rfl rfl trivial (fun hHeld => ?_);refine with_tabW laws_FnSpray.tab16 laws_FnSpray.bits16 (fun HT_ HW_ => ?_)
          generalize w133.drew=w134 at HO_469000 HO_477000 HO489 HO498 HO505 BK468 BK476 BK494 BK495 BK502 BK509 HB hHeld ⊢
          refine pure_ (i:=0) (N:=some 150) (v:=?_) (a':=?_) #[true,false,false,false,false,false,false,false,false,false,false,false,false,false,false,false] rfl rfl (any_of HT_.out (b4_)) (fun _ _ _ h=>h) (Or.inl ⟨by rfl,?_⟩) ?_ ?_
          rotate_left
          ·intro w'
           go_simp
           with_reducible rfl
          rotate_left
          ·simp only[Act.put,zA,zB,zC,i64_w,i32_w]
           rfl
          refine pure_ (i:=1) (N:=some 151) (v:=?_) (a':=?_) #[true,true,false,false,false,false,false,false,false,false,false,false,false,false,false,false] rfl rfl (any_of HT_.out (b4_)) (fun _ _ _ h=>h) (Or.inl ⟨by rfl,?_⟩) ?_ ?_
          rotate_left
          ·intro w'
           go_simp
           with_reducible rfl
          rotate_left
          ·simp only[Act.put,zA,zB,zC,i64_w,i32_w]
           rfl
          refine pure_ (i:=2) (N:=some 152) (v:=?_) (a':=?_) #[true,true,true,false,false,false,false,false,false,false,false,false,false,false,false,false] rfl rfl (any_of HT_.out (b4_)) (fun _ _ _ h=>h) (Or.inl ⟨by rfl,?_⟩) ?_ ?_
          rotate_left
          ·intro w'
           go_simp
           with_reducible rfl
          rotate_left
          ·simp only[Act.put,zA,zB,zC,i64_w,i32_w]
           rfl
          refine pure_ (i:=3) (N:=some 153) (v:=?_) (a':=?_) #[true,true,true,true,false,false,false,false,false,false,false,false,false,false,false,false] rfl rfl (any_of HT_.out (b4_)) (fun _ _ _ h=>h) (Or.inl ⟨by rfl,?_⟩) ?_ ?_
          rotate_left
          ·intro w'
           go_simp
           with_reducible rfl
          rotate_left
          ·simp only[Act.put,zA,zB,zC,i64_w,i32_w]
           rfl
          refine pure_ (i:=4) (N:=some 154) (v:=undef) (a':=?_) #[true,true,true,true,true,false,false,false,false,false,false,false,false,false,false,false] rfl rfl (any_of HT_.out (b4_)) (fun _ _ _ h=>h) (Or.inr ⟨by rfl,rfl⟩) ?_ ?_
          rotate_left
          ·simp only[Act.put,zA,zB,zC,i64_w,i32_w]
           rfl
          refine pure_ (i:=5) (N:=some 155) (v:=undef) (a':=?_) #[true,true,true,true,true,true,false,false,false,false,false,false,false,false,false,false] rfl rfl (any_of HT_.out (b4_)) (fun _ _ _ h=>h) (Or.inr ⟨by rfl,rfl⟩) ?_ ?_
          rotate_left
          ·simp only[Act.put,zA,zB,zC,i64_w,i32_w]
           rfl
          refine pure_ (i:=6) (N:=some 156) (v:=undef) (a':=?_) #[true,true,true,true,true,true,true,false,false,false,false,false,false,false,false,false] rfl rfl (any_of HT_.out (b4_)) (fun _ _ _ h=>h) (Or.inr ⟨by rfl,rfl⟩) ?_ ?_
          rotate_left
          ·simp only[Act.put,zA,zB,zC,i64_w,i32_w]
           rfl
          refine pure_ (i:=7) (N:=some 157) (v:=undef) (a':=?_) #[true,true,true,true,true,true,true,true,false,false,false,false,false,false,false,false] rfl rfl (any_of HT_.out (b4_)) (fun _ _ _ h=>h) (Or.inr ⟨by rfl,rfl⟩) ?_ ?_
          rotate_left
          ·simp only[Act.put,zA,zB,zC,i64_w,i32_w]
           rfl
          refine pure_ (i:=8) (N:=some 158) (v:=?_) (a':=?_) #[true,true,true,true,true,true,true,true,true,false,false,false,false,false,false,false] rfl rfl (any_of HT_.out (b4_)) (fun _ _ _ h=>h) (Or.inl ⟨by rfl,?_⟩) ?_ ?_
          rotate_left
          ·intro w'
           go_simp
           with_reducible rfl
          rotate_left
          ·simp only[Act.put,zA,zB,zC,i64_w,i32_w]
           rfl
          refine pure_ (i:=9) (N:=some 159) (v:=?_) (a':=?_) #[true,true,true,true,true,true,true,true,true,true,false,false,false,false,false,false] rfl rfl (any_of HT_.out (b4_)) (fun _ _ _ h=>h) (Or.inl ⟨by rfl,?_⟩) ?_ ?_
          rotate_left
          ·intro w'
           go_simp
           with_reducible rfl
          rotate_left
          ·simp only[Act.put,zA,zB,zC,i64_w,i32_w]
           rfl
          refine pure_ (i:=10) (N:=some 160) (v:=undef) (a':=?_) #[true,true,true,true,true,true,true,true,true,true,true,false,false,false,false,false] rfl rfl (any_of HT_.out (b4_)) (fun _ _ _ h=>h) (Or.inr ⟨by rfl,rfl⟩) ?_ ?_
          rotate_left
          ·simp only[Act.put,zA,zB,zC,i64_w,i32_w]
           rfl
          refine pure_ (i:=11) (N:=some 161) (v:=undef) (a':=?_) #[true,true,true,true,true,true,true,true,true,true,true,true,false,false,false,false] rfl rfl (any_of HT_.out (b4_)) (fun _ _ _ h=>h) (Or.inr ⟨by rfl,rfl⟩) ?_ ?_
          rotate_left
          ·simp only[Act.put,zA,zB,zC,i64_w,i32_w]
           rfl
          refine pure_ (i:=12) (N:=some 162) (v:=undef) (a':=?_) #[true,true,true,true,true,true,true,true,true,true,true,true,true,false,false,false] rfl rfl (any_of HT_.out (b4_)) (fun _ _ _ h=>h) (Or.inr ⟨by rfl,rfl⟩) ?_ ?_
          rotate_left
          ·simp only[Act.put,zA,zB,zC,i64_w,i32_w]
           rfl
          refine pure_ (i:=13) (N:=some 163) (v:=undef) (a':=?_) #[true,true,true,true,true,true,true,true,true,true,true,true,true,true,false,false] rfl rfl (any_of HT_.out (b4_)) (fun _ _ _ h=>h) (Or.inr ⟨by rfl,rfl⟩) ?_ ?_
          rotate_left
          ·simp only[Act.put,zA,zB,zC,i64_w,i32_w]
           rfl
          refine pure_ (i:=14) (N:=some 164) (v:=undef) (a':=?_) #[true,true,true,true,true,true,true,true,true,true,true,true,true,true,true,false] rfl rfl (any_of HT_.out (b4_)) (fun _ _ _ h=>h) (Or.inr ⟨by rfl,rfl⟩) ?_ ?_
          rotate_left
          ·simp only[Act.put,zA,zB,zC,i64_w,i32_w]
           rfl
          refine pure_ (i:=15) (N:=some 165) (v:=?_) (a':=?_) #[true,true,true,true,true,true,true,true,true,true,true,true,true,true,true,true] rfl rfl (any_of HT_.out (b4_)) (fun _ _ _ h=>h) (Or.inl ⟨by rfl,?_⟩) ?_ ?_
          rotate_left
          ·intro w'
           go_simp
           with_reducible rfl
          rotate_left
          ·simp only[Act.put,zA,zB,zC,i64_w,i32_w]
           rfl
          refine done_ (done_of HT_.out (b4_)) ?_
          try go_wp2
          go_meet
          case rel=>exact⟨_,(true),(bR),H',⟨by have:=HJ6.out;have:=HJ26.out;first|omega|exact Nat.le_refl _⟩,⟨by(with_reducible repeat (first|apply Kd.R_alloc|apply Kd.R_drewN|apply Kd.R_drew));exact HO_469000.out⟩,⟨by(with_reducible repeat (first|apply Kd.R_alloc|apply Kd.R_drewN|apply Kd.R_drew));exact HO_477000.out⟩,⟨by(with_reducible repeat (first|apply Kd.R_alloc|apply Kd.R_drewN|apply Kd.R_drew));exact HO489.out⟩,⟨by(with_reducible repeat (first|apply Kd.R_alloc|apply Kd.R_drewN|apply Kd.R_drew));exact HO498.out⟩,⟨by(with_reducible repeat (first|apply Kd.R_alloc|apply Kd.R_drewN|apply Kd.R_drew));exact HO505.out⟩,⟨by(with_reducible repeat (first|refine blk_drewN ?_ _|refine blk_drew ?_|refine blk_alloc ?_ _));exact BK468.out⟩,⟨by(with_reducible repeat (first|refine blk_drewN ?_ _|refine blk_drew ?_|refine blk_alloc ?_ _));exact BK476.out⟩,⟨by(with_reducible repeat (first|refine blk_drewN ?_ _|refine blk_drew ?_|refine blk_alloc ?_ _));exact BK494.out⟩,⟨by(with_reducible repeat (first|refine blk_drewN ?_ _|refine blk_drew ?_|refine blk_alloc ?_ _));exact BK495.out⟩,⟨by(with_reducible repeat (first|refine blk_drewN ?_ _|refine blk_drew ?_|refine blk_alloc ?_ _));exact BK502.out⟩,⟨by(with_reducible repeat (first|refine blk_drewN ?_ _|refine blk_drew ?_|refine blk_alloc ?_ _));exact BK509.out⟩,⟨bS6 GE468.out GE476.out GE494.out GE495.out GE502.out GE509.out⟩⟩
        ·rw[if_neg c132] at H
         have c132b0:(t501 != t508)=false:=by simpa using c132
         (try (have c132b1:decide (t501=t508)=true:=by simpa using c132))
         (try (have c132b2:(t501 == t508)=true:=by simpa using c132))
         clear c132
         (first|rw[c132b0]|(simp only[i64_w,i32_w];rw[c132b0])|skip)
         replace H:=bI_ H
         obtain⟨t510,A1350,H⟩:=H
         have A135:=am A1350
         clear A1350
         by_cases c136:t510=true
         ·as_aux_lemma =>
           subst c136
           have H1:((impl_GoodSpray.f kj26 t487 t490 t491).bind fun t511=>((spec_GoodSpray.f kj26 t487 t490 t491).bind fun t512=>(laws_FnSpray.j2 kj26 t501 (t511 != t512) t487 t490 t491 t496 t499 t500)))=some r:=by rw[if_pos rfl] at H;exact H
           clear H
           have H:=H1
           clear H1
           replace H:=bI_ H
           obtain⟨t511,A1370,H⟩:=H
           have A137:=am A1370
           clear A1370
           replace H:=bI_ H
           obtain⟨t512,A1380,H⟩:=H
           have A138:=am A1380
           clear A1380
           have H':=am H
           clear H
           try go_wp2
           have n0_:Aside0 (Kd.R (Kd.int .i64) 3 (((w124.setCell ⟨gb509,0,none⟩ (.slice Ao125 t503.length co125)).setCell ⟨gb509,1,none⟩ (.int .i64 t506)).setCell ⟨gb509,2,none⟩ (.bool t507)) w.heap.size (fun k_=>some k_≠(.slice Ao16 t469.length co16:Value).ownBlock∧some k_≠(.slice Ao105 t487.length co105:Value).ownBlock∧some k_≠(.slice Ao115 t496.length co115:Value).ownBlock∧some k_≠(.slice Ao125 t503.length co125:Value).ownBlock) (.slice Ao12 t461.length co12) t461):=⟨by(with_reducible repeat (first|apply Kd.R_alloc|apply Kd.R_drewN|apply Kd.R_drew));exact Kd.R_mono (Kd.R_far (p:=⟨gb509,2,none⟩) (Kd.R_far (p:=⟨gb509,1,none⟩) (Kd.R_far (p:=⟨gb509,0,none⟩) (Kd.R_types HO_469000.out BK509.out (b17_)) (fun _ hk=>hk.2) (.slice Ao125 t503.length co125)) (fun _ hk=>hk.2) (.int .i64 t506)) (fun _ hk=>hk.2) (.bool t507)) (fun _ hk=>⟨hk.1.1.1.1,⟨hk.1.1.1.2,⟨hk.1.1.2,hk.1.2⟩⟩⟩)⟩
           have n1_:Aside0 (Kd.R (Kd.int .i64) 3 (((w124.setCell ⟨gb509,0,none⟩ (.slice Ao125 t503.length co125)).setCell ⟨gb509,1,none⟩ (.int .i64 t506)).setCell ⟨gb509,2,none⟩ (.bool t507)) w.heap.size (fun k_=>some k_≠(.slice Ao12 t461.length co12:Value).ownBlock∧some k_≠(.slice Ao105 t487.length co105:Value).ownBlock∧some k_≠(.slice Ao115 t496.length co115:Value).ownBlock∧some k_≠(.slice Ao125 t503.length co125:Value).ownBlock) (.slice Ao16 t469.length co16) t469):=⟨by(with_reducible repeat (first|apply Kd.R_alloc|apply Kd.R_drewN|apply Kd.R_drew));exact Kd.R_mono (Kd.R_far (p:=⟨gb509,2,none⟩) (Kd.R_far (p:=⟨gb509,1,none⟩) (Kd.R_far (p:=⟨gb509,0,none⟩) (Kd.R_types HO_477000.out BK509.out (b17_)) (fun _ hk=>hk.2) (.slice Ao125 t503.length co125)) (fun _ hk=>hk.2) (.int .i64 t506)) (fun _ hk=>hk.2) (.bool t507)) (fun _ hk=>⟨hk.1.1.1.1,⟨hk.1.1.1.2,⟨hk.1.1.2,hk.1.2⟩⟩⟩)⟩
           have n2_:Aside0 (Kd.R (Kd.int .i64) 3 (((w124.setCell ⟨gb509,0,none⟩ (.slice Ao125 t503.length co125)).setCell ⟨gb509,1,none⟩ (.int .i64 t506)).setCell ⟨gb509,2,none⟩ (.bool t507)) w.heap.size (fun k_=>some k_≠(.slice Ao12 t461.length co12:Value).ownBlock∧some k_≠(.slice Ao16 t469.length co16:Value).ownBlock∧some k_≠(.slice Ao115 t496.length co115:Value).ownBlock∧some k_≠(.slice Ao125 t503.length co125:Value).ownBlock) (.slice Ao105 t487.length co105) t487):=⟨by(with_reducible repeat (first|apply Kd.R_alloc|apply Kd.R_drewN|apply Kd.R_drew));exact Kd.R_mono (Kd.R_far (p:=⟨gb509,2,none⟩) (Kd.R_far (p:=⟨gb509,1,none⟩) (Kd.R_far (p:=⟨gb509,0,none⟩) (Kd.R_types HO489.out BK509.out (b17_)) (fun _ hk=>hk.2) (.slice Ao125 t503.length co125)) (fun _ hk=>hk.2) (.int .i64 t506)) (fun _ hk=>hk.2) (.bool t507)) (fun _ hk=>⟨hk.1.1.1.1.2,⟨hk.1.1.1.2,⟨hk.1.1.2,hk.1.2⟩⟩⟩)⟩
           have n3_:Aside0 (Kd.R (Kd.int .i64) 3 (((w124.setCell ⟨gb509,0,none⟩ (.slice Ao125 t503.length co125)).setCell ⟨gb509,1,none⟩ (.int .i64 t506)).setCell ⟨gb509,2,none⟩ (.bool t507)) w.heap.size (fun k_=>some k_≠(.slice Ao12 t461.length co12:Value).ownBlock∧some k_≠(.slice Ao16 t469.length co16:Value).ownBlock∧some k_≠(.slice Ao105 t487.length co105:Value).ownBlock∧some k_≠(.slice Ao125 t503.length co125:Value).ownBlock) (.slice Ao115 t496.length co115) t496):=⟨by(with_reducible repeat (first|apply Kd.R_alloc|apply Kd.R_drewN|apply Kd.R_drew));exact Kd.R_mono (Kd.R_far (p:=⟨gb509,2,none⟩) (Kd.R_far (p:=⟨gb509,1,none⟩) (Kd.R_far (p:=⟨gb509,0,none⟩) (Kd.R_types HO498.out BK509.out (b17_)) (fun _ hk=>hk.2) (.slice Ao125 t503.length co125)) (fun _ hk=>hk.2) (.int .i64 t506)) (fun _ hk=>hk.2) (.bool t507)) (fun _ hk=>⟨hk.1.1.1.1.2,⟨hk.1.1.1.2,⟨hk.1.1.2,hk.1.2⟩⟩⟩)⟩
           have n4_:Aside0 (Kd.R (Kd.int .i64) 3 (((w124.setCell ⟨gb509,0,none⟩ (.slice Ao125 t503.length co125)).setCell ⟨gb509,1,none⟩ (.int .i64 t506)).setCell ⟨gb509,2,none⟩ (.bool t507)) w.heap.size (fun k_=>some k_≠(.slice Ao12 t461.length co12:Value).ownBlock∧some k_≠(.slice Ao16 t469.length co16:Value).ownBlock∧some k_≠(.slice Ao105 t487.length co105:Value).ownBlock∧some k_≠(.slice Ao115 t496.length co115:Value).ownBlock) (.slice Ao125 t503.length co125) t503):=⟨by(with_reducible repeat (first|apply Kd.R_alloc|apply Kd.R_drewN|apply Kd.R_drew));exact Kd.R_mono (Kd.R_far (p:=⟨gb509,2,none⟩) (Kd.R_far (p:=⟨gb509,1,none⟩) (Kd.R_far (p:=⟨gb509,0,none⟩) (Kd.R_types HO505.out BK509.out (b17_)) (fun _ hk=>hk.2) (.slice Ao125 t503.length co125)) (fun _ hk=>hk.2) (.int .i64 t506)) (fun _ hk=>hk.2) (.bool t507)) (fun _ hk=>⟨hk.1.1.1.1.2,⟨hk.1.1.1.2,⟨hk.1.1.2,hk.1.2⟩⟩⟩)⟩
           have n5_:Aside0 ((((w124.setCell ⟨gb509,0,none⟩ (.slice Ao125 t503.length co125)).setCell ⟨gb509,1,none⟩ (.int .i64 t506)).setCell ⟨gb509,2,none⟩ (.bool t507)).heap[gb468]?=some (.cells #[.slice Ao12 t461.length co12,.int .i64 t464,.bool t465] 62 (0,0))):=⟨by(with_reducible repeat (first|refine blk_drewN ?_ _|refine blk_drew ?_|refine blk_alloc ?_ _));refine blk_far ?_ NB468_509.out _;(with_reducible repeat (first|refine blk_drewN ?_ _|refine blk_drew ?_|refine blk_alloc ?_ _));refine blk_far ?_ NB468_509.out _;(with_reducible repeat (first|refine blk_drewN ?_ _|refine blk_drew ?_|refine blk_alloc ?_ _));refine blk_far ?_ NB468_509.out _;(with_reducible repeat (first|refine blk_drewN ?_ _|refine blk_drew ?_|refine blk_alloc ?_ _));exact BK468.out⟩
           have n6_:Aside0 ((((w124.setCell ⟨gb509,0,none⟩ (.slice Ao125 t503.length co125)).setCell ⟨gb509,1,none⟩ (.int .i64 t506)).setCell ⟨gb509,2,none⟩ (.bool t507)).heap[gb476]?=some (.cells #[.slice Ao16 t469.length co16,.int .i64 t472,.bool t473] 62 (0,0))):=⟨by(with_reducible repeat (first|refine blk_drewN ?_ _|refine blk_drew ?_|refine blk_alloc ?_ _));refine blk_far ?_ NB476_509.out _;(with_reducible repeat (first|refine blk_drewN ?_ _|refine blk_drew ?_|refine blk_alloc ?_ _));refine blk_far ?_ NB476_509.out _;(with_reducible repeat (first|refine blk_drewN ?_ _|refine blk_drew ?_|refine blk_alloc ?_ _));refine blk_far ?_ NB476_509.out _;(with_reducible repeat (first|refine blk_drewN ?_ _|refine blk_drew ?_|refine blk_alloc ?_ _));exact BK476.out⟩
           have n7_:Aside0 ((((w124.setCell ⟨gb509,0,none⟩ (.slice Ao125 t503.length co125)).setCell ⟨gb509,1,none⟩ (.int .i64 t506)).setCell ⟨gb509,2,none⟩ (.bool t507)).heap[gb494]?=some (.cells #[.slice Ao105 t487.length co105,.int .i64 t490,.bool t491] 62 (0,0))):=⟨by(with_reducible repeat (first|refine blk_drewN ?_ _|refine blk_drew ?_|refine blk_alloc ?_ _));refine blk_far ?_ NB494_509.out _;(with_reducible repeat (first|refine blk_drewN ?_ _|refine blk_drew ?_|refine blk_alloc ?_ _));refine blk_far ?_ NB494_509.out _;(with_reducible repeat (first|refine blk_drewN ?_ _|refine blk_drew ?_|refine blk_alloc ?_ _));refine blk_far ?_ NB494_509.out _;(with_reducible repeat (first|refine blk_drewN ?_ _|refine blk_drew ?_|refine blk_alloc ?_ _));exact BK494.out⟩
           have n8_:Aside0 ((((w124.setCell ⟨gb509,0,none⟩ (.slice Ao125 t503.length co125)).setCell ⟨gb509,1,none⟩ (.int .i64 t506)).setCell ⟨gb509,2,none⟩ (.bool t507)).heap[gb495]?=some (.cells #[.int .i64 t492,.int .i64 t493] 72 (0,0))):=⟨by(with_reducible repeat (first|refine blk_drewN ?_ _|refine blk_drew ?_|refine blk_alloc ?_ _));refine blk_far ?_ NB495_509.out _;(with_reducible repeat (first|refine blk_drewN ?_ _|refine blk_drew ?_|refine blk_alloc ?_ _));refine blk_far ?_ NB495_509.out _;(with_reducible repeat (first|refine blk_drewN ?_ _|refine blk_drew ?_|refine blk_alloc ?_ _));refine blk_far ?_ NB495_509.out _;(with_reducible repeat (first|refine blk_drewN ?_ _|refine blk_drew ?_|refine blk_alloc ?_ _));exact BK495.out⟩
           have n9_:Aside0 ((((w124.setCell ⟨gb509,0,none⟩ (.slice Ao125 t503.length co125)).setCell ⟨gb509,1,none⟩ (.int .i64 t506)).setCell ⟨gb509,2,none⟩ (.bool t507)).heap[gb502]?=some (.cells #[.slice Ao115 t496.length co115,.int .i64 t499,.bool t500] 62 (0,0))):=⟨by(with_reducible repeat (first|refine blk_drewN ?_ _|refine blk_drew ?_|refine blk_alloc ?_ _));refine blk_far ?_ NB502_509.out _;(with_reducible repeat (first|refine blk_drewN ?_ _|refine blk_drew ?_|refine blk_alloc ?_ _));refine blk_far ?_ NB502_509.out _;(with_reducible repeat (first|refine blk_drewN ?_ _|refine blk_drew ?_|refine blk_alloc ?_ _));refine blk_far ?_ NB502_509.out _;(with_reducible repeat (first|refine blk_drewN ?_ _|refine blk_drew ?_|refine blk_alloc ?_ _));exact BK502.out⟩
           have n10_:Aside0 ((((w124.setCell ⟨gb509,0,none⟩ (.slice Ao125 t503.length co125)).setCell ⟨gb509,1,none⟩ (.int .i64 t506)).setCell ⟨gb509,2,none⟩ (.bool t507)).heap[gb509]?=some (.cells #[.slice Ao125 t503.length co125,.int .i64 t506,.bool t507] 62 (0,0))):=⟨by(with_reducible repeat (first|refine blk_drewN ?_ _|refine blk_drew ?_|refine blk_alloc ?_ _));apply bU3;(with_reducible repeat (first|refine blk_drewN ?_ _|refine blk_drew ?_|refine blk_alloc ?_ _));exact BK509.out⟩
           have n11_:Aside0 (Below w.heap.size w (((w124.setCell ⟨gb509,0,none⟩ (.slice Ao125 t503.length co125)).setCell ⟨gb509,1,none⟩ (.int .i64 t506)).setCell ⟨gb509,2,none⟩ (.bool t507))):=⟨bS6 GE468.out GE476.out GE494.out GE495.out GE502.out GE509.out⟩
           (try clear HO_469000)
           (try clear HO_477000)
           (try clear HO489)
           (try clear HO498)
           (try clear HO505)
           (try clear BK468)
           (try clear BK476)
           (try clear BK494)
           (try clear BK495)
           (try clear BK502)
           (try clear BK509)
           (try clear HB)
           generalize (((w124.setCell ⟨gb509,0,none⟩ (.slice Ao125 t503.length co125)).setCell ⟨gb509,1,none⟩ (.int .i64 t506)).setCell ⟨gb509,2,none⟩ (.bool t507))=w139 at n0_ n1_ n2_ n3_ n4_ n5_ n6_ n7_ n8_ n9_ n10_ n11_ ⊢
           have HO_469000:=n0_
           have HO_477000:=n1_
           have HO489:=n2_
           have HO498:=n3_
           have HO505:=n4_
           have BK468:=n5_
           have BK476:=n6_
           have BK494:=n7_
           have BK495:=n8_
           have BK502:=n9_
           have BK509:=n10_
           have HB:=n11_
           clear n0_ n1_ n2_ n3_ n4_ n5_ n6_ n7_ n8_ n9_ n10_ n11_
           (try (rw[drewN_self w139];generalize hq_:World.drewN w139 _=w139;have n0_:=am (Kd.R_at hq_ HO_469000.out);have n1_:=am (Kd.R_at hq_ HO_477000.out);have n2_:=am (Kd.R_at hq_ HO489.out);have n3_:=am (Kd.R_at hq_ HO498.out);have n4_:=am (Kd.R_at hq_ HO505.out);have n5_:=am (blk_at hq_ BK468.out);have n6_:=am (blk_at hq_ BK476.out);have n7_:=am (blk_at hq_ BK494.out);have n8_:=am (blk_at hq_ BK495.out);have n9_:=am (blk_at hq_ BK502.out);have n10_:=am (blk_at hq_ BK509.out);have n11_:=am (below_at hq_ HB.out);clear hq_ HO_469000 HO_477000 HO489 HO498 HO505 BK468 BK476 BK494 BK495 BK502 BK509 HB;have HO_469000:=n0_;have HO_477000:=n1_;have HO489:=n2_;have HO498:=n3_;have HO505:=n4_;have BK468:=n5_;have BK476:=n6_;have BK494:=n7_;have BK495:=n8_;have BK502:=n9_;have BK509:=n10_;have HB:=n11_;clear n0_ n1_ n2_ n3_ n4_ n5_ n6_ n7_ n8_ n9_ n10_ n11_))
           have n0_:=am (Kd.R_drew HO_469000.out)
           have n1_:=am (Kd.R_drew HO_477000.out)
           have n2_:=am (Kd.R_drew HO489.out)
           have n3_:=am (Kd.R_drew HO498.out)
           have n4_:=am (Kd.R_drew HO505.out)
           have n5_:=am (blk_drew BK468.out)
           have n6_:=am (blk_drew BK476.out)
           have n7_:=am (blk_drew BK494.out)
           have n8_:=am (blk_drew BK495.out)
           have n9_:=am (blk_drew BK502.out)
           have n10_:=am (blk_drew BK509.out)
           have n11_:=am (below_drew1 HB.out)
           clear HO_469000 HO_477000 HO489 HO498 HO505 BK468 BK476 BK494 BK495 BK502 BK509 HB
           have HO_469000:=n0_
           have HO_477000:=n1_
           have HO489:=n2_
           have HO498:=n3_
           have HO505:=n4_
           have BK468:=n5_
           have BK476:=n6_
           have BK494:=n7_
           have BK495:=n8_
           have BK502:=n9_
           have BK509:=n10_
           have HB:=n11_
           clear n0_ n1_ n2_ n3_ n4_ n5_ n6_ n7_ n8_ n9_ n10_ n11_
           refine start_ (n:=16) (S:=fun w'=>w'.cell? ⟨gb502,0,none⟩=some (.slice Ao115 t496.length co115)∧w'.cell? ⟨gb502,1,none⟩=some (.int .i64 t499)∧w'.cell? ⟨gb502,2,none⟩=some (.bool t500)∧w'.cell? ⟨gb509,0,none⟩=some (.slice Ao125 t503.length co125)∧w'.cell? ⟨gb509,1,none⟩=some (.int .i64 t506)∧w'.cell? ⟨gb509,2,none⟩=some (.bool t507)∧w'.cell? ⟨gb494,0,none⟩=some (.slice Ao105 t487.length co105)∧w'.cell? ⟨gb494,1,none⟩=some (.int .i64 t490)∧w'.cell? ⟨gb494,2,none⟩=some (.bool t491)) (ds:=[]) #[false,false,false,false,false,false,false,false,false,false,false,false,false,false,false,false] (b4_) rfl rfl ⟨(blk_cell BK502.out 0).trans rfl,(blk_cell BK502.out 1).trans rfl,(blk_cell BK502.out 2).trans rfl,(blk_cell BK509.out 0).trans rfl,(blk_cell BK509.out 1).trans rfl,(blk_cell BK509.out 2).trans rfl,(blk_cell BK494.out 0).trans rfl,(blk_cell BK494.out 1).trans rfl,(blk_cell BK494.out 2).trans rfl⟩ (fun hHeld => ?_);refine with_tabW laws_FnSpray.tab16 laws_FnSpray.bits16 (fun HT_ HW_ => ?_)
           generalize w139.drew=w140 at HO_469000 HO_477000 HO489 HO498 HO505 BK468 BK476 BK494 BK495 BK502 BK509 HB hHeld ⊢
           refine pure_ (i:=0) (N:=some 150) (v:=?_) (a':=?_) #[true,false,false,false,false,false,false,false,false,false,false,false,false,false,false,false] rfl rfl (any_of HT_.out (b4_)) (fun _ _ _ h=>h) (Or.inl ⟨by rfl,?_⟩) ?_ ?_
           rotate_left
           ·intro w'
            go_simp
            with_reducible rfl
           rotate_left
           ·simp only[Act.put,zA,zB,zC,i64_w,i32_w]
            rfl
           refine pure_ (i:=1) (N:=some 151) (v:=?_) (a':=?_) #[true,true,false,false,false,false,false,false,false,false,false,false,false,false,false,false] rfl rfl (any_of HT_.out (b4_)) (fun _ _ _ h=>h) (Or.inl ⟨by rfl,?_⟩) ?_ ?_
           rotate_left
           ·intro w'
            go_simp
            with_reducible rfl
           rotate_left
           ·simp only[Act.put,zA,zB,zC,i64_w,i32_w]
            rfl
           refine pure_ (i:=2) (N:=some 152) (v:=?_) (a':=?_) #[true,true,true,false,false,false,false,false,false,false,false,false,false,false,false,false] rfl rfl (any_of HT_.out (b4_)) (fun _ _ _ h=>h) (Or.inl ⟨by rfl,?_⟩) ?_ ?_
           rotate_left
           ·intro w'
            go_simp
            with_reducible rfl
           rotate_left
           ·simp only[Act.put,zA,zB,zC,i64_w,i32_w]
            rfl
           refine pure_ (i:=3) (N:=some 153) (v:=?_) (a':=?_) #[true,true,true,true,false,false,false,false,false,false,false,false,false,false,false,false] rfl rfl (any_of HT_.out (b4_)) (fun _ _ _ h=>h) (Or.inl ⟨by rfl,?_⟩) ?_ ?_
           rotate_left
           ·intro w'
            go_simp
            with_reducible rfl
           rotate_left
           ·simp only[Act.put,zA,zB,zC,i64_w,i32_w]
            rfl
           refine take_ (i:=4) (N:=some 154) (v:=?_) (a':=?_) #[true,true,true,true,true,false,false,false,false,false,false,false,false,false,false,false] rfl rfl (take_ofW HT_.out HW_.out (b4_)) (fun _ _ _ h=>h) (Or.inl ⟨by rfl,?_⟩) hHeld ?_ ?_
           rotate_left
           ·rintro w' ⟨s0,s1,s2,s3,s4,s5,s6,s7,s8⟩
            go_simp
            with_reducible rfl
           rotate_left
           ·simp only[Act.put,zA,zB,zC,i64_w,i32_w]
            rfl
           refine take_ (i:=5) (N:=some 155) (v:=?_) (a':=?_) #[true,true,true,true,true,true,false,false,false,false,false,false,false,false,false,false] rfl rfl (take_ofW HT_.out HW_.out (b4_)) (fun _ _ _ h=>h) (Or.inl ⟨by rfl,?_⟩) hHeld ?_ ?_
           rotate_left
           ·rintro w' ⟨s0,s1,s2,s3,s4,s5,s6,s7,s8⟩
            go_simp
            with_reducible rfl
           rotate_left
           ·simp only[Act.put,zA,zB,zC,i64_w,i32_w]
            rfl
           refine one_ (i:=6) (N:=some 156) #[true,true,true,true,true,true,true,false,false,false,false,false,false,false,false,false] rfl rfl (one_of HT_.out (b4_)) (b17_) (fun K hK => ?_)
           refine goes_ Try.func40 (b4_) rfl #[.agg #[.slice Ao115 t496.length co115,.int .i64 t499,.bool t500],.agg #[.slice Ao125 t503.length co125,.int .i64 t506,.bool t507]] (by rfl) rfl rfl (b27_) ?_
           with_reducible refine(laws_sameSprays.calls kj26 _ _ t496 t499 t500 _ _ t503 t506 t507 true _ ?side1 ?side2 ?side3 ?side4 A135.out).mono ?_
           (case side1=>exact bT HO498.out)
           (case side2=>exact(Kd.R_reads' HO498.out).2.1)
           (case side3=>exact bT HO505.out)
           (case side4=>exact(Kd.R_reads' HO505.out).2.1)
           rintro e w141 ⟨rfl,hb⟩
           refine⟨_,rfl,?_⟩
           have n0_:=am (Kd.R_below (bK HO_469000.out) hb)
           have n1_:=am (Kd.R_below (bK HO_477000.out) hb)
           have n2_:=am (Kd.R_below (bK HO489.out) hb)
           have n3_:=am (Kd.R_below (bK HO498.out) hb)
           have n4_:=am (Kd.R_below (bK HO505.out) hb)
           have n5_:=am (bM BK468.out hb)
           have n6_:=am (bM BK476.out hb)
           have n7_:=am (bM BK494.out hb)
           have n8_:=am (bM BK495.out hb)
           have n9_:=am (bM BK502.out hb)
           have n10_:=am (bM BK509.out hb)
           have n11_:=am (below_step (bS6 GE468.out GE476.out GE494.out GE495.out GE502.out GE509.out) hb)
           clear HO_469000 HO_477000 HO489 HO498 HO505 BK468 BK476 BK494 BK495 BK502 BK509 HB
           have HO_469000:=n0_
           have HO_477000:=n1_
           have HO489:=n2_
           have HO498:=n3_
           have HO505:=n4_
           have BK468:=n5_
           have BK476:=n6_
           have BK494:=n7_
           have BK495:=n8_
           have BK502:=n9_
           have BK509:=n10_
           have HB:=n11_
           clear n0_ n1_ n2_ n3_ n4_ n5_ n6_ n7_ n8_ n9_ n10_ n11_
           (try clear hb)
           (try clear hb2)
           (try clear hk)
           (try clear hi)
           refine hK.out _ _ ⟨(blk_cell BK502.out 0).trans rfl,(blk_cell BK502.out 1).trans rfl,(blk_cell BK502.out 2).trans rfl,(blk_cell BK509.out 0).trans rfl,(blk_cell BK509.out 1).trans rfl,(blk_cell BK509.out 2).trans rfl,(blk_cell BK494.out 0).trans rfl,(blk_cell BK494.out 1).trans rfl,(blk_cell BK494.out 2).trans rfl⟩ (fun hHeld => ?_)
           clear hK K
           refine norm_ (a':=?_) ?_ ?_
           rotate_left
           ·show Act.put _ (some 156) _=_
            simp only[Act.put,zA,zB,zC,i64_w,i32_w]
            rfl
           refine pure_ (i:=7) (N:=some 157) (v:=?_) (a':=?_) #[true,true,true,true,true,true,true,true,false,false,false,false,false,false,false,false] rfl rfl (any_of HT_.out (b4_)) (fun _ _ _ h=>h) (Or.inl ⟨by rfl,?_⟩) ?_ ?_
           rotate_left
           ·intro w'
            go_simp
            with_reducible rfl
           rotate_left
           ·simp only[Act.put,zA,zB,zC,i64_w,i32_w]
            rfl
           refine pure_ (i:=8) (N:=some 158) (v:=?_) (a':=?_) #[true,true,true,true,true,true,true,true,true,false,false,false,false,false,false,false] rfl rfl (any_of HT_.out (b4_)) (fun _ _ _ h=>h) (Or.inl ⟨by rfl,?_⟩) ?_ ?_
           rotate_left
           ·intro w'
            go_simp
            with_reducible rfl
           rotate_left
           ·simp only[Act.put,zA,zB,zC,i64_w,i32_w]
            rfl
           refine pure_ (i:=9) (N:=some 159) (v:=?_) (a':=?_) #[true,true,true,true,true,true,true,true,true,true,false,false,false,false,false,false] rfl rfl (any_of HT_.out (b4_)) (fun _ _ _ h=>h) (Or.inl ⟨by rfl,?_⟩) ?_ ?_
           rotate_left
           ·intro w'
            go_simp
            with_reducible rfl
           rotate_left
           ·simp only[Act.put,zA,zB,zC,i64_w,i32_w]
            rfl
           refine take_ (i:=10) (N:=some 160) (v:=?_) (a':=?_) #[true,true,true,true,true,true,true,true,true,true,true,false,false,false,false,false] rfl rfl (take_ofW HT_.out HW_.out (b4_)) (fun _ _ _ h=>h) (Or.inl ⟨by rfl,?_⟩) hHeld ?_ ?_
           rotate_left
           ·rintro w' ⟨s0,s1,s2,s3,s4,s5,s6,s7,s8⟩
            go_simp
            with_reducible rfl
           rotate_left
           ·simp only[Act.put,zA,zB,zC,i64_w,i32_w]
            rfl
           refine take_ (i:=12) (N:=some 162) (v:=?_) (a':=?_) #[true,true,true,true,true,true,true,true,true,true,true,false,true,false,false,false] rfl rfl (take_ofW HT_.out HW_.out (b4_)) (fun _ _ _ h=>h) (Or.inl ⟨by rfl,?_⟩) hHeld ?_ ?_
           rotate_left
           ·rintro w' ⟨s0,s1,s2,s3,s4,s5,s6,s7,s8⟩
            go_simp
            with_reducible rfl
           rotate_left
           ·simp only[Act.put,zA,zB,zC,i64_w,i32_w]
            rfl
           refine one_ (i:=11) (N:=some 161) #[true,true,true,true,true,true,true,true,true,true,true,true,true,false,false,false] rfl rfl (one_of HT_.out (b4_)) (b17_) (fun K hK => ?_)
           refine goes_ Try.func44 (b4_) rfl #[.agg #[.slice Ao105 t487.length co105,.int .i64 t490,.bool t491]] (by rfl) rfl rfl (b27_) ?_
           with_reducible refine(impl_GoodSpray.calls kj26 _ _ t487 t490 t491 t511 _ ?side1 ?side2 A137.out).mono ?_
           (case side1=>exact bT HO489.out)
           (case side2=>exact(Kd.R_reads' HO489.out).2.1)
           rintro e w142 ⟨rfl,hb⟩
           refine⟨_,rfl,?_⟩
           have n0_:=am (Kd.R_below (bK HO_469000.out) hb)
           have n1_:=am (Kd.R_below (bK HO_477000.out) hb)
           have n2_:=am (Kd.R_below (bK HO489.out) hb)
           have n3_:=am (Kd.R_below (bK HO498.out) hb)
           have n4_:=am (Kd.R_below (bK HO505.out) hb)
           have n5_:=am (bM BK468.out hb)
           have n6_:=am (bM BK476.out hb)
           have n7_:=am (bM BK494.out hb)
           have n8_:=am (bM BK495.out hb)
           have n9_:=am (bM BK502.out hb)
           have n10_:=am (bM BK509.out hb)
           have n11_:=am (below_step (bS6 GE468.out GE476.out GE494.out GE495.out GE502.out GE509.out) hb)
           clear HO_469000 HO_477000 HO489 HO498 HO505 BK468 BK476 BK494 BK495 BK502 BK509 HB
           have HO_469000:=n0_
           have HO_477000:=n1_
           have HO489:=n2_
           have HO498:=n3_
           have HO505:=n4_
           have BK468:=n5_
           have BK476:=n6_
           have BK494:=n7_
           have BK495:=n8_
           have BK502:=n9_
           have BK509:=n10_
           have HB:=n11_
           clear n0_ n1_ n2_ n3_ n4_ n5_ n6_ n7_ n8_ n9_ n10_ n11_
           (try clear hb)
           (try clear hb2)
           (try clear hk)
           (try clear hi)
           refine hK.out _ _ ⟨(blk_cell BK502.out 0).trans rfl,(blk_cell BK502.out 1).trans rfl,(blk_cell BK502.out 2).trans rfl,(blk_cell BK509.out 0).trans rfl,(blk_cell BK509.out 1).trans rfl,(blk_cell BK509.out 2).trans rfl,(blk_cell BK494.out 0).trans rfl,(blk_cell BK494.out 1).trans rfl,(blk_cell BK494.out 2).trans rfl⟩ (fun hHeld => ?_)
           clear hK K
           refine norm_ (a':=?_) ?_ ?_
           rotate_left
           ·show Act.put _ (some 161) _=_
            simp only[Act.put,zA,zB,zC,i64_w,i32_w]
            rfl
           refine one_ (i:=13) (N:=some 163) #[true,true,true,true,true,true,true,true,true,true,true,true,true,true,false,false] rfl rfl (one_of HT_.out (b4_)) (b17_) (fun K hK => ?_)
           refine goes_ Try.func48 (b4_) rfl #[.agg #[.slice Ao105 t487.length co105,.int .i64 t490,.bool t491]] (by rfl) rfl rfl (b27_) ?_
           with_reducible refine(spec_GoodSpray.calls kj26 _ _ t487 t490 t491 t512 _ ?side1 ?side2 A138.out).mono ?_
           (case side1=>exact bT HO489.out)
           (case side2=>exact(Kd.R_reads' HO489.out).2.1)
           rintro e w143 ⟨rfl,hb⟩
           refine⟨_,rfl,?_⟩
           have n0_:=am (Kd.R_below (bK HO_469000.out) hb)
           have n1_:=am (Kd.R_below (bK HO_477000.out) hb)
           have n2_:=am (Kd.R_below (bK HO489.out) hb)
           have n3_:=am (Kd.R_below (bK HO498.out) hb)
           have n4_:=am (Kd.R_below (bK HO505.out) hb)
           have n5_:=am (bM BK468.out hb)
           have n6_:=am (bM BK476.out hb)
           have n7_:=am (bM BK494.out hb)
           have n8_:=am (bM BK495.out hb)
           have n9_:=am (bM BK502.out hb)
           have n10_:=am (bM BK509.out hb)
           have n11_:=am (below_step (bS6 GE468.out GE476.out GE494.out GE495.out GE502.out GE509.out) hb)
           clear HO_469000 HO_477000 HO489 HO498 HO505 BK468 BK476 BK494 BK495 BK502 BK509 HB
           have HO_469000:=n0_
           have HO_477000:=n1_
           have HO489:=n2_
           have HO498:=n3_
           have HO505:=n4_
           have BK468:=n5_
           have BK476:=n6_
           have BK494:=n7_
           have BK495:=n8_
           have BK502:=n9_
           have BK509:=n10_
           have HB:=n11_
           clear n0_ n1_ n2_ n3_ n4_ n5_ n6_ n7_ n8_ n9_ n10_ n11_
           (try clear hb)
           (try clear hb2)
           (try clear hk)
           (try clear hi)
           refine hK.out _ _ ⟨(blk_cell BK502.out 0).trans rfl,(blk_cell BK502.out 1).trans rfl,(blk_cell BK502.out 2).trans rfl,(blk_cell BK509.out 0).trans rfl,(blk_cell BK509.out 1).trans rfl,(blk_cell BK509.out 2).trans rfl,(blk_cell BK494.out 0).trans rfl,(blk_cell BK494.out 1).trans rfl,(blk_cell BK494.out 2).trans rfl⟩ (fun hHeld => ?_)
           clear hK K
           refine norm_ (a':=?_) ?_ ?_
           rotate_left
           ·show Act.put _ (some 163) _=_
            simp only[Act.put,zA,zB,zC,i64_w,i32_w]
            rfl
           refine pure_ (i:=14) (N:=some 164) (v:=?_) (a':=?_) #[true,true,true,true,true,true,true,true,true,true,true,true,true,true,true,false] rfl rfl (any_of HT_.out (b4_)) (fun _ _ _ h=>h) (Or.inl ⟨by rfl,?_⟩) ?_ ?_
           rotate_left
           ·intro w'
            go_simp
            with_reducible rfl
           rotate_left
           ·simp only[Act.put,zA,zB,zC,i64_w,i32_w]
            rfl
           refine pure_ (i:=15) (N:=some 165) (v:=?_) (a':=?_) #[true,true,true,true,true,true,true,true,true,true,true,true,true,true,true,true] rfl rfl (any_of HT_.out (b4_)) (fun _ _ _ h=>h) (Or.inl ⟨by rfl,?_⟩) ?_ ?_
           rotate_left
           ·intro w'
            go_simp
            with_reducible rfl
           rotate_left
           ·simp only[Act.put,zA,zB,zC,i64_w,i32_w]
            rfl
           refine done_ (done_of HT_.out (b4_)) ?_
           try go_wp2
           go_meet
           case rel=>exact⟨_,((t511 != t512)),(bR),H',⟨by have:=HJ6.out;have:=HJ26.out;first|omega|exact Nat.le_refl _⟩,⟨by(with_reducible repeat (first|apply Kd.R_alloc|apply Kd.R_drewN|apply Kd.R_drew));exact HO_469000.out⟩,⟨by(with_reducible repeat (first|apply Kd.R_alloc|apply Kd.R_drewN|apply Kd.R_drew));exact HO_477000.out⟩,⟨by(with_reducible repeat (first|apply Kd.R_alloc|apply Kd.R_drewN|apply Kd.R_drew));exact HO489.out⟩,⟨by(with_reducible repeat (first|apply Kd.R_alloc|apply Kd.R_drewN|apply Kd.R_drew));exact HO498.out⟩,⟨by(with_reducible repeat (first|apply Kd.R_alloc|apply Kd.R_drewN|apply Kd.R_drew));exact HO505.out⟩,⟨by(with_reducible repeat (first|refine blk_drewN ?_ _|refine blk_drew ?_|refine blk_alloc ?_ _));exact BK468.out⟩,⟨by(with_reducible repeat (first|refine blk_drewN ?_ _|refine blk_drew ?_|refine blk_alloc ?_ _));exact BK476.out⟩,⟨by(with_reducible repeat (first|refine blk_drewN ?_ _|refine blk_drew ?_|refine blk_alloc ?_ _));exact BK494.out⟩,⟨by(with_reducible repeat (first|refine blk_drewN ?_ _|refine blk_drew ?_|refine blk_alloc ?_ _));exact BK495.out⟩,⟨by(with_reducible repeat (first|refine blk_drewN ?_ _|refine blk_drew ?_|refine blk_alloc ?_ _));exact BK502.out⟩,⟨by(with_reducible repeat (first|refine blk_drewN ?_ _|refine blk_drew ?_|refine blk_alloc ?_ _));exact BK509.out⟩,⟨bS6 GE468.out GE476.out GE494.out GE495.out GE502.out GE509.out⟩⟩
         ·as_aux_lemma =>
           replace c136:=Bool.eq_false_iff.mpr c136
           subst c136
           have H1:(laws_FnSpray.j2 kj26 t501 true t487 t490 t491 t496 t499 t500)=some r:=by rw[if_neg (show ¬ (false=true) by decide)] at H;exact H
           clear H
           have H:=H1
           clear H1
           have H':=am H
           clear H
           try go_wp2
           have n0_:Aside0 (Kd.R (Kd.int .i64) 3 (((w124.setCell ⟨gb509,0,none⟩ (.slice Ao125 t503.length co125)).setCell ⟨gb509,1,none⟩ (.int .i64 t506)).setCell ⟨gb509,2,none⟩ (.bool t507)) w.heap.size (fun k_=>some k_≠(.slice Ao16 t469.length co16:Value).ownBlock∧some k_≠(.slice Ao105 t487.length co105:Value).ownBlock∧some k_≠(.slice Ao115 t496.length co115:Value).ownBlock∧some k_≠(.slice Ao125 t503.length co125:Value).ownBlock) (.slice Ao12 t461.length co12) t461):=⟨by(with_reducible repeat (first|apply Kd.R_alloc|apply Kd.R_drewN|apply Kd.R_drew));exact Kd.R_mono (Kd.R_far (p:=⟨gb509,2,none⟩) (Kd.R_far (p:=⟨gb509,1,none⟩) (Kd.R_far (p:=⟨gb509,0,none⟩) (Kd.R_types HO_469000.out BK509.out (b17_)) (fun _ hk=>hk.2) (.slice Ao125 t503.length co125)) (fun _ hk=>hk.2) (.int .i64 t506)) (fun _ hk=>hk.2) (.bool t507)) (fun _ hk=>⟨hk.1.1.1.1,⟨hk.1.1.1.2,⟨hk.1.1.2,hk.1.2⟩⟩⟩)⟩
           have n1_:Aside0 (Kd.R (Kd.int .i64) 3 (((w124.setCell ⟨gb509,0,none⟩ (.slice Ao125 t503.length co125)).setCell ⟨gb509,1,none⟩ (.int .i64 t506)).setCell ⟨gb509,2,none⟩ (.bool t507)) w.heap.size (fun k_=>some k_≠(.slice Ao12 t461.length co12:Value).ownBlock∧some k_≠(.slice Ao105 t487.length co105:Value).ownBlock∧some k_≠(.slice Ao115 t496.length co115:Value).ownBlock∧some k_≠(.slice Ao125 t503.length co125:Value).ownBlock) (.slice Ao16 t469.length co16) t469):=⟨by(with_reducible repeat (first|apply Kd.R_alloc|apply Kd.R_drewN|apply Kd.R_drew));exact Kd.R_mono (Kd.R_far (p:=⟨gb509,2,none⟩) (Kd.R_far (p:=⟨gb509,1,none⟩) (Kd.R_far (p:=⟨gb509,0,none⟩) (Kd.R_types HO_477000.out BK509.out (b17_)) (fun _ hk=>hk.2) (.slice Ao125 t503.length co125)) (fun _ hk=>hk.2) (.int .i64 t506)) (fun _ hk=>hk.2) (.bool t507)) (fun _ hk=>⟨hk.1.1.1.1,⟨hk.1.1.1.2,⟨hk.1.1.2,hk.1.2⟩⟩⟩)⟩
           have n2_:Aside0 (Kd.R (Kd.int .i64) 3 (((w124.setCell ⟨gb509,0,none⟩ (.slice Ao125 t503.length co125)).setCell ⟨gb509,1,none⟩ (.int .i64 t506)).setCell ⟨gb509,2,none⟩ (.bool t507)) w.heap.size (fun k_=>some k_≠(.slice Ao12 t461.length co12:Value).ownBlock∧some k_≠(.slice Ao16 t469.length co16:Value).ownBlock∧some k_≠(.slice Ao115 t496.length co115:Value).ownBlock∧some k_≠(.slice Ao125 t503.length co125:Value).ownBlock) (.slice Ao105 t487.length co105) t487):=⟨by(with_reducible repeat (first|apply Kd.R_alloc|apply Kd.R_drewN|apply Kd.R_drew));exact Kd.R_mono (Kd.R_far (p:=⟨gb509,2,none⟩) (Kd.R_far (p:=⟨gb509,1,none⟩) (Kd.R_far (p:=⟨gb509,0,none⟩) (Kd.R_types HO489.out BK509.out (b17_)) (fun _ hk=>hk.2) (.slice Ao125 t503.length co125)) (fun _ hk=>hk.2) (.int .i64 t506)) (fun _ hk=>hk.2) (.bool t507)) (fun _ hk=>⟨hk.1.1.1.1.2,⟨hk.1.1.1.2,⟨hk.1.1.2,hk.1.2⟩⟩⟩)⟩
           have n3_:Aside0 (Kd.R (Kd.int .i64) 3 (((w124.setCell ⟨gb509,0,none⟩ (.slice Ao125 t503.length co125)).setCell ⟨gb509,1,none⟩ (.int .i64 t506)).setCell ⟨gb509,2,none⟩ (.bool t507)) w.heap.size (fun k_=>some k_≠(.slice Ao12 t461.length co12:Value).ownBlock∧some k_≠(.slice Ao16 t469.length co16:Value).ownBlock∧some k_≠(.slice Ao105 t487.length co105:Value).ownBlock∧some k_≠(.slice Ao125 t503.length co125:Value).ownBlock) (.slice Ao115 t496.length co115) t496):=⟨by(with_reducible repeat (first|apply Kd.R_alloc|apply Kd.R_drewN|apply Kd.R_drew));exact Kd.R_mono (Kd.R_far (p:=⟨gb509,2,none⟩) (Kd.R_far (p:=⟨gb509,1,none⟩) (Kd.R_far (p:=⟨gb509,0,none⟩) (Kd.R_types HO498.out BK509.out (b17_)) (fun _ hk=>hk.2) (.slice Ao125 t503.length co125)) (fun _ hk=>hk.2) (.int .i64 t506)) (fun _ hk=>hk.2) (.bool t507)) (fun _ hk=>⟨hk.1.1.1.1.2,⟨hk.1.1.1.2,⟨hk.1.1.2,hk.1.2⟩⟩⟩)⟩
           have n4_:Aside0 (Kd.R (Kd.int .i64) 3 (((w124.setCell ⟨gb509,0,none⟩ (.slice Ao125 t503.length co125)).setCell ⟨gb509,1,none⟩ (.int .i64 t506)).setCell ⟨gb509,2,none⟩ (.bool t507)) w.heap.size (fun k_=>some k_≠(.slice Ao12 t461.length co12:Value).ownBlock∧some k_≠(.slice Ao16 t469.length co16:Value).ownBlock∧some k_≠(.slice Ao105 t487.length co105:Value).ownBlock∧some k_≠(.slice Ao115 t496.length co115:Value).ownBlock) (.slice Ao125 t503.length co125) t503):=⟨by(with_reducible repeat (first|apply Kd.R_alloc|apply Kd.R_drewN|apply Kd.R_drew));exact Kd.R_mono (Kd.R_far (p:=⟨gb509,2,none⟩) (Kd.R_far (p:=⟨gb509,1,none⟩) (Kd.R_far (p:=⟨gb509,0,none⟩) (Kd.R_types HO505.out BK509.out (b17_)) (fun _ hk=>hk.2) (.slice Ao125 t503.length co125)) (fun _ hk=>hk.2) (.int .i64 t506)) (fun _ hk=>hk.2) (.bool t507)) (fun _ hk=>⟨hk.1.1.1.1.2,⟨hk.1.1.1.2,⟨hk.1.1.2,hk.1.2⟩⟩⟩)⟩
           have n5_:Aside0 ((((w124.setCell ⟨gb509,0,none⟩ (.slice Ao125 t503.length co125)).setCell ⟨gb509,1,none⟩ (.int .i64 t506)).setCell ⟨gb509,2,none⟩ (.bool t507)).heap[gb468]?=some (.cells #[.slice Ao12 t461.length co12,.int .i64 t464,.bool t465] 62 (0,0))):=⟨by(with_reducible repeat (first|refine blk_drewN ?_ _|refine blk_drew ?_|refine blk_alloc ?_ _));refine blk_far ?_ NB468_509.out _;(with_reducible repeat (first|refine blk_drewN ?_ _|refine blk_drew ?_|refine blk_alloc ?_ _));refine blk_far ?_ NB468_509.out _;(with_reducible repeat (first|refine blk_drewN ?_ _|refine blk_drew ?_|refine blk_alloc ?_ _));refine blk_far ?_ NB468_509.out _;(with_reducible repeat (first|refine blk_drewN ?_ _|refine blk_drew ?_|refine blk_alloc ?_ _));exact BK468.out⟩
           have n6_:Aside0 ((((w124.setCell ⟨gb509,0,none⟩ (.slice Ao125 t503.length co125)).setCell ⟨gb509,1,none⟩ (.int .i64 t506)).setCell ⟨gb509,2,none⟩ (.bool t507)).heap[gb476]?=some (.cells #[.slice Ao16 t469.length co16,.int .i64 t472,.bool t473] 62 (0,0))):=⟨by(with_reducible repeat (first|refine blk_drewN ?_ _|refine blk_drew ?_|refine blk_alloc ?_ _));refine blk_far ?_ NB476_509.out _;(with_reducible repeat (first|refine blk_drewN ?_ _|refine blk_drew ?_|refine blk_alloc ?_ _));refine blk_far ?_ NB476_509.out _;(with_reducible repeat (first|refine blk_drewN ?_ _|refine blk_drew ?_|refine blk_alloc ?_ _));refine blk_far ?_ NB476_509.out _;(with_reducible repeat (first|refine blk_drewN ?_ _|refine blk_drew ?_|refine blk_alloc ?_ _));exact BK476.out⟩
           have n7_:Aside0 ((((w124.setCell ⟨gb509,0,none⟩ (.slice Ao125 t503.length co125)).setCell ⟨gb509,1,none⟩ (.int .i64 t506)).setCell ⟨gb509,2,none⟩ (.bool t507)).heap[gb494]?=some (.cells #[.slice Ao105 t487.length co105,.int .i64 t490,.bool t491] 62 (0,0))):=⟨by(with_reducible repeat (first|refine blk_drewN ?_ _|refine blk_drew ?_|refine blk_alloc ?_ _));refine blk_far ?_ NB494_509.out _;(with_reducible repeat (first|refine blk_drewN ?_ _|refine blk_drew ?_|refine blk_alloc ?_ _));refine blk_far ?_ NB494_509.out _;(with_reducible repeat (first|refine blk_drewN ?_ _|refine blk_drew ?_|refine blk_alloc ?_ _));refine blk_far ?_ NB494_509.out _;(with_reducible repeat (first|refine blk_drewN ?_ _|refine blk_drew ?_|refine blk_alloc ?_ _));exact BK494.out⟩
           have n8_:Aside0 ((((w124.setCell ⟨gb509,0,none⟩ (.slice Ao125 t503.length co125)).setCell ⟨gb509,1,none⟩ (.int .i64 t506)).setCell ⟨gb509,2,none⟩ (.bool t507)).heap[gb495]?=some (.cells #[.int .i64 t492,.int .i64 t493] 72 (0,0))):=⟨by(with_reducible repeat (first|refine blk_drewN ?_ _|refine blk_drew ?_|refine blk_alloc ?_ _));refine blk_far ?_ NB495_509.out _;(with_reducible repeat (first|refine blk_drewN ?_ _|refine blk_drew ?_|refine blk_alloc ?_ _));refine blk_far ?_ NB495_509.out _;(with_reducible repeat (first|refine blk_drewN ?_ _|refine blk_drew ?_|refine blk_alloc ?_ _));refine blk_far ?_ NB495_509.out _;(with_reducible repeat (first|refine blk_drewN ?_ _|refine blk_drew ?_|refine blk_alloc ?_ _));exact BK495.out⟩
           have n9_:Aside0 ((((w124.setCell ⟨gb509,0,none⟩ (.slice Ao125 t503.length co125)).setCell ⟨gb509,1,none⟩ (.int .i64 t506)).setCell ⟨gb509,2,none⟩ (.bool t507)).heap[gb502]?=some (.cells #[.slice Ao115 t496.length co115,.int .i64 t499,.bool t500] 62 (0,0))):=⟨by(with_reducible repeat (first|refine blk_drewN ?_ _|refine blk_drew ?_|refine blk_alloc ?_ _));refine blk_far ?_ NB502_509.out _;(with_reducible repeat (first|refine blk_drewN ?_ _|refine blk_drew ?_|refine blk_alloc ?_ _));refine blk_far ?_ NB502_509.out _;(with_reducible repeat (first|refine blk_drewN ?_ _|refine blk_drew ?_|refine blk_alloc ?_ _));refine blk_far ?_ NB502_509.out _;(with_reducible repeat (first|refine blk_drewN ?_ _|refine blk_drew ?_|refine blk_alloc ?_ _));exact BK502.out⟩
           have n10_:Aside0 ((((w124.setCell ⟨gb509,0,none⟩ (.slice Ao125 t503.length co125)).setCell ⟨gb509,1,none⟩ (.int .i64 t506)).setCell ⟨gb509,2,none⟩ (.bool t507)).heap[gb509]?=some (.cells #[.slice Ao125 t503.length co125,.int .i64 t506,.bool t507] 62 (0,0))):=⟨by(with_reducible repeat (first|refine blk_drewN ?_ _|refine blk_drew ?_|refine blk_alloc ?_ _));apply bU3;(with_reducible repeat (first|refine blk_drewN ?_ _|refine blk_drew ?_|refine blk_alloc ?_ _));exact BK509.out⟩
           have n11_:Aside0 (Below w.heap.size w (((w124.setCell ⟨gb509,0,none⟩ (.slice Ao125 t503.length co125)).setCell ⟨gb509,1,none⟩ (.int .i64 t506)).setCell ⟨gb509,2,none⟩ (.bool t507))):=⟨bS6 GE468.out GE476.out GE494.out GE495.out GE502.out GE509.out⟩
           (try clear HO_469000)
           (try clear HO_477000)
           (try clear HO489)
           (try clear HO498)
           (try clear HO505)
           (try clear BK468)
           (try clear BK476)
           (try clear BK494)
           (try clear BK495)
           (try clear BK502)
           (try clear BK509)
           (try clear HB)
           generalize (((w124.setCell ⟨gb509,0,none⟩ (.slice Ao125 t503.length co125)).setCell ⟨gb509,1,none⟩ (.int .i64 t506)).setCell ⟨gb509,2,none⟩ (.bool t507))=w144 at n0_ n1_ n2_ n3_ n4_ n5_ n6_ n7_ n8_ n9_ n10_ n11_ ⊢
           have HO_469000:=n0_
           have HO_477000:=n1_
           have HO489:=n2_
           have HO498:=n3_
           have HO505:=n4_
           have BK468:=n5_
           have BK476:=n6_
           have BK494:=n7_
           have BK495:=n8_
           have BK502:=n9_
           have BK509:=n10_
           have HB:=n11_
           clear n0_ n1_ n2_ n3_ n4_ n5_ n6_ n7_ n8_ n9_ n10_ n11_
           (try (rw[drewN_self w144];generalize hq_:World.drewN w144 _=w144;have n0_:=am (Kd.R_at hq_ HO_469000.out);have n1_:=am (Kd.R_at hq_ HO_477000.out);have n2_:=am (Kd.R_at hq_ HO489.out);have n3_:=am (Kd.R_at hq_ HO498.out);have n4_:=am (Kd.R_at hq_ HO505.out);have n5_:=am (blk_at hq_ BK468.out);have n6_:=am (blk_at hq_ BK476.out);have n7_:=am (blk_at hq_ BK494.out);have n8_:=am (blk_at hq_ BK495.out);have n9_:=am (blk_at hq_ BK502.out);have n10_:=am (blk_at hq_ BK509.out);have n11_:=am (below_at hq_ HB.out);clear hq_ HO_469000 HO_477000 HO489 HO498 HO505 BK468 BK476 BK494 BK495 BK502 BK509 HB;have HO_469000:=n0_;have HO_477000:=n1_;have HO489:=n2_;have HO498:=n3_;have HO505:=n4_;have BK468:=n5_;have BK476:=n6_;have BK494:=n7_;have BK495:=n8_;have BK502:=n9_;have BK509:=n10_;have HB:=n11_;clear n0_ n1_ n2_ n3_ n4_ n5_ n6_ n7_ n8_ n9_ n10_ n11_))
           have n0_:=am (Kd.R_drew HO_469000.out)
           have n1_:=am (Kd.R_drew HO_477000.out)
           have n2_:=am (Kd.R_drew HO489.out)
           have n3_:=am (Kd.R_drew HO498.out)
           have n4_:=am (Kd.R_drew HO505.out)
           have n5_:=am (blk_drew BK468.out)
           have n6_:=am (blk_drew BK476.out)
           have n7_:=am (blk_drew BK494.out)
           have n8_:=am (blk_drew BK495.out)
           have n9_:=am (blk_drew BK502.out)
           have n10_:=am (blk_drew BK509.out)
           have n11_:=am (below_drew1 HB.out)
           clear HO_469000 HO_477000 HO489 HO498 HO505 BK468 BK476 BK494 BK495 BK502 BK509 HB
           have HO_469000:=n0_
           have HO_477000:=n1_
           have HO489:=n2_
           have HO498:=n3_
           have HO505:=n4_
           have BK468:=n5_
           have BK476:=n6_
           have BK494:=n7_
           have BK495:=n8_
           have BK502:=n9_
           have BK509:=n10_
           have HB:=n11_
           clear n0_ n1_ n2_ n3_ n4_ n5_ n6_ n7_ n8_ n9_ n10_ n11_
           refine start_ (n:=16) (S:=fun w'=>w'.cell? ⟨gb502,0,none⟩=some (.slice Ao115 t496.length co115)∧w'.cell? ⟨gb502,1,none⟩=some (.int .i64 t499)∧w'.cell? ⟨gb502,2,none⟩=some (.bool t500)∧w'.cell? ⟨gb509,0,none⟩=some (.slice Ao125 t503.length co125)∧w'.cell? ⟨gb509,1,none⟩=some (.int .i64 t506)∧w'.cell? ⟨gb509,2,none⟩=some (.bool t507)) (ds:=[]) #[false,false,false,false,false,false,false,false,false,false,false,false,false,false,false,false] (b4_) rfl rfl ⟨(blk_cell BK502.out 0).trans rfl,(blk_cell BK502.out 1).trans rfl,(blk_cell BK502.out 2).trans rfl,(blk_cell BK509.out 0).trans rfl,(blk_cell BK509.out 1).trans rfl,(blk_cell BK509.out 2).trans rfl⟩ (fun hHeld => ?_);refine with_tabW laws_FnSpray.tab16 laws_FnSpray.bits16 (fun HT_ HW_ => ?_)
           generalize w144.drew=w145 at HO_469000 HO_477000 HO489 HO498 HO505 BK468 BK476 BK494 BK495 BK502 BK509 HB hHeld ⊢
           refine pure_ (i:=0) (N:=some 150) (v:=?_) (a':=?_) #[true,false,false,false,false,false,false,false,false,false,false,false,false,false,false,false] rfl rfl (any_of HT_.out (b4_)) (fun _ _ _ h=>h) (Or.inl ⟨by rfl,?_⟩) ?_ ?_
           rotate_left
           ·intro w'
            go_simp
            with_reducible rfl
           rotate_left
           ·simp only[Act.put,zA,zB,zC,i64_w,i32_w]
            rfl
           refine pure_ (i:=1) (N:=some 151) (v:=?_) (a':=?_) #[true,true,false,false,false,false,false,false,false,false,false,false,false,false,false,false] rfl rfl (any_of HT_.out (b4_)) (fun _ _ _ h=>h) (Or.inl ⟨by rfl,?_⟩) ?_ ?_
           rotate_left
           ·intro w'
            go_simp
            with_reducible rfl
           rotate_left
           ·simp only[Act.put,zA,zB,zC,i64_w,i32_w]
            rfl
           refine pure_ (i:=2) (N:=some 152) (v:=?_) (a':=?_) #[true,true,true,false,false,false,false,false,false,false,false,false,false,false,false,false] rfl rfl (any_of HT_.out (b4_)) (fun _ _ _ h=>h) (Or.inl ⟨by rfl,?_⟩) ?_ ?_
           rotate_left
           ·intro w'
            go_simp
            with_reducible rfl
           rotate_left
           ·simp only[Act.put,zA,zB,zC,i64_w,i32_w]
            rfl
           refine pure_ (i:=3) (N:=some 153) (v:=?_) (a':=?_) #[true,true,true,true,false,false,false,false,false,false,false,false,false,false,false,false] rfl rfl (any_of HT_.out (b4_)) (fun _ _ _ h=>h) (Or.inl ⟨by rfl,?_⟩) ?_ ?_
           rotate_left
           ·intro w'
            go_simp
            with_reducible rfl
           rotate_left
           ·simp only[Act.put,zA,zB,zC,i64_w,i32_w]
            rfl
           refine take_ (i:=4) (N:=some 154) (v:=?_) (a':=?_) #[true,true,true,true,true,false,false,false,false,false,false,false,false,false,false,false] rfl rfl (take_ofW HT_.out HW_.out (b4_)) (fun _ _ _ h=>h) (Or.inl ⟨by rfl,?_⟩) hHeld ?_ ?_
           rotate_left
           ·rintro w' ⟨s0,s1,s2,s3,s4,s5⟩
            go_simp
            with_reducible rfl
           rotate_left
           ·simp only[Act.put,zA,zB,zC,i64_w,i32_w]
            rfl
           refine take_ (i:=5) (N:=some 155) (v:=?_) (a':=?_) #[true,true,true,true,true,true,false,false,false,false,false,false,false,false,false,false] rfl rfl (take_ofW HT_.out HW_.out (b4_)) (fun _ _ _ h=>h) (Or.inl ⟨by rfl,?_⟩) hHeld ?_ ?_
           rotate_left
           ·rintro w' ⟨s0,s1,s2,s3,s4,s5⟩
            go_simp
            with_reducible rfl
           rotate_left
           ·simp only[Act.put,zA,zB,zC,i64_w,i32_w]
            rfl
           refine one_ (i:=6) (N:=some 156) #[true,true,true,true,true,true,true,false,false,false,false,false,false,false,false,false] rfl rfl (one_of HT_.out (b4_)) (b17_) (fun K hK => ?_)
           refine goes_ Try.func40 (b4_) rfl #[.agg #[.slice Ao115 t496.length co115,.int .i64 t499,.bool t500],.agg #[.slice Ao125 t503.length co125,.int .i64 t506,.bool t507]] (by rfl) rfl rfl (b27_) ?_
           with_reducible refine(laws_sameSprays.calls kj26 _ _ t496 t499 t500 _ _ t503 t506 t507 false _ ?side1 ?side2 ?side3 ?side4 A135.out).mono ?_
           (case side1=>exact bT HO498.out)
           (case side2=>exact(Kd.R_reads' HO498.out).2.1)
           (case side3=>exact bT HO505.out)
           (case side4=>exact(Kd.R_reads' HO505.out).2.1)
           rintro e w146 ⟨rfl,hb⟩
           refine⟨_,rfl,?_⟩
           have n0_:=am (Kd.R_below (bK HO_469000.out) hb)
           have n1_:=am (Kd.R_below (bK HO_477000.out) hb)
           have n2_:=am (Kd.R_below (bK HO489.out) hb)
           have n3_:=am (Kd.R_below (bK HO498.out) hb)
           have n4_:=am (Kd.R_below (bK HO505.out) hb)
           have n5_:=am (bM BK468.out hb)
           have n6_:=am (bM BK476.out hb)
           have n7_:=am (bM BK494.out hb)
           have n8_:=am (bM BK495.out hb)
           have n9_:=am (bM BK502.out hb)
           have n10_:=am (bM BK509.out hb)
           have n11_:=am (below_step (bS6 GE468.out GE476.out GE494.out GE495.out GE502.out GE509.out) hb)
           clear HO_469000 HO_477000 HO489 HO498 HO505 BK468 BK476 BK494 BK495 BK502 BK509 HB
           have HO_469000:=n0_
           have HO_477000:=n1_
           have HO489:=n2_
           have HO498:=n3_
           have HO505:=n4_
           have BK468:=n5_
           have BK476:=n6_
           have BK494:=n7_
           have BK495:=n8_
           have BK502:=n9_
           have BK509:=n10_
           have HB:=n11_
           clear n0_ n1_ n2_ n3_ n4_ n5_ n6_ n7_ n8_ n9_ n10_ n11_
           (try clear hb)
           (try clear hb2)
           (try clear hk)
           (try clear hi)
           refine hK.out _ _ ⟨(blk_cell BK502.out 0).trans rfl,(blk_cell BK502.out 1).trans rfl,(blk_cell BK502.out 2).trans rfl,(blk_cell BK509.out 0).trans rfl,(blk_cell BK509.out 1).trans rfl,(blk_cell BK509.out 2).trans rfl⟩ (fun hHeld => ?_)
           clear hK K
           refine norm_ (a':=?_) ?_ ?_
           rotate_left
           ·show Act.put _ (some 156) _=_
            simp only[Act.put,zA,zB,zC,i64_w,i32_w]
            rfl
           refine pure_ (i:=7) (N:=some 157) (v:=?_) (a':=?_) #[true,true,true,true,true,true,true,true,false,false,false,false,false,false,false,false] rfl rfl (any_of HT_.out (b4_)) (fun _ _ _ h=>h) (Or.inl ⟨by rfl,?_⟩) ?_ ?_
           rotate_left
           ·intro w'
            go_simp
            with_reducible rfl
           rotate_left
           ·simp only[Act.put,zA,zB,zC,i64_w,i32_w]
            rfl
           refine pure_ (i:=8) (N:=some 158) (v:=?_) (a':=?_) #[true,true,true,true,true,true,true,true,true,false,false,false,false,false,false,false] rfl rfl (any_of HT_.out (b4_)) (fun _ _ _ h=>h) (Or.inl ⟨by rfl,?_⟩) ?_ ?_
           rotate_left
           ·intro w'
            go_simp
            with_reducible rfl
           rotate_left
           ·simp only[Act.put,zA,zB,zC,i64_w,i32_w]
            rfl
           refine pure_ (i:=9) (N:=some 159) (v:=?_) (a':=?_) #[true,true,true,true,true,true,true,true,true,true,false,false,false,false,false,false] rfl rfl (any_of HT_.out (b4_)) (fun _ _ _ h=>h) (Or.inl ⟨by rfl,?_⟩) ?_ ?_
           rotate_left
           ·intro w'
            go_simp
            with_reducible rfl
           rotate_left
           ·simp only[Act.put,zA,zB,zC,i64_w,i32_w]
            rfl
           refine pure_ (i:=10) (N:=some 160) (v:=undef) (a':=?_) #[true,true,true,true,true,true,true,true,true,true,true,false,false,false,false,false] rfl rfl (any_of HT_.out (b4_)) (fun _ _ _ h=>h) (Or.inr ⟨by rfl,rfl⟩) ?_ ?_
           rotate_left
           ·simp only[Act.put,zA,zB,zC,i64_w,i32_w]
            rfl
           refine pure_ (i:=11) (N:=some 161) (v:=undef) (a':=?_) #[true,true,true,true,true,true,true,true,true,true,true,true,false,false,false,false] rfl rfl (any_of HT_.out (b4_)) (fun _ _ _ h=>h) (Or.inr ⟨by rfl,rfl⟩) ?_ ?_
           rotate_left
           ·simp only[Act.put,zA,zB,zC,i64_w,i32_w]
            rfl
           refine pure_ (i:=12) (N:=some 162) (v:=undef) (a':=?_) #[true,true,true,true,true,true,true,true,true,true,true,true,true,false,false,false] rfl rfl (any_of HT_.out (b4_)) (fun _ _ _ h=>h) (Or.inr ⟨by rfl,rfl⟩) ?_ ?_
           rotate_left
           ·simp only[Act.put,zA,zB,zC,i64_w,i32_w]
            rfl
           refine pure_ (i:=13) (N:=some 163) (v:=undef) (a':=?_) #[true,true,true,true,true,true,true,true,true,true,true,true,true,true,false,false] rfl rfl (any_of HT_.out (b4_)) (fun _ _ _ h=>h) (Or.inr ⟨by rfl,rfl⟩) ?_ ?_
           rotate_left
           ·simp only[Act.put,zA,zB,zC,i64_w,i32_w]
            rfl
           refine pure_ (i:=14) (N:=some 164) (v:=undef) (a':=?_) #[true,true,true,true,true,true,true,true,true,true,true,true,true,true,true,false] rfl rfl (any_of HT_.out (b4_)) (fun _ _ _ h=>h) (Or.inr ⟨by rfl,rfl⟩) ?_ ?_
           rotate_left
           ·simp only[Act.put,zA,zB,zC,i64_w,i32_w]
            rfl
           refine pure_ (i:=15) (N:=some 165) (v:=?_) (a':=?_) #[true,true,true,true,true,true,true,true,true,true,true,true,true,true,true,true] rfl rfl (any_of HT_.out (b4_)) (fun _ _ _ h=>h) (Or.inl ⟨by rfl,?_⟩) ?_ ?_
           rotate_left
           ·intro w'
            go_simp
            with_reducible rfl
           rotate_left
           ·simp only[Act.put,zA,zB,zC,i64_w,i32_w]
            rfl
           refine done_ (done_of HT_.out (b4_)) ?_
           try go_wp2
           go_meet
           case rel=>exact⟨_,(true),(bR),H',⟨by have:=HJ6.out;have:=HJ26.out;first|omega|exact Nat.le_refl _⟩,⟨by(with_reducible repeat (first|apply Kd.R_alloc|apply Kd.R_drewN|apply Kd.R_drew));exact HO_469000.out⟩,⟨by(with_reducible repeat (first|apply Kd.R_alloc|apply Kd.R_drewN|apply Kd.R_drew));exact HO_477000.out⟩,⟨by(with_reducible repeat (first|apply Kd.R_alloc|apply Kd.R_drewN|apply Kd.R_drew));exact HO489.out⟩,⟨by(with_reducible repeat (first|apply Kd.R_alloc|apply Kd.R_drewN|apply Kd.R_drew));exact HO498.out⟩,⟨by(with_reducible repeat (first|apply Kd.R_alloc|apply Kd.R_drewN|apply Kd.R_drew));exact HO505.out⟩,⟨by(with_reducible repeat (first|refine blk_drewN ?_ _|refine blk_drew ?_|refine blk_alloc ?_ _));exact BK468.out⟩,⟨by(with_reducible repeat (first|refine blk_drewN ?_ _|refine blk_drew ?_|refine blk_alloc ?_ _));exact BK476.out⟩,⟨by(with_reducible repeat (first|refine blk_drewN ?_ _|refine blk_drew ?_|refine blk_alloc ?_ _));exact BK494.out⟩,⟨by(with_reducible repeat (first|refine blk_drewN ?_ _|refine blk_drew ?_|refine blk_alloc ?_ _));exact BK495.out⟩,⟨by(with_reducible repeat (first|refine blk_drewN ?_ _|refine blk_drew ?_|refine blk_alloc ?_ _));exact BK502.out⟩,⟨by(with_reducible repeat (first|refine blk_drewN ?_ _|refine blk_drew ?_|refine blk_alloc ?_ _));exact BK509.out⟩,⟨bS6 GE468.out GE476.out GE494.out GE495.out GE502.out GE509.out⟩⟩
       case rest => as_aux_lemma =>
        clear HC101
        try clear c1
        try clear p2
        try clear c4
        try clear c13
        try clear c40
        try clear c44
        try clear c48
        try clear c136
        obtain⟨kq,x165_100,rfl,HA,HJ100,HO_469000,HO_477000,HO_495000,HO_503000,HO_510000,BK468,BK476,BK494,BK495,BK502,BK509,HB⟩:=hcut
        cases kq with
        | zero=>exact absurd HA.out (by simp[laws_FnSpray.j2])
        | succ kj100 =>
         have H:=HA.out
         clear HA
         simp only[laws_FnSpray.j2] at H
         by_cases c147:x165_100=true
         ·subst c147
          have H1:(some false)=some r:=by rw[if_pos rfl] at H;exact H
          clear H
          have H:=H1
          clear H1
          obtain rfl:=Option.some.inj H
          go_wp2
          go_ret
          exact⟨bE,bS6 GE468.out GE476.out GE494.out GE495.out GE502.out GE509.out⟩
         ·replace c147:=Bool.eq_false_iff.mpr c147
          subst c147
          have H1:(if t501=true then ((impl_TokensIn.f kj100 t487 t490 t491).bind fun bt513=>((impl_TokensIn.f kj100 t496 t499 t500).bind fun bt515=>((impl_CarriersIn.f kj100 t487 t490 t491).bind fun bt517=>((impl_CarriersIn.f kj100 t496 t499 t500).bind fun bt521=>(if bt513.2=true then (if bt515.2=true then (if bt513.1=bt515.1 then (if bt517.2=true then (if bt521.2=true then (if (bt521.1.length:Int) < (bt517.1.length:Int) then (some false) else (if t491=true then (if t500=true then (some true) else (some false)) else (some true))) else (some false)) else (some false)) else (some false)) else (some false)) else (some false)))))) else (some true))=some r:=by rw[if_neg (show ¬ (false=true) by decide)] at H;exact H
          clear H
          have H:=H1
          clear H1
          by_cases c148:t501=true
          ·subst c148
           have H1:((impl_TokensIn.f kj100 t487 t490 t491).bind fun bt513=>((impl_TokensIn.f kj100 t496 t499 t500).bind fun bt515=>((impl_CarriersIn.f kj100 t487 t490 t491).bind fun bt517=>((impl_CarriersIn.f kj100 t496 t499 t500).bind fun bt521=>(if bt513.2=true then (if bt515.2=true then (if bt513.1=bt515.1 then (if bt517.2=true then (if bt521.2=true then (if (bt521.1.length:Int) < (bt517.1.length:Int) then (some false) else (if t491=true then (if t500=true then (some true) else (some false)) else (some true))) else (some false)) else (some false)) else (some false)) else (some false)) else (some false))))))=some r:=by rw[if_pos rfl] at H;exact H
           clear H
           have H:=H1
           clear H1
           replace H:=bI_ H
           obtain⟨⟨t513,t514⟩,A1490,H⟩:=H
           have A149:=am A1490
           clear A1490
           replace H:=bI_ H
           obtain⟨⟨t515,t516⟩,A1500,H⟩:=H
           have A150:=am A1500
           clear A1500
           replace H:=bI_ H
           obtain⟨⟨t517,t520⟩,A1510,H⟩:=H
           have A151:=am A1510
           clear A1510
           replace H:=bI_ H
           obtain⟨⟨t521,t524⟩,A1520,H⟩:=H
           have A152:=am A1520
           clear A1520
           by_cases c153:t514=true
           ·subst c153
            have H1:(if t516=true then (if t513=t515 then (if t520=true then (if t524=true then (if (t521.length:Int) < (t517.length:Int) then (some false) else (if t491=true then (if t500=true then (some true) else (some false)) else (some true))) else (some false)) else (some false)) else (some false)) else (some false))=some r:=by rw[if_pos rfl] at H;exact H
            clear H
            have H:=H1
            clear H1
            by_cases c154:t516=true
            ·subst c154
             have H1:(if t513=t515 then (if t520=true then (if t524=true then (if (t521.length:Int) < (t517.length:Int) then (some false) else (if t491=true then (if t500=true then (some true) else (some false)) else (some true))) else (some false)) else (some false)) else (some false))=some r:=by rw[if_pos rfl] at H;exact H
             clear H
             have H:=H1
             clear H1
             by_cases c155:t513=t515
             ·rw[if_pos c155] at H
              have c155b0:(t513 == t515)=true:=beq_iff_eq.mpr c155
              have c155b1:(t513 != t515)=false:=bne_eq_false_iff_eq.mpr c155
              clear c155
              by_cases c156:t520=true
              ·subst c156
               have H1:(if t524=true then (if (t521.length:Int) < (t517.length:Int) then (some false) else (if t491=true then (if t500=true then (some true) else (some false)) else (some true))) else (some false))=some r:=by rw[if_pos rfl] at H;exact H
               clear H
               have H:=H1
               clear H1
               by_cases c157:t524=true
               ·subst c157
                have H1:(if (t521.length:Int) < (t517.length:Int) then (some false) else (if t491=true then (if t500=true then (some true) else (some false)) else (some true)))=some r:=by rw[if_pos rfl] at H;exact H
                clear H
                have H:=H1
                clear H1
                by_cases c158:(t521.length:Int) < (t517.length:Int)
                ·rw[if_pos c158] at H
                 have c158b0:decide ((t521.length:Int) < (t517.length:Int))=true:=decide_eq_true c158
                 have c158b1:decide (t521.length < t517.length)=true:=decide_eq_true (Int.ofNat_lt.mp c158)
                 clear c158
                 obtain rfl:=Option.some.inj H
                 have hnb159:=NB494_468.out
                 have hnc159:=NB468_494.out
                 have hnb160:=NB494_476.out
                 have hnc160:=NB476_494.out
                 have hnb161:=NB494_495.out
                 have hnc161:=NB495_494.out
                 have hnb162:=NB494_502.out
                 have hnc162:=NB502_494.out
                 have hnb163:=NB494_509.out
                 have hnc163:=NB509_494.out
                 obtain⟨hcz164_0,hcz164_1,hcz164_2⟩:=cC3 BK494.out
                 obtain⟨hfz164_0,hfz164_1,hfz164_2⟩:=cF3 BK494.out
                 go_wp2_with (first|((with_reducible refine gate_callee (f:=41) rfl ?_);refine goesA (some 169) rfl rfl Try.func41 #[.agg #[.slice Ao105 t487.length co105,.int .i64 t490,.bool t491]] rfl ?_;(with_reducible refine(impl_TokensIn.calls kj100 _ _ t487 t490 t491 t513 true _ ?side1 ?side2 A149.out).mono ?_);(case side1=>exact bT HO_495000.out);(case side2=>exact(Kd.R_reads' HO_495000.out).2.1);rintro e w165 ⟨rfl,hb⟩;refine⟨_,rfl,?_⟩;have n0_:=am (Kd.R_below (bK HO_469000.out) hb);have n1_:=am (Kd.R_below (bK HO_477000.out) hb);have n2_:=am (Kd.R_below (bK HO_495000.out) hb);have n3_:=am (Kd.R_below (bK HO_503000.out) hb);have n4_:=am (Kd.R_below (bK HO_510000.out) hb);have n5_:=am (bM BK468.out hb);have n6_:=am (bM BK476.out hb);have n7_:=am (bM BK494.out hb);have n8_:=am (bM BK495.out hb);have n9_:=am (bM BK502.out hb);have n10_:=am (bM BK509.out hb);have n11_:=am (below_step (bS6 GE468.out GE476.out GE494.out GE495.out GE502.out GE509.out) hb);clear HO_469000 HO_477000 HO_495000 HO_503000 HO_510000 BK468 BK476 BK494 BK495 BK502 BK509 HB;have HO_469000:=n0_;have HO_477000:=n1_;have HO_495000:=n2_;have HO_503000:=n3_;have HO_510000:=n4_;have BK468:=n5_;have BK476:=n6_;have BK494:=n7_;have BK495:=n8_;have BK502:=n9_;have BK509:=n10_;have HB:=n11_;clear n0_ n1_ n2_ n3_ n4_ n5_ n6_ n7_ n8_ n9_ n10_ n11_;(try clear hb);(try clear hb2);(try clear hk);(try clear hi);have hnb166:=NB502_468.out;have hnc166:=NB468_502.out;have hnb167:=NB502_476.out;have hnc167:=NB476_502.out;have hnb168:=NB502_495.out;have hnc168:=NB495_502.out;have hnb169:=NB502_509.out;have hnc169:=NB509_502.out;obtain⟨hcz170_0,hcz170_1,hcz170_2⟩:=cC3 BK502.out;obtain⟨hfz170_0,hfz170_1,hfz170_2⟩:=cF3 BK502.out)|((with_reducible refine gate_callee (f:=41) rfl ?_);refine goesA (some 174) rfl rfl Try.func41 #[.agg #[.slice Ao115 t496.length co115,.int .i64 t499,.bool t500]] rfl ?_;(with_reducible refine(impl_TokensIn.calls kj100 _ _ t496 t499 t500 t515 true _ ?side1 ?side2 A150.out).mono ?_);(case side1=>exact bT HO_503000.out);(case side2=>exact(Kd.R_reads' HO_503000.out).2.1);rintro e w171 ⟨rfl,hb⟩;refine⟨_,rfl,?_⟩;have n0_:=am (Kd.R_below (bK HO_469000.out) hb);have n1_:=am (Kd.R_below (bK HO_477000.out) hb);have n2_:=am (Kd.R_below (bK HO_495000.out) hb);have n3_:=am (Kd.R_below (bK HO_503000.out) hb);have n4_:=am (Kd.R_below (bK HO_510000.out) hb);have n5_:=am (bM BK468.out hb);have n6_:=am (bM BK476.out hb);have n7_:=am (bM BK494.out hb);have n8_:=am (bM BK495.out hb);have n9_:=am (bM BK502.out hb);have n10_:=am (bM BK509.out hb);have n11_:=am (below_step (bS6 GE468.out GE476.out GE494.out GE495.out GE502.out GE509.out) hb);clear HO_469000 HO_477000 HO_495000 HO_503000 HO_510000 BK468 BK476 BK494 BK495 BK502 BK509 HB;have HO_469000:=n0_;have HO_477000:=n1_;have HO_495000:=n2_;have HO_503000:=n3_;have HO_510000:=n4_;have BK468:=n5_;have BK476:=n6_;have BK494:=n7_;have BK495:=n8_;have BK502:=n9_;have BK509:=n10_;have HB:=n11_;clear n0_ n1_ n2_ n3_ n4_ n5_ n6_ n7_ n8_ n9_ n10_ n11_;(try clear hb);(try clear hb2);(try clear hk);(try clear hi);obtain⟨hcz172_0,hcz172_1,hcz172_2⟩:=cC3 BK494.out;obtain⟨hfz172_0,hfz172_1,hfz172_2⟩:=cF3 BK494.out)|((with_reducible refine gate_callee (f:=42) rfl ?_);refine goesA (some 179) rfl rfl Try.func42 #[.agg #[.slice Ao105 t487.length co105,.int .i64 t490,.bool t491]] rfl ?_;(with_reducible refine(impl_CarriersIn.calls kj100 _ _ t487 t490 t491 t517 true _ ?side1 ?side2 A151.out).mono ?_);(case side1=>exact bT HO_495000.out);(case side2=>exact(Kd.R_reads' HO_495000.out).2.1);rintro e w173 ⟨v518,rfl,ho0,hb⟩;refine⟨_,rfl,?_⟩;have n0_:=am (Kd.R_elder' (bK HO_469000.out) (Kd.R_base ho0) hb);have n1_:=am (Kd.R_elder' (bK HO_477000.out) (Kd.R_base ho0) hb);have n2_:=am (Kd.R_elder' (bK HO_495000.out) (Kd.R_base ho0) hb);have n3_:=am (Kd.R_elder' (bK HO_503000.out) (Kd.R_base ho0) hb);have n4_:=am (Kd.R_elder' (bK HO_510000.out) (Kd.R_base ho0) hb);have n5_:=am (Kd.R_lower (Kd.R_new' (Kd.R_new' (Kd.R_new' (Kd.R_new' (Kd.R_new' ho0 (Kd.R_lt (bK HO_469000.out))) (Kd.R_lt (bK HO_477000.out))) (Kd.R_lt (bK HO_495000.out))) (Kd.R_lt (bK HO_503000.out))) (Kd.R_lt (bK HO_510000.out))) (below_size (bS6 GE468.out GE476.out GE494.out GE495.out GE502.out GE509.out)));have n6_:=am (bM BK468.out hb);have n7_:=am (bM BK476.out hb);have n8_:=am (bM BK494.out hb);have n9_:=am (bM BK495.out hb);have n10_:=am (bM BK502.out hb);have n11_:=am (bM BK509.out hb);have n12_:=am (below_step (bS6 GE468.out GE476.out GE494.out GE495.out GE502.out GE509.out) hb);clear HO_469000 HO_477000 HO_495000 HO_503000 HO_510000 BK468 BK476 BK494 BK495 BK502 BK509 HB;have HO_469000:=n0_;have HO_477000:=n1_;have HO_495000:=n2_;have HO_503000:=n3_;have HO_510000:=n4_;have HO519:=n5_;have BK468:=n6_;have BK476:=n7_;have BK494:=n8_;have BK495:=n9_;have BK502:=n10_;have BK509:=n11_;have HB:=n12_;clear n0_ n1_ n2_ n3_ n4_ n5_ n6_ n7_ n8_ n9_ n10_ n11_ n12_;(try clear hb);(try clear hb2);(try clear hk);(try clear hi);(try clear ho0);obtain⟨hcz174_0,hcz174_1,hcz174_2⟩:=cC3 BK502.out;obtain⟨hfz174_0,hfz174_1,hfz174_2⟩:=cF3 BK502.out)|((with_reducible refine gate_callee (f:=42) rfl ?_);refine goesA (some 184) rfl rfl Try.func42 #[.agg #[.slice Ao115 t496.length co115,.int .i64 t499,.bool t500]] rfl ?_;(with_reducible refine(impl_CarriersIn.calls kj100 _ _ t496 t499 t500 t521 true _ ?side1 ?side2 A152.out).mono ?_);(case side1=>exact bT HO_503000.out);(case side2=>exact(Kd.R_reads' HO_503000.out).2.1);rintro e w175 ⟨v522,rfl,ho0,hb⟩;refine⟨_,rfl,?_⟩;have n0_:=am (Kd.R_elder' (bK HO_469000.out) (Kd.R_base ho0) hb);have n1_:=am (Kd.R_elder' (bK HO_477000.out) (Kd.R_base ho0) hb);have n2_:=am (Kd.R_elder' (bK HO_495000.out) (Kd.R_base ho0) hb);have n3_:=am (Kd.R_elder' (bK HO_503000.out) (Kd.R_base ho0) hb);have n4_:=am (Kd.R_elder' (bK HO_510000.out) (Kd.R_base ho0) hb);have n5_:=am (Kd.R_elder' (bK HO519.out) (Kd.R_base ho0) hb);have n6_:=am (Kd.R_lower (Kd.R_new' (Kd.R_new' (Kd.R_new' (Kd.R_new' (Kd.R_new' (Kd.R_new' ho0 (Kd.R_lt (bK HO_469000.out))) (Kd.R_lt (bK HO_477000.out))) (Kd.R_lt (bK HO_495000.out))) (Kd.R_lt (bK HO_503000.out))) (Kd.R_lt (bK HO_510000.out))) (Kd.R_lt (bK HO519.out))) (below_size (bS6 GE468.out GE476.out GE494.out GE495.out GE502.out GE509.out)));have n7_:=am (bM BK468.out hb);have n8_:=am (bM BK476.out hb);have n9_:=am (bM BK494.out hb);have n10_:=am (bM BK495.out hb);have n11_:=am (bM BK502.out hb);have n12_:=am (bM BK509.out hb);have n13_:=am (below_step (bS6 GE468.out GE476.out GE494.out GE495.out GE502.out GE509.out) hb);clear HO_469000 HO_477000 HO_495000 HO_503000 HO_510000 HO519 BK468 BK476 BK494 BK495 BK502 BK509 HB;have HO_469000:=n0_;have HO_477000:=n1_;have HO_495000:=n2_;have HO_503000:=n3_;have HO_510000:=n4_;have HO519:=n5_;have HO523:=n6_;have BK468:=n7_;have BK476:=n8_;have BK494:=n9_;have BK495:=n10_;have BK502:=n11_;have BK509:=n12_;have HB:=n13_;clear n0_ n1_ n2_ n3_ n4_ n5_ n6_ n7_ n8_ n9_ n10_ n11_ n12_ n13_;(try clear hb);(try clear hb2);(try clear hk);(try clear hi);(try clear ho0);obtain⟨Ao176,co176,eo176⟩:=Kd.R_slice HO523.out;subst eo176;obtain⟨Ao177,co177,eo177⟩:=Kd.R_slice HO519.out;subst eo177))
                 go_ret
                 exact⟨bE,bS6 GE468.out GE476.out GE494.out GE495.out GE502.out GE509.out⟩
                ·rw[if_neg c158] at H
                 have c158b0:decide ((t521.length:Int) < (t517.length:Int))=false:=decide_eq_false c158
                 have c158b1:decide (t521.length < t517.length)=false:=decide_eq_false (fun h=>c158 (Int.ofNat_lt.mpr h))
                 clear c158
                 by_cases c178:t491=true
                 ·subst c178
                  have H1:(if t500=true then (some true) else (some false))=some r:=by rw[if_pos rfl] at H;exact H
                  clear H
                  have H:=H1
                  clear H1
                  by_cases c179:t500=true
                  ·subst c179
                   have H1:(some true)=some r:=by rw[if_pos rfl] at H;exact H
                   clear H
                   have H:=H1
                   clear H1
                   obtain rfl:=Option.some.inj H
                   have hnb180:=NB494_468.out
                   have hnc180:=NB468_494.out
                   have hnb181:=NB494_476.out
                   have hnc181:=NB476_494.out
                   have hnb182:=NB494_495.out
                   have hnc182:=NB495_494.out
                   have hnb183:=NB494_502.out
                   have hnc183:=NB502_494.out
                   have hnb184:=NB494_509.out
                   have hnc184:=NB509_494.out
                   obtain⟨hcz185_0,hcz185_1,hcz185_2⟩:=cC3 BK494.out
                   obtain⟨hfz185_0,hfz185_1,hfz185_2⟩:=cF3 BK494.out
                   go_wp2_with (first|((with_reducible refine gate_callee (f:=41) rfl ?_);refine goesA (some 169) rfl rfl Try.func41 #[.agg #[.slice Ao105 t487.length co105,.int .i64 t490,.bool true]] rfl ?_;(with_reducible refine(impl_TokensIn.calls kj100 _ _ t487 t490 true t513 true _ ?side1 ?side2 A149.out).mono ?_);(case side1=>exact bT HO_495000.out);(case side2=>exact(Kd.R_reads' HO_495000.out).2.1);rintro e w186 ⟨rfl,hb⟩;refine⟨_,rfl,?_⟩;have n0_:=am (Kd.R_below (bK HO_469000.out) hb);have n1_:=am (Kd.R_below (bK HO_477000.out) hb);have n2_:=am (Kd.R_below (bK HO_495000.out) hb);have n3_:=am (Kd.R_below (bK HO_503000.out) hb);have n4_:=am (Kd.R_below (bK HO_510000.out) hb);have n5_:=am (bM BK468.out hb);have n6_:=am (bM BK476.out hb);have n7_:=am (bM BK494.out hb);have n8_:=am (bM BK495.out hb);have n9_:=am (bM BK502.out hb);have n10_:=am (bM BK509.out hb);have n11_:=am (below_step (bS6 GE468.out GE476.out GE494.out GE495.out GE502.out GE509.out) hb);clear HO_469000 HO_477000 HO_495000 HO_503000 HO_510000 BK468 BK476 BK494 BK495 BK502 BK509 HB;have HO_469000:=n0_;have HO_477000:=n1_;have HO_495000:=n2_;have HO_503000:=n3_;have HO_510000:=n4_;have BK468:=n5_;have BK476:=n6_;have BK494:=n7_;have BK495:=n8_;have BK502:=n9_;have BK509:=n10_;have HB:=n11_;clear n0_ n1_ n2_ n3_ n4_ n5_ n6_ n7_ n8_ n9_ n10_ n11_;(try clear hb);(try clear hb2);(try clear hk);(try clear hi);have hnb187:=NB502_468.out;have hnc187:=NB468_502.out;have hnb188:=NB502_476.out;have hnc188:=NB476_502.out;have hnb189:=NB502_495.out;have hnc189:=NB495_502.out;have hnb190:=NB502_509.out;have hnc190:=NB509_502.out;obtain⟨hcz191_0,hcz191_1,hcz191_2⟩:=cC3 BK502.out;obtain⟨hfz191_0,hfz191_1,hfz191_2⟩:=cF3 BK502.out)|((with_reducible refine gate_callee (f:=41) rfl ?_);refine goesA (some 174) rfl rfl Try.func41 #[.agg #[.slice Ao115 t496.length co115,.int .i64 t499,.bool true]] rfl ?_;(with_reducible refine(impl_TokensIn.calls kj100 _ _ t496 t499 true t515 true _ ?side1 ?side2 A150.out).mono ?_);(case side1=>exact bT HO_503000.out);(case side2=>exact(Kd.R_reads' HO_503000.out).2.1);rintro e w192 ⟨rfl,hb⟩;refine⟨_,rfl,?_⟩;have n0_:=am (Kd.R_below (bK HO_469000.out) hb);have n1_:=am (Kd.R_below (bK HO_477000.out) hb);have n2_:=am (Kd.R_below (bK HO_495000.out) hb);have n3_:=am (Kd.R_below (bK HO_503000.out) hb);have n4_:=am (Kd.R_below (bK HO_510000.out) hb);have n5_:=am (bM BK468.out hb);have n6_:=am (bM BK476.out hb);have n7_:=am (bM BK494.out hb);have n8_:=am (bM BK495.out hb);have n9_:=am (bM BK502.out hb);have n10_:=am (bM BK509.out hb);have n11_:=am (below_step (bS6 GE468.out GE476.out GE494.out GE495.out GE502.out GE509.out) hb);clear HO_469000 HO_477000 HO_495000 HO_503000 HO_510000 BK468 BK476 BK494 BK495 BK502 BK509 HB;have HO_469000:=n0_;have HO_477000:=n1_;have HO_495000:=n2_;have HO_503000:=n3_;have HO_510000:=n4_;have BK468:=n5_;have BK476:=n6_;have BK494:=n7_;have BK495:=n8_;have BK502:=n9_;have BK509:=n10_;have HB:=n11_;clear n0_ n1_ n2_ n3_ n4_ n5_ n6_ n7_ n8_ n9_ n10_ n11_;(try clear hb);(try clear hb2);(try clear hk);(try clear hi);obtain⟨hcz193_0,hcz193_1,hcz193_2⟩:=cC3 BK494.out;obtain⟨hfz193_0,hfz193_1,hfz193_2⟩:=cF3 BK494.out)|((with_reducible refine gate_callee (f:=42) rfl ?_);refine goesA (some 179) rfl rfl Try.func42 #[.agg #[.slice Ao105 t487.length co105,.int .i64 t490,.bool true]] rfl ?_;(with_reducible refine(impl_CarriersIn.calls kj100 _ _ t487 t490 true t517 true _ ?side1 ?side2 A151.out).mono ?_);(case side1=>exact bT HO_495000.out);(case side2=>exact(Kd.R_reads' HO_495000.out).2.1);rintro e w194 ⟨v518,rfl,ho0,hb⟩;refine⟨_,rfl,?_⟩;have n0_:=am (Kd.R_elder' (bK HO_469000.out) (Kd.R_base ho0) hb);have n1_:=am (Kd.R_elder' (bK HO_477000.out) (Kd.R_base ho0) hb);have n2_:=am (Kd.R_elder' (bK HO_495000.out) (Kd.R_base ho0) hb);have n3_:=am (Kd.R_elder' (bK HO_503000.out) (Kd.R_base ho0) hb);have n4_:=am (Kd.R_elder' (bK HO_510000.out) (Kd.R_base ho0) hb);have n5_:=am (Kd.R_lower (Kd.R_new' (Kd.R_new' (Kd.R_new' (Kd.R_new' (Kd.R_new' ho0 (Kd.R_lt (bK HO_469000.out))) (Kd.R_lt (bK HO_477000.out))) (Kd.R_lt (bK HO_495000.out))) (Kd.R_lt (bK HO_503000.out))) (Kd.R_lt (bK HO_510000.out))) (below_size (bS6 GE468.out GE476.out GE494.out GE495.out GE502.out GE509.out)));have n6_:=am (bM BK468.out hb);have n7_:=am (bM BK476.out hb);have n8_:=am (bM BK494.out hb);have n9_:=am (bM BK495.out hb);have n10_:=am (bM BK502.out hb);have n11_:=am (bM BK509.out hb);have n12_:=am (below_step (bS6 GE468.out GE476.out GE494.out GE495.out GE502.out GE509.out) hb);clear HO_469000 HO_477000 HO_495000 HO_503000 HO_510000 BK468 BK476 BK494 BK495 BK502 BK509 HB;have HO_469000:=n0_;have HO_477000:=n1_;have HO_495000:=n2_;have HO_503000:=n3_;have HO_510000:=n4_;have HO519:=n5_;have BK468:=n6_;have BK476:=n7_;have BK494:=n8_;have BK495:=n9_;have BK502:=n10_;have BK509:=n11_;have HB:=n12_;clear n0_ n1_ n2_ n3_ n4_ n5_ n6_ n7_ n8_ n9_ n10_ n11_ n12_;(try clear hb);(try clear hb2);(try clear hk);(try clear hi);(try clear ho0);obtain⟨hcz195_0,hcz195_1,hcz195_2⟩:=cC3 BK502.out;obtain⟨hfz195_0,hfz195_1,hfz195_2⟩:=cF3 BK502.out)|((with_reducible refine gate_callee (f:=42) rfl ?_);refine goesA (some 184) rfl rfl Try.func42 #[.agg #[.slice Ao115 t496.length co115,.int .i64 t499,.bool true]] rfl ?_;(with_reducible refine(impl_CarriersIn.calls kj100 _ _ t496 t499 true t521 true _ ?side1 ?side2 A152.out).mono ?_);(case side1=>exact bT HO_503000.out);(case side2=>exact(Kd.R_reads' HO_503000.out).2.1);rintro e w196 ⟨v522,rfl,ho0,hb⟩;refine⟨_,rfl,?_⟩;have n0_:=am (Kd.R_elder' (bK HO_469000.out) (Kd.R_base ho0) hb);have n1_:=am (Kd.R_elder' (bK HO_477000.out) (Kd.R_base ho0) hb);have n2_:=am (Kd.R_elder' (bK HO_495000.out) (Kd.R_base ho0) hb);have n3_:=am (Kd.R_elder' (bK HO_503000.out) (Kd.R_base ho0) hb);have n4_:=am (Kd.R_elder' (bK HO_510000.out) (Kd.R_base ho0) hb);have n5_:=am (Kd.R_elder' (bK HO519.out) (Kd.R_base ho0) hb);have n6_:=am (Kd.R_lower (Kd.R_new' (Kd.R_new' (Kd.R_new' (Kd.R_new' (Kd.R_new' (Kd.R_new' ho0 (Kd.R_lt (bK HO_469000.out))) (Kd.R_lt (bK HO_477000.out))) (Kd.R_lt (bK HO_495000.out))) (Kd.R_lt (bK HO_503000.out))) (Kd.R_lt (bK HO_510000.out))) (Kd.R_lt (bK HO519.out))) (below_size (bS6 GE468.out GE476.out GE494.out GE495.out GE502.out GE509.out)));have n7_:=am (bM BK468.out hb);have n8_:=am (bM BK476.out hb);have n9_:=am (bM BK494.out hb);have n10_:=am (bM BK495.out hb);have n11_:=am (bM BK502.out hb);have n12_:=am (bM BK509.out hb);have n13_:=am (below_step (bS6 GE468.out GE476.out GE494.out GE495.out GE502.out GE509.out) hb);clear HO_469000 HO_477000 HO_495000 HO_503000 HO_510000 HO519 BK468 BK476 BK494 BK495 BK502 BK509 HB;have HO_469000:=n0_;have HO_477000:=n1_;have HO_495000:=n2_;have HO_503000:=n3_;have HO_510000:=n4_;have HO519:=n5_;have HO523:=n6_;have BK468:=n7_;have BK476:=n8_;have BK494:=n9_;have BK495:=n10_;have BK502:=n11_;have BK509:=n12_;have HB:=n13_;clear n0_ n1_ n2_ n3_ n4_ n5_ n6_ n7_ n8_ n9_ n10_ n11_ n12_ n13_;(try clear hb);(try clear hb2);(try clear hk);(try clear hi);(try clear ho0);obtain⟨Ao197,co197,eo197⟩:=Kd.R_slice HO523.out;subst eo197;obtain⟨Ao198,co198,eo198⟩:=Kd.R_slice HO519.out;subst eo198;obtain⟨hcz199_0,hcz199_1,hcz199_2⟩:=cC3 BK494.out;obtain⟨hfz199_0,hfz199_1,hfz199_2⟩:=cF3 BK494.out;obtain⟨hcz200_0,hcz200_1,hcz200_2⟩:=cC3 BK502.out;obtain⟨hfz200_0,hfz200_1,hfz200_2⟩:=cF3 BK502.out))
                   go_ret
                   exact⟨bE,bS6 GE468.out GE476.out GE494.out GE495.out GE502.out GE509.out⟩
                  ·replace c179:=Bool.eq_false_iff.mpr c179
                   subst c179
                   have H1:(some false)=some r:=by rw[if_neg (show ¬ (false=true) by decide)] at H;exact H
                   clear H
                   have H:=H1
                   clear H1
                   obtain rfl:=Option.some.inj H
                   have hnb201:=NB494_468.out
                   have hnc201:=NB468_494.out
                   have hnb202:=NB494_476.out
                   have hnc202:=NB476_494.out
                   have hnb203:=NB494_495.out
                   have hnc203:=NB495_494.out
                   have hnb204:=NB494_502.out
                   have hnc204:=NB502_494.out
                   have hnb205:=NB494_509.out
                   have hnc205:=NB509_494.out
                   obtain⟨hcz206_0,hcz206_1,hcz206_2⟩:=cC3 BK494.out
                   obtain⟨hfz206_0,hfz206_1,hfz206_2⟩:=cF3 BK494.out
                   go_wp2_with (first|((with_reducible refine gate_callee (f:=41) rfl ?_);refine goesA (some 169) rfl rfl Try.func41 #[.agg #[.slice Ao105 t487.length co105,.int .i64 t490,.bool true]] rfl ?_;(with_reducible refine(impl_TokensIn.calls kj100 _ _ t487 t490 true t513 true _ ?side1 ?side2 A149.out).mono ?_);(case side1=>exact bT HO_495000.out);(case side2=>exact(Kd.R_reads' HO_495000.out).2.1);rintro e w207 ⟨rfl,hb⟩;refine⟨_,rfl,?_⟩;have n0_:=am (Kd.R_below (bK HO_469000.out) hb);have n1_:=am (Kd.R_below (bK HO_477000.out) hb);have n2_:=am (Kd.R_below (bK HO_495000.out) hb);have n3_:=am (Kd.R_below (bK HO_503000.out) hb);have n4_:=am (Kd.R_below (bK HO_510000.out) hb);have n5_:=am (bM BK468.out hb);have n6_:=am (bM BK476.out hb);have n7_:=am (bM BK494.out hb);have n8_:=am (bM BK495.out hb);have n9_:=am (bM BK502.out hb);have n10_:=am (bM BK509.out hb);have n11_:=am (below_step (bS6 GE468.out GE476.out GE494.out GE495.out GE502.out GE509.out) hb);clear HO_469000 HO_477000 HO_495000 HO_503000 HO_510000 BK468 BK476 BK494 BK495 BK502 BK509 HB;have HO_469000:=n0_;have HO_477000:=n1_;have HO_495000:=n2_;have HO_503000:=n3_;have HO_510000:=n4_;have BK468:=n5_;have BK476:=n6_;have BK494:=n7_;have BK495:=n8_;have BK502:=n9_;have BK509:=n10_;have HB:=n11_;clear n0_ n1_ n2_ n3_ n4_ n5_ n6_ n7_ n8_ n9_ n10_ n11_;(try clear hb);(try clear hb2);(try clear hk);(try clear hi);have hnb208:=NB502_468.out;have hnc208:=NB468_502.out;have hnb209:=NB502_476.out;have hnc209:=NB476_502.out;have hnb210:=NB502_495.out;have hnc210:=NB495_502.out;have hnb211:=NB502_509.out;have hnc211:=NB509_502.out;obtain⟨hcz212_0,hcz212_1,hcz212_2⟩:=cC3 BK502.out;obtain⟨hfz212_0,hfz212_1,hfz212_2⟩:=cF3 BK502.out)|((with_reducible refine gate_callee (f:=41) rfl ?_);refine goesA (some 174) rfl rfl Try.func41 #[.agg #[.slice Ao115 t496.length co115,.int .i64 t499,.bool false]] rfl ?_;(with_reducible refine(impl_TokensIn.calls kj100 _ _ t496 t499 false t515 true _ ?side1 ?side2 A150.out).mono ?_);(case side1=>exact bT HO_503000.out);(case side2=>exact(Kd.R_reads' HO_503000.out).2.1);rintro e w213 ⟨rfl,hb⟩;refine⟨_,rfl,?_⟩;have n0_:=am (Kd.R_below (bK HO_469000.out) hb);have n1_:=am (Kd.R_below (bK HO_477000.out) hb);have n2_:=am (Kd.R_below (bK HO_495000.out) hb);have n3_:=am (Kd.R_below (bK HO_503000.out) hb);have n4_:=am (Kd.R_below (bK HO_510000.out) hb);have n5_:=am (bM BK468.out hb);have n6_:=am (bM BK476.out hb);have n7_:=am (bM BK494.out hb);have n8_:=am (bM BK495.out hb);have n9_:=am (bM BK502.out hb);have n10_:=am (bM BK509.out hb);have n11_:=am (below_step (bS6 GE468.out GE476.out GE494.out GE495.out GE502.out GE509.out) hb);clear HO_469000 HO_477000 HO_495000 HO_503000 HO_510000 BK468 BK476 BK494 BK495 BK502 BK509 HB;have HO_469000:=n0_;have HO_477000:=n1_;have HO_495000:=n2_;have HO_503000:=n3_;have HO_510000:=n4_;have BK468:=n5_;have BK476:=n6_;have BK494:=n7_;have BK495:=n8_;have BK502:=n9_;have BK509:=n10_;have HB:=n11_;clear n0_ n1_ n2_ n3_ n4_ n5_ n6_ n7_ n8_ n9_ n10_ n11_;(try clear hb);(try clear hb2);(try clear hk);(try clear hi);obtain⟨hcz214_0,hcz214_1,hcz214_2⟩:=cC3 BK494.out;obtain⟨hfz214_0,hfz214_1,hfz214_2⟩:=cF3 BK494.out)|((with_reducible refine gate_callee (f:=42) rfl ?_);refine goesA (some 179) rfl rfl Try.func42 #[.agg #[.slice Ao105 t487.length co105,.int .i64 t490,.bool true]] rfl ?_;(with_reducible refine(impl_CarriersIn.calls kj100 _ _ t487 t490 true t517 true _ ?side1 ?side2 A151.out).mono ?_);(case side1=>exact bT HO_495000.out);(case side2=>exact(Kd.R_reads' HO_495000.out).2.1);rintro e w215 ⟨v518,rfl,ho0,hb⟩;refine⟨_,rfl,?_⟩;have n0_:=am (Kd.R_elder' (bK HO_469000.out) (Kd.R_base ho0) hb);have n1_:=am (Kd.R_elder' (bK HO_477000.out) (Kd.R_base ho0) hb);have n2_:=am (Kd.R_elder' (bK HO_495000.out) (Kd.R_base ho0) hb);have n3_:=am (Kd.R_elder' (bK HO_503000.out) (Kd.R_base ho0) hb);have n4_:=am (Kd.R_elder' (bK HO_510000.out) (Kd.R_base ho0) hb);have n5_:=am (Kd.R_lower (Kd.R_new' (Kd.R_new' (Kd.R_new' (Kd.R_new' (Kd.R_new' ho0 (Kd.R_lt (bK HO_469000.out))) (Kd.R_lt (bK HO_477000.out))) (Kd.R_lt (bK HO_495000.out))) (Kd.R_lt (bK HO_503000.out))) (Kd.R_lt (bK HO_510000.out))) (below_size (bS6 GE468.out GE476.out GE494.out GE495.out GE502.out GE509.out)));have n6_:=am (bM BK468.out hb);have n7_:=am (bM BK476.out hb);have n8_:=am (bM BK494.out hb);have n9_:=am (bM BK495.out hb);have n10_:=am (bM BK502.out hb);have n11_:=am (bM BK509.out hb);have n12_:=am (below_step (bS6 GE468.out GE476.out GE494.out GE495.out GE502.out GE509.out) hb);clear HO_469000 HO_477000 HO_495000 HO_503000 HO_510000 BK468 BK476 BK494 BK495 BK502 BK509 HB;have HO_469000:=n0_;have HO_477000:=n1_;have HO_495000:=n2_;have HO_503000:=n3_;have HO_510000:=n4_;have HO519:=n5_;have BK468:=n6_;have BK476:=n7_;have BK494:=n8_;have BK495:=n9_;have BK502:=n10_;have BK509:=n11_;have HB:=n12_;clear n0_ n1_ n2_ n3_ n4_ n5_ n6_ n7_ n8_ n9_ n10_ n11_ n12_;(try clear hb);(try clear hb2);(try clear hk);(try clear hi);(try clear ho0);obtain⟨hcz216_0,hcz216_1,hcz216_2⟩:=cC3 BK502.out;obtain⟨hfz216_0,hfz216_1,hfz216_2⟩:=cF3 BK502.out)|((with_reducible refine gate_callee (f:=42) rfl ?_);refine goesA (some 184) rfl rfl Try.func42 #[.agg #[.slice Ao115 t496.length co115,.int .i64 t499,.bool false]] rfl ?_;(with_reducible refine(impl_CarriersIn.calls kj100 _ _ t496 t499 false t521 true _ ?side1 ?side2 A152.out).mono ?_);(case side1=>exact bT HO_503000.out);(case side2=>exact(Kd.R_reads' HO_503000.out).2.1);rintro e w217 ⟨v522,rfl,ho0,hb⟩;refine⟨_,rfl,?_⟩;have n0_:=am (Kd.R_elder' (bK HO_469000.out) (Kd.R_base ho0) hb);have n1_:=am (Kd.R_elder' (bK HO_477000.out) (Kd.R_base ho0) hb);have n2_:=am (Kd.R_elder' (bK HO_495000.out) (Kd.R_base ho0) hb);have n3_:=am (Kd.R_elder' (bK HO_503000.out) (Kd.R_base ho0) hb);have n4_:=am (Kd.R_elder' (bK HO_510000.out) (Kd.R_base ho0) hb);have n5_:=am (Kd.R_elder' (bK HO519.out) (Kd.R_base ho0) hb);have n6_:=am (Kd.R_lower (Kd.R_new' (Kd.R_new' (Kd.R_new' (Kd.R_new' (Kd.R_new' (Kd.R_new' ho0 (Kd.R_lt (bK HO_469000.out))) (Kd.R_lt (bK HO_477000.out))) (Kd.R_lt (bK HO_495000.out))) (Kd.R_lt (bK HO_503000.out))) (Kd.R_lt (bK HO_510000.out))) (Kd.R_lt (bK HO519.out))) (below_size (bS6 GE468.out GE476.out GE494.out GE495.out GE502.out GE509.out)));have n7_:=am (bM BK468.out hb);have n8_:=am (bM BK476.out hb);have n9_:=am (bM BK494.out hb);have n10_:=am (bM BK495.out hb);have n11_:=am (bM BK502.out hb);have n12_:=am (bM BK509.out hb);have n13_:=am (below_step (bS6 GE468.out GE476.out GE494.out GE495.out GE502.out GE509.out) hb);clear HO_469000 HO_477000 HO_495000 HO_503000 HO_510000 HO519 BK468 BK476 BK494 BK495 BK502 BK509 HB;have HO_469000:=n0_;have HO_477000:=n1_;have HO_495000:=n2_;have HO_503000:=n3_;have HO_510000:=n4_;have HO519:=n5_;have HO523:=n6_;have BK468:=n7_;have BK476:=n8_;have BK494:=n9_;have BK495:=n10_;have BK502:=n11_;have BK509:=n12_;have HB:=n13_;clear n0_ n1_ n2_ n3_ n4_ n5_ n6_ n7_ n8_ n9_ n10_ n11_ n12_ n13_;(try clear hb);(try clear hb2);(try clear hk);(try clear hi);(try clear ho0);obtain⟨Ao218,co218,eo218⟩:=Kd.R_slice HO523.out;subst eo218;obtain⟨Ao219,co219,eo219⟩:=Kd.R_slice HO519.out;subst eo219;obtain⟨hcz220_0,hcz220_1,hcz220_2⟩:=cC3 BK494.out;obtain⟨hfz220_0,hfz220_1,hfz220_2⟩:=cF3 BK494.out;obtain⟨hcz221_0,hcz221_1,hcz221_2⟩:=cC3 BK502.out;obtain⟨hfz221_0,hfz221_1,hfz221_2⟩:=cF3 BK502.out))
                   go_ret
                   exact⟨bE,bS6 GE468.out GE476.out GE494.out GE495.out GE502.out GE509.out⟩
                 ·replace c178:=Bool.eq_false_iff.mpr c178
                  subst c178
                  have H1:(some true)=some r:=by rw[if_neg (show ¬ (false=true) by decide)] at H;exact H
                  clear H
                  have H:=H1
                  clear H1
                  obtain rfl:=Option.some.inj H
                  have hnb222:=NB494_468.out
                  have hnc222:=NB468_494.out
                  have hnb223:=NB494_476.out
                  have hnc223:=NB476_494.out
                  have hnb224:=NB494_495.out
                  have hnc224:=NB495_494.out
                  have hnb225:=NB494_502.out
                  have hnc225:=NB502_494.out
                  have hnb226:=NB494_509.out
                  have hnc226:=NB509_494.out
                  obtain⟨hcz227_0,hcz227_1,hcz227_2⟩:=cC3 BK494.out
                  obtain⟨hfz227_0,hfz227_1,hfz227_2⟩:=cF3 BK494.out
                  go_wp2_with (first|((with_reducible refine gate_callee (f:=41) rfl ?_);refine goesA (some 169) rfl rfl Try.func41 #[.agg #[.slice Ao105 t487.length co105,.int .i64 t490,.bool false]] rfl ?_;(with_reducible refine(impl_TokensIn.calls kj100 _ _ t487 t490 false t513 true _ ?side1 ?side2 A149.out).mono ?_);(case side1=>exact bT HO_495000.out);(case side2=>exact(Kd.R_reads' HO_495000.out).2.1);rintro e w228 ⟨rfl,hb⟩;refine⟨_,rfl,?_⟩;have n0_:=am (Kd.R_below (bK HO_469000.out) hb);have n1_:=am (Kd.R_below (bK HO_477000.out) hb);have n2_:=am (Kd.R_below (bK HO_495000.out) hb);have n3_:=am (Kd.R_below (bK HO_503000.out) hb);have n4_:=am (Kd.R_below (bK HO_510000.out) hb);have n5_:=am (bM BK468.out hb);have n6_:=am (bM BK476.out hb);have n7_:=am (bM BK494.out hb);have n8_:=am (bM BK495.out hb);have n9_:=am (bM BK502.out hb);have n10_:=am (bM BK509.out hb);have n11_:=am (below_step (bS6 GE468.out GE476.out GE494.out GE495.out GE502.out GE509.out) hb);clear HO_469000 HO_477000 HO_495000 HO_503000 HO_510000 BK468 BK476 BK494 BK495 BK502 BK509 HB;have HO_469000:=n0_;have HO_477000:=n1_;have HO_495000:=n2_;have HO_503000:=n3_;have HO_510000:=n4_;have BK468:=n5_;have BK476:=n6_;have BK494:=n7_;have BK495:=n8_;have BK502:=n9_;have BK509:=n10_;have HB:=n11_;clear n0_ n1_ n2_ n3_ n4_ n5_ n6_ n7_ n8_ n9_ n10_ n11_;(try clear hb);(try clear hb2);(try clear hk);(try clear hi);have hnb229:=NB502_468.out;have hnc229:=NB468_502.out;have hnb230:=NB502_476.out;have hnc230:=NB476_502.out;have hnb231:=NB502_495.out;have hnc231:=NB495_502.out;have hnb232:=NB502_509.out;have hnc232:=NB509_502.out;obtain⟨hcz233_0,hcz233_1,hcz233_2⟩:=cC3 BK502.out;obtain⟨hfz233_0,hfz233_1,hfz233_2⟩:=cF3 BK502.out)|((with_reducible refine gate_callee (f:=41) rfl ?_);refine goesA (some 174) rfl rfl Try.func41 #[.agg #[.slice Ao115 t496.length co115,.int .i64 t499,.bool t500]] rfl ?_;(with_reducible refine(impl_TokensIn.calls kj100 _ _ t496 t499 t500 t515 true _ ?side1 ?side2 A150.out).mono ?_);(case side1=>exact bT HO_503000.out);(case side2=>exact(Kd.R_reads' HO_503000.out).2.1);rintro e w234 ⟨rfl,hb⟩;refine⟨_,rfl,?_⟩;have n0_:=am (Kd.R_below (bK HO_469000.out) hb);have n1_:=am (Kd.R_below (bK HO_477000.out) hb);have n2_:=am (Kd.R_below (bK HO_495000.out) hb);have n3_:=am (Kd.R_below (bK HO_503000.out) hb);have n4_:=am (Kd.R_below (bK HO_510000.out) hb);have n5_:=am (bM BK468.out hb);have n6_:=am (bM BK476.out hb);have n7_:=am (bM BK494.out hb);have n8_:=am (bM BK495.out hb);have n9_:=am (bM BK502.out hb);have n10_:=am (bM BK509.out hb);have n11_:=am (below_step (bS6 GE468.out GE476.out GE494.out GE495.out GE502.out GE509.out) hb);clear HO_469000 HO_477000 HO_495000 HO_503000 HO_510000 BK468 BK476 BK494 BK495 BK502 BK509 HB;have HO_469000:=n0_;have HO_477000:=n1_;have HO_495000:=n2_;have HO_503000:=n3_;have HO_510000:=n4_;have BK468:=n5_;have BK476:=n6_;have BK494:=n7_;have BK495:=n8_;have BK502:=n9_;have BK509:=n10_;have HB:=n11_;clear n0_ n1_ n2_ n3_ n4_ n5_ n6_ n7_ n8_ n9_ n10_ n11_;(try clear hb);(try clear hb2);(try clear hk);(try clear hi);obtain⟨hcz235_0,hcz235_1,hcz235_2⟩:=cC3 BK494.out;obtain⟨hfz235_0,hfz235_1,hfz235_2⟩:=cF3 BK494.out)|((with_reducible refine gate_callee (f:=42) rfl ?_);refine goesA (some 179) rfl rfl Try.func42 #[.agg #[.slice Ao105 t487.length co105,.int .i64 t490,.bool false]] rfl ?_;(with_reducible refine(impl_CarriersIn.calls kj100 _ _ t487 t490 false t517 true _ ?side1 ?side2 A151.out).mono ?_);(case side1=>exact bT HO_495000.out);(case side2=>exact(Kd.R_reads' HO_495000.out).2.1);rintro e w236 ⟨v518,rfl,ho0,hb⟩;refine⟨_,rfl,?_⟩;have n0_:=am (Kd.R_elder' (bK HO_469000.out) (Kd.R_base ho0) hb);have n1_:=am (Kd.R_elder' (bK HO_477000.out) (Kd.R_base ho0) hb);have n2_:=am (Kd.R_elder' (bK HO_495000.out) (Kd.R_base ho0) hb);have n3_:=am (Kd.R_elder' (bK HO_503000.out) (Kd.R_base ho0) hb);have n4_:=am (Kd.R_elder' (bK HO_510000.out) (Kd.R_base ho0) hb);have n5_:=am (Kd.R_lower (Kd.R_new' (Kd.R_new' (Kd.R_new' (Kd.R_new' (Kd.R_new' ho0 (Kd.R_lt (bK HO_469000.out))) (Kd.R_lt (bK HO_477000.out))) (Kd.R_lt (bK HO_495000.out))) (Kd.R_lt (bK HO_503000.out))) (Kd.R_lt (bK HO_510000.out))) (below_size (bS6 GE468.out GE476.out GE494.out GE495.out GE502.out GE509.out)));have n6_:=am (bM BK468.out hb);have n7_:=am (bM BK476.out hb);have n8_:=am (bM BK494.out hb);have n9_:=am (bM BK495.out hb);have n10_:=am (bM BK502.out hb);have n11_:=am (bM BK509.out hb);have n12_:=am (below_step (bS6 GE468.out GE476.out GE494.out GE495.out GE502.out GE509.out) hb);clear HO_469000 HO_477000 HO_495000 HO_503000 HO_510000 BK468 BK476 BK494 BK495 BK502 BK509 HB;have HO_469000:=n0_;have HO_477000:=n1_;have HO_495000:=n2_;have HO_503000:=n3_;have HO_510000:=n4_;have HO519:=n5_;have BK468:=n6_;have BK476:=n7_;have BK494:=n8_;have BK495:=n9_;have BK502:=n10_;have BK509:=n11_;have HB:=n12_;clear n0_ n1_ n2_ n3_ n4_ n5_ n6_ n7_ n8_ n9_ n10_ n11_ n12_;(try clear hb);(try clear hb2);(try clear hk);(try clear hi);(try clear ho0);obtain⟨hcz237_0,hcz237_1,hcz237_2⟩:=cC3 BK502.out;obtain⟨hfz237_0,hfz237_1,hfz237_2⟩:=cF3 BK502.out)|((with_reducible refine gate_callee (f:=42) rfl ?_);refine goesA (some 184) rfl rfl Try.func42 #[.agg #[.slice Ao115 t496.length co115,.int .i64 t499,.bool t500]] rfl ?_;(with_reducible refine(impl_CarriersIn.calls kj100 _ _ t496 t499 t500 t521 true _ ?side1 ?side2 A152.out).mono ?_);(case side1=>exact bT HO_503000.out);(case side2=>exact(Kd.R_reads' HO_503000.out).2.1);rintro e w238 ⟨v522,rfl,ho0,hb⟩;refine⟨_,rfl,?_⟩;have n0_:=am (Kd.R_elder' (bK HO_469000.out) (Kd.R_base ho0) hb);have n1_:=am (Kd.R_elder' (bK HO_477000.out) (Kd.R_base ho0) hb);have n2_:=am (Kd.R_elder' (bK HO_495000.out) (Kd.R_base ho0) hb);have n3_:=am (Kd.R_elder' (bK HO_503000.out) (Kd.R_base ho0) hb);have n4_:=am (Kd.R_elder' (bK HO_510000.out) (Kd.R_base ho0) hb);have n5_:=am (Kd.R_elder' (bK HO519.out) (Kd.R_base ho0) hb);have n6_:=am (Kd.R_lower (Kd.R_new' (Kd.R_new' (Kd.R_new' (Kd.R_new' (Kd.R_new' (Kd.R_new' ho0 (Kd.R_lt (bK HO_469000.out))) (Kd.R_lt (bK HO_477000.out))) (Kd.R_lt (bK HO_495000.out))) (Kd.R_lt (bK HO_503000.out))) (Kd.R_lt (bK HO_510000.out))) (Kd.R_lt (bK HO519.out))) (below_size (bS6 GE468.out GE476.out GE494.out GE495.out GE502.out GE509.out)));have n7_:=am (bM BK468.out hb);have n8_:=am (bM BK476.out hb);have n9_:=am (bM BK494.out hb);have n10_:=am (bM BK495.out hb);have n11_:=am (bM BK502.out hb);have n12_:=am (bM BK509.out hb);have n13_:=am (below_step (bS6 GE468.out GE476.out GE494.out GE495.out GE502.out GE509.out) hb);clear HO_469000 HO_477000 HO_495000 HO_503000 HO_510000 HO519 BK468 BK476 BK494 BK495 BK502 BK509 HB;have HO_469000:=n0_;have HO_477000:=n1_;have HO_495000:=n2_;have HO_503000:=n3_;have HO_510000:=n4_;have HO519:=n5_;have HO523:=n6_;have BK468:=n7_;have BK476:=n8_;have BK494:=n9_;have BK495:=n10_;have BK502:=n11_;have BK509:=n12_;have HB:=n13_;clear n0_ n1_ n2_ n3_ n4_ n5_ n6_ n7_ n8_ n9_ n10_ n11_ n12_ n13_;(try clear hb);(try clear hb2);(try clear hk);(try clear hi);(try clear ho0);obtain⟨Ao239,co239,eo239⟩:=Kd.R_slice HO523.out;subst eo239;obtain⟨Ao240,co240,eo240⟩:=Kd.R_slice HO519.out;subst eo240;obtain⟨hcz241_0,hcz241_1,hcz241_2⟩:=cC3 BK494.out;obtain⟨hfz241_0,hfz241_1,hfz241_2⟩:=cF3 BK494.out))
                  go_ret
                  exact⟨bE,bS6 GE468.out GE476.out GE494.out GE495.out GE502.out GE509.out⟩
               ·replace c157:=Bool.eq_false_iff.mpr c157
                subst c157
                have H1:(some false)=some r:=by rw[if_neg (show ¬ (false=true) by decide)] at H;exact H
                clear H
                have H:=H1
                clear H1
                obtain rfl:=Option.some.inj H
                have hnb242:=NB494_468.out
                have hnc242:=NB468_494.out
                have hnb243:=NB494_476.out
                have hnc243:=NB476_494.out
                have hnb244:=NB494_495.out
                have hnc244:=NB495_494.out
                have hnb245:=NB494_502.out
                have hnc245:=NB502_494.out
                have hnb246:=NB494_509.out
                have hnc246:=NB509_494.out
                obtain⟨hcz247_0,hcz247_1,hcz247_2⟩:=cC3 BK494.out
                obtain⟨hfz247_0,hfz247_1,hfz247_2⟩:=cF3 BK494.out
                go_wp2_with (first|((with_reducible refine gate_callee (f:=41) rfl ?_);refine goesA (some 169) rfl rfl Try.func41 #[.agg #[.slice Ao105 t487.length co105,.int .i64 t490,.bool t491]] rfl ?_;(with_reducible refine(impl_TokensIn.calls kj100 _ _ t487 t490 t491 t513 true _ ?side1 ?side2 A149.out).mono ?_);(case side1=>exact bT HO_495000.out);(case side2=>exact(Kd.R_reads' HO_495000.out).2.1);rintro e w248 ⟨rfl,hb⟩;refine⟨_,rfl,?_⟩;have n0_:=am (Kd.R_below (bK HO_469000.out) hb);have n1_:=am (Kd.R_below (bK HO_477000.out) hb);have n2_:=am (Kd.R_below (bK HO_495000.out) hb);have n3_:=am (Kd.R_below (bK HO_503000.out) hb);have n4_:=am (Kd.R_below (bK HO_510000.out) hb);have n5_:=am (bM BK468.out hb);have n6_:=am (bM BK476.out hb);have n7_:=am (bM BK494.out hb);have n8_:=am (bM BK495.out hb);have n9_:=am (bM BK502.out hb);have n10_:=am (bM BK509.out hb);have n11_:=am (below_step (bS6 GE468.out GE476.out GE494.out GE495.out GE502.out GE509.out) hb);clear HO_469000 HO_477000 HO_495000 HO_503000 HO_510000 BK468 BK476 BK494 BK495 BK502 BK509 HB;have HO_469000:=n0_;have HO_477000:=n1_;have HO_495000:=n2_;have HO_503000:=n3_;have HO_510000:=n4_;have BK468:=n5_;have BK476:=n6_;have BK494:=n7_;have BK495:=n8_;have BK502:=n9_;have BK509:=n10_;have HB:=n11_;clear n0_ n1_ n2_ n3_ n4_ n5_ n6_ n7_ n8_ n9_ n10_ n11_;(try clear hb);(try clear hb2);(try clear hk);(try clear hi);have hnb249:=NB502_468.out;have hnc249:=NB468_502.out;have hnb250:=NB502_476.out;have hnc250:=NB476_502.out;have hnb251:=NB502_495.out;have hnc251:=NB495_502.out;have hnb252:=NB502_509.out;have hnc252:=NB509_502.out;obtain⟨hcz253_0,hcz253_1,hcz253_2⟩:=cC3 BK502.out;obtain⟨hfz253_0,hfz253_1,hfz253_2⟩:=cF3 BK502.out)|((with_reducible refine gate_callee (f:=41) rfl ?_);refine goesA (some 174) rfl rfl Try.func41 #[.agg #[.slice Ao115 t496.length co115,.int .i64 t499,.bool t500]] rfl ?_;(with_reducible refine(impl_TokensIn.calls kj100 _ _ t496 t499 t500 t515 true _ ?side1 ?side2 A150.out).mono ?_);(case side1=>exact bT HO_503000.out);(case side2=>exact(Kd.R_reads' HO_503000.out).2.1);rintro e w254 ⟨rfl,hb⟩;refine⟨_,rfl,?_⟩;have n0_:=am (Kd.R_below (bK HO_469000.out) hb);have n1_:=am (Kd.R_below (bK HO_477000.out) hb);have n2_:=am (Kd.R_below (bK HO_495000.out) hb);have n3_:=am (Kd.R_below (bK HO_503000.out) hb);have n4_:=am (Kd.R_below (bK HO_510000.out) hb);have n5_:=am (bM BK468.out hb);have n6_:=am (bM BK476.out hb);have n7_:=am (bM BK494.out hb);have n8_:=am (bM BK495.out hb);have n9_:=am (bM BK502.out hb);have n10_:=am (bM BK509.out hb);have n11_:=am (below_step (bS6 GE468.out GE476.out GE494.out GE495.out GE502.out GE509.out) hb);clear HO_469000 HO_477000 HO_495000 HO_503000 HO_510000 BK468 BK476 BK494 BK495 BK502 BK509 HB;have HO_469000:=n0_;have HO_477000:=n1_;have HO_495000:=n2_;have HO_503000:=n3_;have HO_510000:=n4_;have BK468:=n5_;have BK476:=n6_;have BK494:=n7_;have BK495:=n8_;have BK502:=n9_;have BK509:=n10_;have HB:=n11_;clear n0_ n1_ n2_ n3_ n4_ n5_ n6_ n7_ n8_ n9_ n10_ n11_;(try clear hb);(try clear hb2);(try clear hk);(try clear hi);obtain⟨hcz255_0,hcz255_1,hcz255_2⟩:=cC3 BK494.out;obtain⟨hfz255_0,hfz255_1,hfz255_2⟩:=cF3 BK494.out)|((with_reducible refine gate_callee (f:=42) rfl ?_);refine goesA (some 179) rfl rfl Try.func42 #[.agg #[.slice Ao105 t487.length co105,.int .i64 t490,.bool t491]] rfl ?_;(with_reducible refine(impl_CarriersIn.calls kj100 _ _ t487 t490 t491 t517 true _ ?side1 ?side2 A151.out).mono ?_);(case side1=>exact bT HO_495000.out);(case side2=>exact(Kd.R_reads' HO_495000.out).2.1);rintro e w256 ⟨v518,rfl,ho0,hb⟩;refine⟨_,rfl,?_⟩;have n0_:=am (Kd.R_elder' (bK HO_469000.out) (Kd.R_base ho0) hb);have n1_:=am (Kd.R_elder' (bK HO_477000.out) (Kd.R_base ho0) hb);have n2_:=am (Kd.R_elder' (bK HO_495000.out) (Kd.R_base ho0) hb);have n3_:=am (Kd.R_elder' (bK HO_503000.out) (Kd.R_base ho0) hb);have n4_:=am (Kd.R_elder' (bK HO_510000.out) (Kd.R_base ho0) hb);have n5_:=am (Kd.R_lower (Kd.R_new' (Kd.R_new' (Kd.R_new' (Kd.R_new' (Kd.R_new' ho0 (Kd.R_lt (bK HO_469000.out))) (Kd.R_lt (bK HO_477000.out))) (Kd.R_lt (bK HO_495000.out))) (Kd.R_lt (bK HO_503000.out))) (Kd.R_lt (bK HO_510000.out))) (below_size (bS6 GE468.out GE476.out GE494.out GE495.out GE502.out GE509.out)));have n6_:=am (bM BK468.out hb);have n7_:=am (bM BK476.out hb);have n8_:=am (bM BK494.out hb);have n9_:=am (bM BK495.out hb);have n10_:=am (bM BK502.out hb);have n11_:=am (bM BK509.out hb);have n12_:=am (below_step (bS6 GE468.out GE476.out GE494.out GE495.out GE502.out GE509.out) hb);clear HO_469000 HO_477000 HO_495000 HO_503000 HO_510000 BK468 BK476 BK494 BK495 BK502 BK509 HB;have HO_469000:=n0_;have HO_477000:=n1_;have HO_495000:=n2_;have HO_503000:=n3_;have HO_510000:=n4_;have HO519:=n5_;have BK468:=n6_;have BK476:=n7_;have BK494:=n8_;have BK495:=n9_;have BK502:=n10_;have BK509:=n11_;have HB:=n12_;clear n0_ n1_ n2_ n3_ n4_ n5_ n6_ n7_ n8_ n9_ n10_ n11_ n12_;(try clear hb);(try clear hb2);(try clear hk);(try clear hi);(try clear ho0);obtain⟨hcz257_0,hcz257_1,hcz257_2⟩:=cC3 BK502.out;obtain⟨hfz257_0,hfz257_1,hfz257_2⟩:=cF3 BK502.out)|((with_reducible refine gate_callee (f:=42) rfl ?_);refine goesA (some 184) rfl rfl Try.func42 #[.agg #[.slice Ao115 t496.length co115,.int .i64 t499,.bool t500]] rfl ?_;(with_reducible refine(impl_CarriersIn.calls kj100 _ _ t496 t499 t500 t521 false _ ?side1 ?side2 A152.out).mono ?_);(case side1=>exact bT HO_503000.out);(case side2=>exact(Kd.R_reads' HO_503000.out).2.1);rintro e w258 ⟨v522,rfl,ho0,hb⟩;refine⟨_,rfl,?_⟩;have n0_:=am (Kd.R_elder' (bK HO_469000.out) (Kd.R_base ho0) hb);have n1_:=am (Kd.R_elder' (bK HO_477000.out) (Kd.R_base ho0) hb);have n2_:=am (Kd.R_elder' (bK HO_495000.out) (Kd.R_base ho0) hb);have n3_:=am (Kd.R_elder' (bK HO_503000.out) (Kd.R_base ho0) hb);have n4_:=am (Kd.R_elder' (bK HO_510000.out) (Kd.R_base ho0) hb);have n5_:=am (Kd.R_elder' (bK HO519.out) (Kd.R_base ho0) hb);have n6_:=am (Kd.R_lower (Kd.R_new' (Kd.R_new' (Kd.R_new' (Kd.R_new' (Kd.R_new' (Kd.R_new' ho0 (Kd.R_lt (bK HO_469000.out))) (Kd.R_lt (bK HO_477000.out))) (Kd.R_lt (bK HO_495000.out))) (Kd.R_lt (bK HO_503000.out))) (Kd.R_lt (bK HO_510000.out))) (Kd.R_lt (bK HO519.out))) (below_size (bS6 GE468.out GE476.out GE494.out GE495.out GE502.out GE509.out)));have n7_:=am (bM BK468.out hb);have n8_:=am (bM BK476.out hb);have n9_:=am (bM BK494.out hb);have n10_:=am (bM BK495.out hb);have n11_:=am (bM BK502.out hb);have n12_:=am (bM BK509.out hb);have n13_:=am (below_step (bS6 GE468.out GE476.out GE494.out GE495.out GE502.out GE509.out) hb);clear HO_469000 HO_477000 HO_495000 HO_503000 HO_510000 HO519 BK468 BK476 BK494 BK495 BK502 BK509 HB;have HO_469000:=n0_;have HO_477000:=n1_;have HO_495000:=n2_;have HO_503000:=n3_;have HO_510000:=n4_;have HO519:=n5_;have HO523:=n6_;have BK468:=n7_;have BK476:=n8_;have BK494:=n9_;have BK495:=n10_;have BK502:=n11_;have BK509:=n12_;have HB:=n13_;clear n0_ n1_ n2_ n3_ n4_ n5_ n6_ n7_ n8_ n9_ n10_ n11_ n12_ n13_;(try clear hb);(try clear hb2);(try clear hk);(try clear hi);(try clear ho0)))
                go_ret
                exact⟨bE,bS6 GE468.out GE476.out GE494.out GE495.out GE502.out GE509.out⟩
              ·replace c156:=Bool.eq_false_iff.mpr c156
               subst c156
               have H1:(some false)=some r:=by rw[if_neg (show ¬ (false=true) by decide)] at H;exact H
               clear H
               have H:=H1
               clear H1
               obtain rfl:=Option.some.inj H
               have hnb259:=NB494_468.out
               have hnc259:=NB468_494.out
               have hnb260:=NB494_476.out
               have hnc260:=NB476_494.out
               have hnb261:=NB494_495.out
               have hnc261:=NB495_494.out
               have hnb262:=NB494_502.out
               have hnc262:=NB502_494.out
               have hnb263:=NB494_509.out
               have hnc263:=NB509_494.out
               obtain⟨hcz264_0,hcz264_1,hcz264_2⟩:=cC3 BK494.out
               obtain⟨hfz264_0,hfz264_1,hfz264_2⟩:=cF3 BK494.out
               go_wp2_with (first|((with_reducible refine gate_callee (f:=41) rfl ?_);refine goesA (some 169) rfl rfl Try.func41 #[.agg #[.slice Ao105 t487.length co105,.int .i64 t490,.bool t491]] rfl ?_;(with_reducible refine(impl_TokensIn.calls kj100 _ _ t487 t490 t491 t513 true _ ?side1 ?side2 A149.out).mono ?_);(case side1=>exact bT HO_495000.out);(case side2=>exact(Kd.R_reads' HO_495000.out).2.1);rintro e w265 ⟨rfl,hb⟩;refine⟨_,rfl,?_⟩;have n0_:=am (Kd.R_below (bK HO_469000.out) hb);have n1_:=am (Kd.R_below (bK HO_477000.out) hb);have n2_:=am (Kd.R_below (bK HO_495000.out) hb);have n3_:=am (Kd.R_below (bK HO_503000.out) hb);have n4_:=am (Kd.R_below (bK HO_510000.out) hb);have n5_:=am (bM BK468.out hb);have n6_:=am (bM BK476.out hb);have n7_:=am (bM BK494.out hb);have n8_:=am (bM BK495.out hb);have n9_:=am (bM BK502.out hb);have n10_:=am (bM BK509.out hb);have n11_:=am (below_step (bS6 GE468.out GE476.out GE494.out GE495.out GE502.out GE509.out) hb);clear HO_469000 HO_477000 HO_495000 HO_503000 HO_510000 BK468 BK476 BK494 BK495 BK502 BK509 HB;have HO_469000:=n0_;have HO_477000:=n1_;have HO_495000:=n2_;have HO_503000:=n3_;have HO_510000:=n4_;have BK468:=n5_;have BK476:=n6_;have BK494:=n7_;have BK495:=n8_;have BK502:=n9_;have BK509:=n10_;have HB:=n11_;clear n0_ n1_ n2_ n3_ n4_ n5_ n6_ n7_ n8_ n9_ n10_ n11_;(try clear hb);(try clear hb2);(try clear hk);(try clear hi);have hnb266:=NB502_468.out;have hnc266:=NB468_502.out;have hnb267:=NB502_476.out;have hnc267:=NB476_502.out;have hnb268:=NB502_495.out;have hnc268:=NB495_502.out;have hnb269:=NB502_509.out;have hnc269:=NB509_502.out;obtain⟨hcz270_0,hcz270_1,hcz270_2⟩:=cC3 BK502.out;obtain⟨hfz270_0,hfz270_1,hfz270_2⟩:=cF3 BK502.out)|((with_reducible refine gate_callee (f:=41) rfl ?_);refine goesA (some 174) rfl rfl Try.func41 #[.agg #[.slice Ao115 t496.length co115,.int .i64 t499,.bool t500]] rfl ?_;(with_reducible refine(impl_TokensIn.calls kj100 _ _ t496 t499 t500 t515 true _ ?side1 ?side2 A150.out).mono ?_);(case side1=>exact bT HO_503000.out);(case side2=>exact(Kd.R_reads' HO_503000.out).2.1);rintro e w271 ⟨rfl,hb⟩;refine⟨_,rfl,?_⟩;have n0_:=am (Kd.R_below (bK HO_469000.out) hb);have n1_:=am (Kd.R_below (bK HO_477000.out) hb);have n2_:=am (Kd.R_below (bK HO_495000.out) hb);have n3_:=am (Kd.R_below (bK HO_503000.out) hb);have n4_:=am (Kd.R_below (bK HO_510000.out) hb);have n5_:=am (bM BK468.out hb);have n6_:=am (bM BK476.out hb);have n7_:=am (bM BK494.out hb);have n8_:=am (bM BK495.out hb);have n9_:=am (bM BK502.out hb);have n10_:=am (bM BK509.out hb);have n11_:=am (below_step (bS6 GE468.out GE476.out GE494.out GE495.out GE502.out GE509.out) hb);clear HO_469000 HO_477000 HO_495000 HO_503000 HO_510000 BK468 BK476 BK494 BK495 BK502 BK509 HB;have HO_469000:=n0_;have HO_477000:=n1_;have HO_495000:=n2_;have HO_503000:=n3_;have HO_510000:=n4_;have BK468:=n5_;have BK476:=n6_;have BK494:=n7_;have BK495:=n8_;have BK502:=n9_;have BK509:=n10_;have HB:=n11_;clear n0_ n1_ n2_ n3_ n4_ n5_ n6_ n7_ n8_ n9_ n10_ n11_;(try clear hb);(try clear hb2);(try clear hk);(try clear hi);obtain⟨hcz272_0,hcz272_1,hcz272_2⟩:=cC3 BK494.out;obtain⟨hfz272_0,hfz272_1,hfz272_2⟩:=cF3 BK494.out)|((with_reducible refine gate_callee (f:=42) rfl ?_);refine goesA (some 179) rfl rfl Try.func42 #[.agg #[.slice Ao105 t487.length co105,.int .i64 t490,.bool t491]] rfl ?_;(with_reducible refine(impl_CarriersIn.calls kj100 _ _ t487 t490 t491 t517 false _ ?side1 ?side2 A151.out).mono ?_);(case side1=>exact bT HO_495000.out);(case side2=>exact(Kd.R_reads' HO_495000.out).2.1);rintro e w273 ⟨v518,rfl,ho0,hb⟩;refine⟨_,rfl,?_⟩;have n0_:=am (Kd.R_elder' (bK HO_469000.out) (Kd.R_base ho0) hb);have n1_:=am (Kd.R_elder' (bK HO_477000.out) (Kd.R_base ho0) hb);have n2_:=am (Kd.R_elder' (bK HO_495000.out) (Kd.R_base ho0) hb);have n3_:=am (Kd.R_elder' (bK HO_503000.out) (Kd.R_base ho0) hb);have n4_:=am (Kd.R_elder' (bK HO_510000.out) (Kd.R_base ho0) hb);have n5_:=am (Kd.R_lower (Kd.R_new' (Kd.R_new' (Kd.R_new' (Kd.R_new' (Kd.R_new' ho0 (Kd.R_lt (bK HO_469000.out))) (Kd.R_lt (bK HO_477000.out))) (Kd.R_lt (bK HO_495000.out))) (Kd.R_lt (bK HO_503000.out))) (Kd.R_lt (bK HO_510000.out))) (below_size (bS6 GE468.out GE476.out GE494.out GE495.out GE502.out GE509.out)));have n6_:=am (bM BK468.out hb);have n7_:=am (bM BK476.out hb);have n8_:=am (bM BK494.out hb);have n9_:=am (bM BK495.out hb);have n10_:=am (bM BK502.out hb);have n11_:=am (bM BK509.out hb);have n12_:=am (below_step (bS6 GE468.out GE476.out GE494.out GE495.out GE502.out GE509.out) hb);clear HO_469000 HO_477000 HO_495000 HO_503000 HO_510000 BK468 BK476 BK494 BK495 BK502 BK509 HB;have HO_469000:=n0_;have HO_477000:=n1_;have HO_495000:=n2_;have HO_503000:=n3_;have HO_510000:=n4_;have HO519:=n5_;have BK468:=n6_;have BK476:=n7_;have BK494:=n8_;have BK495:=n9_;have BK502:=n10_;have BK509:=n11_;have HB:=n12_;clear n0_ n1_ n2_ n3_ n4_ n5_ n6_ n7_ n8_ n9_ n10_ n11_ n12_;(try clear hb);(try clear hb2);(try clear hk);(try clear hi);(try clear ho0);obtain⟨hcz274_0,hcz274_1,hcz274_2⟩:=cC3 BK502.out;obtain⟨hfz274_0,hfz274_1,hfz274_2⟩:=cF3 BK502.out)|((with_reducible refine gate_callee (f:=42) rfl ?_);refine goesA (some 184) rfl rfl Try.func42 #[.agg #[.slice Ao115 t496.length co115,.int .i64 t499,.bool t500]] rfl ?_;(with_reducible refine(impl_CarriersIn.calls kj100 _ _ t496 t499 t500 t521 t524 _ ?side1 ?side2 A152.out).mono ?_);(case side1=>exact bT HO_503000.out);(case side2=>exact(Kd.R_reads' HO_503000.out).2.1);rintro e w275 ⟨v522,rfl,ho0,hb⟩;refine⟨_,rfl,?_⟩;have n0_:=am (Kd.R_elder' (bK HO_469000.out) (Kd.R_base ho0) hb);have n1_:=am (Kd.R_elder' (bK HO_477000.out) (Kd.R_base ho0) hb);have n2_:=am (Kd.R_elder' (bK HO_495000.out) (Kd.R_base ho0) hb);have n3_:=am (Kd.R_elder' (bK HO_503000.out) (Kd.R_base ho0) hb);have n4_:=am (Kd.R_elder' (bK HO_510000.out) (Kd.R_base ho0) hb);have n5_:=am (Kd.R_elder' (bK HO519.out) (Kd.R_base ho0) hb);have n6_:=am (Kd.R_lower (Kd.R_new' (Kd.R_new' (Kd.R_new' (Kd.R_new' (Kd.R_new' (Kd.R_new' ho0 (Kd.R_lt (bK HO_469000.out))) (Kd.R_lt (bK HO_477000.out))) (Kd.R_lt (bK HO_495000.out))) (Kd.R_lt (bK HO_503000.out))) (Kd.R_lt (bK HO_510000.out))) (Kd.R_lt (bK HO519.out))) (below_size (bS6 GE468.out GE476.out GE494.out GE495.out GE502.out GE509.out)));have n7_:=am (bM BK468.out hb);have n8_:=am (bM BK476.out hb);have n9_:=am (bM BK494.out hb);have n10_:=am (bM BK495.out hb);have n11_:=am (bM BK502.out hb);have n12_:=am (bM BK509.out hb);have n13_:=am (below_step (bS6 GE468.out GE476.out GE494.out GE495.out GE502.out GE509.out) hb);clear HO_469000 HO_477000 HO_495000 HO_503000 HO_510000 HO519 BK468 BK476 BK494 BK495 BK502 BK509 HB;have HO_469000:=n0_;have HO_477000:=n1_;have HO_495000:=n2_;have HO_503000:=n3_;have HO_510000:=n4_;have HO519:=n5_;have HO523:=n6_;have BK468:=n7_;have BK476:=n8_;have BK494:=n9_;have BK495:=n10_;have BK502:=n11_;have BK509:=n12_;have HB:=n13_;clear n0_ n1_ n2_ n3_ n4_ n5_ n6_ n7_ n8_ n9_ n10_ n11_ n12_ n13_;(try clear hb);(try clear hb2);(try clear hk);(try clear hi);(try clear ho0)))
               go_ret
               exact⟨bE,bS6 GE468.out GE476.out GE494.out GE495.out GE502.out GE509.out⟩
             ·rw[if_neg c155] at H
              have c155b0:(t513 == t515)=false:=beq_eq_false_iff_ne.mpr c155
              have c155b1:(t513 != t515)=true:=bne_iff_ne.mpr c155
              obtain rfl:=Option.some.inj H
              have hnb276:=NB494_468.out
              have hnc276:=NB468_494.out
              have hnb277:=NB494_476.out
              have hnc277:=NB476_494.out
              have hnb278:=NB494_495.out
              have hnc278:=NB495_494.out
              have hnb279:=NB494_502.out
              have hnc279:=NB502_494.out
              have hnb280:=NB494_509.out
              have hnc280:=NB509_494.out
              obtain⟨hcz281_0,hcz281_1,hcz281_2⟩:=cC3 BK494.out
              obtain⟨hfz281_0,hfz281_1,hfz281_2⟩:=cF3 BK494.out
              go_wp2_with (first|((with_reducible refine gate_callee (f:=41) rfl ?_);refine goesA (some 169) rfl rfl Try.func41 #[.agg #[.slice Ao105 t487.length co105,.int .i64 t490,.bool t491]] rfl ?_;(with_reducible refine(impl_TokensIn.calls kj100 _ _ t487 t490 t491 t513 true _ ?side1 ?side2 A149.out).mono ?_);(case side1=>exact bT HO_495000.out);(case side2=>exact(Kd.R_reads' HO_495000.out).2.1);rintro e w282 ⟨rfl,hb⟩;refine⟨_,rfl,?_⟩;have n0_:=am (Kd.R_below (bK HO_469000.out) hb);have n1_:=am (Kd.R_below (bK HO_477000.out) hb);have n2_:=am (Kd.R_below (bK HO_495000.out) hb);have n3_:=am (Kd.R_below (bK HO_503000.out) hb);have n4_:=am (Kd.R_below (bK HO_510000.out) hb);have n5_:=am (bM BK468.out hb);have n6_:=am (bM BK476.out hb);have n7_:=am (bM BK494.out hb);have n8_:=am (bM BK495.out hb);have n9_:=am (bM BK502.out hb);have n10_:=am (bM BK509.out hb);have n11_:=am (below_step (bS6 GE468.out GE476.out GE494.out GE495.out GE502.out GE509.out) hb);clear HO_469000 HO_477000 HO_495000 HO_503000 HO_510000 BK468 BK476 BK494 BK495 BK502 BK509 HB;have HO_469000:=n0_;have HO_477000:=n1_;have HO_495000:=n2_;have HO_503000:=n3_;have HO_510000:=n4_;have BK468:=n5_;have BK476:=n6_;have BK494:=n7_;have BK495:=n8_;have BK502:=n9_;have BK509:=n10_;have HB:=n11_;clear n0_ n1_ n2_ n3_ n4_ n5_ n6_ n7_ n8_ n9_ n10_ n11_;(try clear hb);(try clear hb2);(try clear hk);(try clear hi);have hnb283:=NB502_468.out;have hnc283:=NB468_502.out;have hnb284:=NB502_476.out;have hnc284:=NB476_502.out;have hnb285:=NB502_495.out;have hnc285:=NB495_502.out;have hnb286:=NB502_509.out;have hnc286:=NB509_502.out;obtain⟨hcz287_0,hcz287_1,hcz287_2⟩:=cC3 BK502.out;obtain⟨hfz287_0,hfz287_1,hfz287_2⟩:=cF3 BK502.out)|((with_reducible refine gate_callee (f:=41) rfl ?_);refine goesA (some 174) rfl rfl Try.func41 #[.agg #[.slice Ao115 t496.length co115,.int .i64 t499,.bool t500]] rfl ?_;(with_reducible refine(impl_TokensIn.calls kj100 _ _ t496 t499 t500 t515 true _ ?side1 ?side2 A150.out).mono ?_);(case side1=>exact bT HO_503000.out);(case side2=>exact(Kd.R_reads' HO_503000.out).2.1);rintro e w288 ⟨rfl,hb⟩;refine⟨_,rfl,?_⟩;have n0_:=am (Kd.R_below (bK HO_469000.out) hb);have n1_:=am (Kd.R_below (bK HO_477000.out) hb);have n2_:=am (Kd.R_below (bK HO_495000.out) hb);have n3_:=am (Kd.R_below (bK HO_503000.out) hb);have n4_:=am (Kd.R_below (bK HO_510000.out) hb);have n5_:=am (bM BK468.out hb);have n6_:=am (bM BK476.out hb);have n7_:=am (bM BK494.out hb);have n8_:=am (bM BK495.out hb);have n9_:=am (bM BK502.out hb);have n10_:=am (bM BK509.out hb);have n11_:=am (below_step (bS6 GE468.out GE476.out GE494.out GE495.out GE502.out GE509.out) hb);clear HO_469000 HO_477000 HO_495000 HO_503000 HO_510000 BK468 BK476 BK494 BK495 BK502 BK509 HB;have HO_469000:=n0_;have HO_477000:=n1_;have HO_495000:=n2_;have HO_503000:=n3_;have HO_510000:=n4_;have BK468:=n5_;have BK476:=n6_;have BK494:=n7_;have BK495:=n8_;have BK502:=n9_;have BK509:=n10_;have HB:=n11_;clear n0_ n1_ n2_ n3_ n4_ n5_ n6_ n7_ n8_ n9_ n10_ n11_;(try clear hb);(try clear hb2);(try clear hk);(try clear hi);obtain⟨hcz289_0,hcz289_1,hcz289_2⟩:=cC3 BK494.out;obtain⟨hfz289_0,hfz289_1,hfz289_2⟩:=cF3 BK494.out)|((with_reducible refine gate_callee (f:=42) rfl ?_);refine goesA (some 179) rfl rfl Try.func42 #[.agg #[.slice Ao105 t487.length co105,.int .i64 t490,.bool t491]] rfl ?_;(with_reducible refine(impl_CarriersIn.calls kj100 _ _ t487 t490 t491 t517 t520 _ ?side1 ?side2 A151.out).mono ?_);(case side1=>exact bT HO_495000.out);(case side2=>exact(Kd.R_reads' HO_495000.out).2.1);rintro e w290 ⟨v518,rfl,ho0,hb⟩;refine⟨_,rfl,?_⟩;have n0_:=am (Kd.R_elder' (bK HO_469000.out) (Kd.R_base ho0) hb);have n1_:=am (Kd.R_elder' (bK HO_477000.out) (Kd.R_base ho0) hb);have n2_:=am (Kd.R_elder' (bK HO_495000.out) (Kd.R_base ho0) hb);have n3_:=am (Kd.R_elder' (bK HO_503000.out) (Kd.R_base ho0) hb);have n4_:=am (Kd.R_elder' (bK HO_510000.out) (Kd.R_base ho0) hb);have n5_:=am (Kd.R_lower (Kd.R_new' (Kd.R_new' (Kd.R_new' (Kd.R_new' (Kd.R_new' ho0 (Kd.R_lt (bK HO_469000.out))) (Kd.R_lt (bK HO_477000.out))) (Kd.R_lt (bK HO_495000.out))) (Kd.R_lt (bK HO_503000.out))) (Kd.R_lt (bK HO_510000.out))) (below_size (bS6 GE468.out GE476.out GE494.out GE495.out GE502.out GE509.out)));have n6_:=am (bM BK468.out hb);have n7_:=am (bM BK476.out hb);have n8_:=am (bM BK494.out hb);have n9_:=am (bM BK495.out hb);have n10_:=am (bM BK502.out hb);have n11_:=am (bM BK509.out hb);have n12_:=am (below_step (bS6 GE468.out GE476.out GE494.out GE495.out GE502.out GE509.out) hb);clear HO_469000 HO_477000 HO_495000 HO_503000 HO_510000 BK468 BK476 BK494 BK495 BK502 BK509 HB;have HO_469000:=n0_;have HO_477000:=n1_;have HO_495000:=n2_;have HO_503000:=n3_;have HO_510000:=n4_;have HO519:=n5_;have BK468:=n6_;have BK476:=n7_;have BK494:=n8_;have BK495:=n9_;have BK502:=n10_;have BK509:=n11_;have HB:=n12_;clear n0_ n1_ n2_ n3_ n4_ n5_ n6_ n7_ n8_ n9_ n10_ n11_ n12_;(try clear hb);(try clear hb2);(try clear hk);(try clear hi);(try clear ho0);obtain⟨hcz291_0,hcz291_1,hcz291_2⟩:=cC3 BK502.out;obtain⟨hfz291_0,hfz291_1,hfz291_2⟩:=cF3 BK502.out)|((with_reducible refine gate_callee (f:=42) rfl ?_);refine goesA (some 184) rfl rfl Try.func42 #[.agg #[.slice Ao115 t496.length co115,.int .i64 t499,.bool t500]] rfl ?_;(with_reducible refine(impl_CarriersIn.calls kj100 _ _ t496 t499 t500 t521 t524 _ ?side1 ?side2 A152.out).mono ?_);(case side1=>exact bT HO_503000.out);(case side2=>exact(Kd.R_reads' HO_503000.out).2.1);rintro e w292 ⟨v522,rfl,ho0,hb⟩;refine⟨_,rfl,?_⟩;have n0_:=am (Kd.R_elder' (bK HO_469000.out) (Kd.R_base ho0) hb);have n1_:=am (Kd.R_elder' (bK HO_477000.out) (Kd.R_base ho0) hb);have n2_:=am (Kd.R_elder' (bK HO_495000.out) (Kd.R_base ho0) hb);have n3_:=am (Kd.R_elder' (bK HO_503000.out) (Kd.R_base ho0) hb);have n4_:=am (Kd.R_elder' (bK HO_510000.out) (Kd.R_base ho0) hb);have n5_:=am (Kd.R_elder' (bK HO519.out) (Kd.R_base ho0) hb);have n6_:=am (Kd.R_lower (Kd.R_new' (Kd.R_new' (Kd.R_new' (Kd.R_new' (Kd.R_new' (Kd.R_new' ho0 (Kd.R_lt (bK HO_469000.out))) (Kd.R_lt (bK HO_477000.out))) (Kd.R_lt (bK HO_495000.out))) (Kd.R_lt (bK HO_503000.out))) (Kd.R_lt (bK HO_510000.out))) (Kd.R_lt (bK HO519.out))) (below_size (bS6 GE468.out GE476.out GE494.out GE495.out GE502.out GE509.out)));have n7_:=am (bM BK468.out hb);have n8_:=am (bM BK476.out hb);have n9_:=am (bM BK494.out hb);have n10_:=am (bM BK495.out hb);have n11_:=am (bM BK502.out hb);have n12_:=am (bM BK509.out hb);have n13_:=am (below_step (bS6 GE468.out GE476.out GE494.out GE495.out GE502.out GE509.out) hb);clear HO_469000 HO_477000 HO_495000 HO_503000 HO_510000 HO519 BK468 BK476 BK494 BK495 BK502 BK509 HB;have HO_469000:=n0_;have HO_477000:=n1_;have HO_495000:=n2_;have HO_503000:=n3_;have HO_510000:=n4_;have HO519:=n5_;have HO523:=n6_;have BK468:=n7_;have BK476:=n8_;have BK494:=n9_;have BK495:=n10_;have BK502:=n11_;have BK509:=n12_;have HB:=n13_;clear n0_ n1_ n2_ n3_ n4_ n5_ n6_ n7_ n8_ n9_ n10_ n11_ n12_ n13_;(try clear hb);(try clear hb2);(try clear hk);(try clear hi);(try clear ho0)))
              go_ret
              exact⟨bE,bS6 GE468.out GE476.out GE494.out GE495.out GE502.out GE509.out⟩
            ·replace c154:=Bool.eq_false_iff.mpr c154
             subst c154
             have H1:(some false)=some r:=by rw[if_neg (show ¬ (false=true) by decide)] at H;exact H
             clear H
             have H:=H1
             clear H1
             obtain rfl:=Option.some.inj H
             have hnb293:=NB494_468.out
             have hnc293:=NB468_494.out
             have hnb294:=NB494_476.out
             have hnc294:=NB476_494.out
             have hnb295:=NB494_495.out
             have hnc295:=NB495_494.out
             have hnb296:=NB494_502.out
             have hnc296:=NB502_494.out
             have hnb297:=NB494_509.out
             have hnc297:=NB509_494.out
             obtain⟨hcz298_0,hcz298_1,hcz298_2⟩:=cC3 BK494.out
             obtain⟨hfz298_0,hfz298_1,hfz298_2⟩:=cF3 BK494.out
             go_wp2_with (first|((with_reducible refine gate_callee (f:=41) rfl ?_);refine goesA (some 169) rfl rfl Try.func41 #[.agg #[.slice Ao105 t487.length co105,.int .i64 t490,.bool t491]] rfl ?_;(with_reducible refine(impl_TokensIn.calls kj100 _ _ t487 t490 t491 t513 true _ ?side1 ?side2 A149.out).mono ?_);(case side1=>exact bT HO_495000.out);(case side2=>exact(Kd.R_reads' HO_495000.out).2.1);rintro e w299 ⟨rfl,hb⟩;refine⟨_,rfl,?_⟩;have n0_:=am (Kd.R_below (bK HO_469000.out) hb);have n1_:=am (Kd.R_below (bK HO_477000.out) hb);have n2_:=am (Kd.R_below (bK HO_495000.out) hb);have n3_:=am (Kd.R_below (bK HO_503000.out) hb);have n4_:=am (Kd.R_below (bK HO_510000.out) hb);have n5_:=am (bM BK468.out hb);have n6_:=am (bM BK476.out hb);have n7_:=am (bM BK494.out hb);have n8_:=am (bM BK495.out hb);have n9_:=am (bM BK502.out hb);have n10_:=am (bM BK509.out hb);have n11_:=am (below_step (bS6 GE468.out GE476.out GE494.out GE495.out GE502.out GE509.out) hb);clear HO_469000 HO_477000 HO_495000 HO_503000 HO_510000 BK468 BK476 BK494 BK495 BK502 BK509 HB;have HO_469000:=n0_;have HO_477000:=n1_;have HO_495000:=n2_;have HO_503000:=n3_;have HO_510000:=n4_;have BK468:=n5_;have BK476:=n6_;have BK494:=n7_;have BK495:=n8_;have BK502:=n9_;have BK509:=n10_;have HB:=n11_;clear n0_ n1_ n2_ n3_ n4_ n5_ n6_ n7_ n8_ n9_ n10_ n11_;(try clear hb);(try clear hb2);(try clear hk);(try clear hi);have hnb300:=NB502_468.out;have hnc300:=NB468_502.out;have hnb301:=NB502_476.out;have hnc301:=NB476_502.out;have hnb302:=NB502_495.out;have hnc302:=NB495_502.out;have hnb303:=NB502_509.out;have hnc303:=NB509_502.out;obtain⟨hcz304_0,hcz304_1,hcz304_2⟩:=cC3 BK502.out;obtain⟨hfz304_0,hfz304_1,hfz304_2⟩:=cF3 BK502.out)|((with_reducible refine gate_callee (f:=41) rfl ?_);refine goesA (some 174) rfl rfl Try.func41 #[.agg #[.slice Ao115 t496.length co115,.int .i64 t499,.bool t500]] rfl ?_;(with_reducible refine(impl_TokensIn.calls kj100 _ _ t496 t499 t500 t515 false _ ?side1 ?side2 A150.out).mono ?_);(case side1=>exact bT HO_503000.out);(case side2=>exact(Kd.R_reads' HO_503000.out).2.1);rintro e w305 ⟨rfl,hb⟩;refine⟨_,rfl,?_⟩;have n0_:=am (Kd.R_below (bK HO_469000.out) hb);have n1_:=am (Kd.R_below (bK HO_477000.out) hb);have n2_:=am (Kd.R_below (bK HO_495000.out) hb);have n3_:=am (Kd.R_below (bK HO_503000.out) hb);have n4_:=am (Kd.R_below (bK HO_510000.out) hb);have n5_:=am (bM BK468.out hb);have n6_:=am (bM BK476.out hb);have n7_:=am (bM BK494.out hb);have n8_:=am (bM BK495.out hb);have n9_:=am (bM BK502.out hb);have n10_:=am (bM BK509.out hb);have n11_:=am (below_step (bS6 GE468.out GE476.out GE494.out GE495.out GE502.out GE509.out) hb);clear HO_469000 HO_477000 HO_495000 HO_503000 HO_510000 BK468 BK476 BK494 BK495 BK502 BK509 HB;have HO_469000:=n0_;have HO_477000:=n1_;have HO_495000:=n2_;have HO_503000:=n3_;have HO_510000:=n4_;have BK468:=n5_;have BK476:=n6_;have BK494:=n7_;have BK495:=n8_;have BK502:=n9_;have BK509:=n10_;have HB:=n11_;clear n0_ n1_ n2_ n3_ n4_ n5_ n6_ n7_ n8_ n9_ n10_ n11_;(try clear hb);(try clear hb2);(try clear hk);(try clear hi);obtain⟨hcz306_0,hcz306_1,hcz306_2⟩:=cC3 BK494.out;obtain⟨hfz306_0,hfz306_1,hfz306_2⟩:=cF3 BK494.out)|((with_reducible refine gate_callee (f:=42) rfl ?_);refine goesA (some 179) rfl rfl Try.func42 #[.agg #[.slice Ao105 t487.length co105,.int .i64 t490,.bool t491]] rfl ?_;(with_reducible refine(impl_CarriersIn.calls kj100 _ _ t487 t490 t491 t517 t520 _ ?side1 ?side2 A151.out).mono ?_);(case side1=>exact bT HO_495000.out);(case side2=>exact(Kd.R_reads' HO_495000.out).2.1);rintro e w307 ⟨v518,rfl,ho0,hb⟩;refine⟨_,rfl,?_⟩;have n0_:=am (Kd.R_elder' (bK HO_469000.out) (Kd.R_base ho0) hb);have n1_:=am (Kd.R_elder' (bK HO_477000.out) (Kd.R_base ho0) hb);have n2_:=am (Kd.R_elder' (bK HO_495000.out) (Kd.R_base ho0) hb);have n3_:=am (Kd.R_elder' (bK HO_503000.out) (Kd.R_base ho0) hb);have n4_:=am (Kd.R_elder' (bK HO_510000.out) (Kd.R_base ho0) hb);have n5_:=am (Kd.R_lower (Kd.R_new' (Kd.R_new' (Kd.R_new' (Kd.R_new' (Kd.R_new' ho0 (Kd.R_lt (bK HO_469000.out))) (Kd.R_lt (bK HO_477000.out))) (Kd.R_lt (bK HO_495000.out))) (Kd.R_lt (bK HO_503000.out))) (Kd.R_lt (bK HO_510000.out))) (below_size (bS6 GE468.out GE476.out GE494.out GE495.out GE502.out GE509.out)));have n6_:=am (bM BK468.out hb);have n7_:=am (bM BK476.out hb);have n8_:=am (bM BK494.out hb);have n9_:=am (bM BK495.out hb);have n10_:=am (bM BK502.out hb);have n11_:=am (bM BK509.out hb);have n12_:=am (below_step (bS6 GE468.out GE476.out GE494.out GE495.out GE502.out GE509.out) hb);clear HO_469000 HO_477000 HO_495000 HO_503000 HO_510000 BK468 BK476 BK494 BK495 BK502 BK509 HB;have HO_469000:=n0_;have HO_477000:=n1_;have HO_495000:=n2_;have HO_503000:=n3_;have HO_510000:=n4_;have HO519:=n5_;have BK468:=n6_;have BK476:=n7_;have BK494:=n8_;have BK495:=n9_;have BK502:=n10_;have BK509:=n11_;have HB:=n12_;clear n0_ n1_ n2_ n3_ n4_ n5_ n6_ n7_ n8_ n9_ n10_ n11_ n12_;(try clear hb);(try clear hb2);(try clear hk);(try clear hi);(try clear ho0);obtain⟨hcz308_0,hcz308_1,hcz308_2⟩:=cC3 BK502.out;obtain⟨hfz308_0,hfz308_1,hfz308_2⟩:=cF3 BK502.out)|((with_reducible refine gate_callee (f:=42) rfl ?_);refine goesA (some 184) rfl rfl Try.func42 #[.agg #[.slice Ao115 t496.length co115,.int .i64 t499,.bool t500]] rfl ?_;(with_reducible refine(impl_CarriersIn.calls kj100 _ _ t496 t499 t500 t521 t524 _ ?side1 ?side2 A152.out).mono ?_);(case side1=>exact bT HO_503000.out);(case side2=>exact(Kd.R_reads' HO_503000.out).2.1);rintro e w309 ⟨v522,rfl,ho0,hb⟩;refine⟨_,rfl,?_⟩;have n0_:=am (Kd.R_elder' (bK HO_469000.out) (Kd.R_base ho0) hb);have n1_:=am (Kd.R_elder' (bK HO_477000.out) (Kd.R_base ho0) hb);have n2_:=am (Kd.R_elder' (bK HO_495000.out) (Kd.R_base ho0) hb);have n3_:=am (Kd.R_elder' (bK HO_503000.out) (Kd.R_base ho0) hb);have n4_:=am (Kd.R_elder' (bK HO_510000.out) (Kd.R_base ho0) hb);have n5_:=am (Kd.R_elder' (bK HO519.out) (Kd.R_base ho0) hb);have n6_:=am (Kd.R_lower (Kd.R_new' (Kd.R_new' (Kd.R_new' (Kd.R_new' (Kd.R_new' (Kd.R_new' ho0 (Kd.R_lt (bK HO_469000.out))) (Kd.R_lt (bK HO_477000.out))) (Kd.R_lt (bK HO_495000.out))) (Kd.R_lt (bK HO_503000.out))) (Kd.R_lt (bK HO_510000.out))) (Kd.R_lt (bK HO519.out))) (below_size (bS6 GE468.out GE476.out GE494.out GE495.out GE502.out GE509.out)));have n7_:=am (bM BK468.out hb);have n8_:=am (bM BK476.out hb);have n9_:=am (bM BK494.out hb);have n10_:=am (bM BK495.out hb);have n11_:=am (bM BK502.out hb);have n12_:=am (bM BK509.out hb);have n13_:=am (below_step (bS6 GE468.out GE476.out GE494.out GE495.out GE502.out GE509.out) hb);clear HO_469000 HO_477000 HO_495000 HO_503000 HO_510000 HO519 BK468 BK476 BK494 BK495 BK502 BK509 HB;have HO_469000:=n0_;have HO_477000:=n1_;have HO_495000:=n2_;have HO_503000:=n3_;have HO_510000:=n4_;have HO519:=n5_;have HO523:=n6_;have BK468:=n7_;have BK476:=n8_;have BK494:=n9_;have BK495:=n10_;have BK502:=n11_;have BK509:=n12_;have HB:=n13_;clear n0_ n1_ n2_ n3_ n4_ n5_ n6_ n7_ n8_ n9_ n10_ n11_ n12_ n13_;(try clear hb);(try clear hb2);(try clear hk);(try clear hi);(try clear ho0)))
             go_ret
             exact⟨bE,bS6 GE468.out GE476.out GE494.out GE495.out GE502.out GE509.out⟩
           ·replace c153:=Bool.eq_false_iff.mpr c153
            subst c153
            have H1:(some false)=some r:=by rw[if_neg (show ¬ (false=true) by decide)] at H;exact H
            clear H
            have H:=H1
            clear H1
            obtain rfl:=Option.some.inj H
            have hnb310:=NB494_468.out
            have hnc310:=NB468_494.out
            have hnb311:=NB494_476.out
            have hnc311:=NB476_494.out
            have hnb312:=NB494_495.out
            have hnc312:=NB495_494.out
            have hnb313:=NB494_502.out
            have hnc313:=NB502_494.out
            have hnb314:=NB494_509.out
            have hnc314:=NB509_494.out
            obtain⟨hcz315_0,hcz315_1,hcz315_2⟩:=cC3 BK494.out
            obtain⟨hfz315_0,hfz315_1,hfz315_2⟩:=cF3 BK494.out
            go_wp2_with (first|((with_reducible refine gate_callee (f:=41) rfl ?_);refine goesA (some 169) rfl rfl Try.func41 #[.agg #[.slice Ao105 t487.length co105,.int .i64 t490,.bool t491]] rfl ?_;(with_reducible refine(impl_TokensIn.calls kj100 _ _ t487 t490 t491 t513 false _ ?side1 ?side2 A149.out).mono ?_);(case side1=>exact bT HO_495000.out);(case side2=>exact(Kd.R_reads' HO_495000.out).2.1);rintro e w316 ⟨rfl,hb⟩;refine⟨_,rfl,?_⟩;have n0_:=am (Kd.R_below (bK HO_469000.out) hb);have n1_:=am (Kd.R_below (bK HO_477000.out) hb);have n2_:=am (Kd.R_below (bK HO_495000.out) hb);have n3_:=am (Kd.R_below (bK HO_503000.out) hb);have n4_:=am (Kd.R_below (bK HO_510000.out) hb);have n5_:=am (bM BK468.out hb);have n6_:=am (bM BK476.out hb);have n7_:=am (bM BK494.out hb);have n8_:=am (bM BK495.out hb);have n9_:=am (bM BK502.out hb);have n10_:=am (bM BK509.out hb);have n11_:=am (below_step (bS6 GE468.out GE476.out GE494.out GE495.out GE502.out GE509.out) hb);clear HO_469000 HO_477000 HO_495000 HO_503000 HO_510000 BK468 BK476 BK494 BK495 BK502 BK509 HB;have HO_469000:=n0_;have HO_477000:=n1_;have HO_495000:=n2_;have HO_503000:=n3_;have HO_510000:=n4_;have BK468:=n5_;have BK476:=n6_;have BK494:=n7_;have BK495:=n8_;have BK502:=n9_;have BK509:=n10_;have HB:=n11_;clear n0_ n1_ n2_ n3_ n4_ n5_ n6_ n7_ n8_ n9_ n10_ n11_;(try clear hb);(try clear hb2);(try clear hk);(try clear hi);have hnb317:=NB502_468.out;have hnc317:=NB468_502.out;have hnb318:=NB502_476.out;have hnc318:=NB476_502.out;have hnb319:=NB502_495.out;have hnc319:=NB495_502.out;have hnb320:=NB502_509.out;have hnc320:=NB509_502.out;obtain⟨hcz321_0,hcz321_1,hcz321_2⟩:=cC3 BK502.out;obtain⟨hfz321_0,hfz321_1,hfz321_2⟩:=cF3 BK502.out)|((with_reducible refine gate_callee (f:=41) rfl ?_);refine goesA (some 174) rfl rfl Try.func41 #[.agg #[.slice Ao115 t496.length co115,.int .i64 t499,.bool t500]] rfl ?_;(with_reducible refine(impl_TokensIn.calls kj100 _ _ t496 t499 t500 t515 t516 _ ?side1 ?side2 A150.out).mono ?_);(case side1=>exact bT HO_503000.out);(case side2=>exact(Kd.R_reads' HO_503000.out).2.1);rintro e w322 ⟨rfl,hb⟩;refine⟨_,rfl,?_⟩;have n0_:=am (Kd.R_below (bK HO_469000.out) hb);have n1_:=am (Kd.R_below (bK HO_477000.out) hb);have n2_:=am (Kd.R_below (bK HO_495000.out) hb);have n3_:=am (Kd.R_below (bK HO_503000.out) hb);have n4_:=am (Kd.R_below (bK HO_510000.out) hb);have n5_:=am (bM BK468.out hb);have n6_:=am (bM BK476.out hb);have n7_:=am (bM BK494.out hb);have n8_:=am (bM BK495.out hb);have n9_:=am (bM BK502.out hb);have n10_:=am (bM BK509.out hb);have n11_:=am (below_step (bS6 GE468.out GE476.out GE494.out GE495.out GE502.out GE509.out) hb);clear HO_469000 HO_477000 HO_495000 HO_503000 HO_510000 BK468 BK476 BK494 BK495 BK502 BK509 HB;have HO_469000:=n0_;have HO_477000:=n1_;have HO_495000:=n2_;have HO_503000:=n3_;have HO_510000:=n4_;have BK468:=n5_;have BK476:=n6_;have BK494:=n7_;have BK495:=n8_;have BK502:=n9_;have BK509:=n10_;have HB:=n11_;clear n0_ n1_ n2_ n3_ n4_ n5_ n6_ n7_ n8_ n9_ n10_ n11_;(try clear hb);(try clear hb2);(try clear hk);(try clear hi);obtain⟨hcz323_0,hcz323_1,hcz323_2⟩:=cC3 BK494.out;obtain⟨hfz323_0,hfz323_1,hfz323_2⟩:=cF3 BK494.out)|((with_reducible refine gate_callee (f:=42) rfl ?_);refine goesA (some 179) rfl rfl Try.func42 #[.agg #[.slice Ao105 t487.length co105,.int .i64 t490,.bool t491]] rfl ?_;(with_reducible refine(impl_CarriersIn.calls kj100 _ _ t487 t490 t491 t517 t520 _ ?side1 ?side2 A151.out).mono ?_);(case side1=>exact bT HO_495000.out);(case side2=>exact(Kd.R_reads' HO_495000.out).2.1);rintro e w324 ⟨v518,rfl,ho0,hb⟩;refine⟨_,rfl,?_⟩;have n0_:=am (Kd.R_elder' (bK HO_469000.out) (Kd.R_base ho0) hb);have n1_:=am (Kd.R_elder' (bK HO_477000.out) (Kd.R_base ho0) hb);have n2_:=am (Kd.R_elder' (bK HO_495000.out) (Kd.R_base ho0) hb);have n3_:=am (Kd.R_elder' (bK HO_503000.out) (Kd.R_base ho0) hb);have n4_:=am (Kd.R_elder' (bK HO_510000.out) (Kd.R_base ho0) hb);have n5_:=am (Kd.R_lower (Kd.R_new' (Kd.R_new' (Kd.R_new' (Kd.R_new' (Kd.R_new' ho0 (Kd.R_lt (bK HO_469000.out))) (Kd.R_lt (bK HO_477000.out))) (Kd.R_lt (bK HO_495000.out))) (Kd.R_lt (bK HO_503000.out))) (Kd.R_lt (bK HO_510000.out))) (below_size (bS6 GE468.out GE476.out GE494.out GE495.out GE502.out GE509.out)));have n6_:=am (bM BK468.out hb);have n7_:=am (bM BK476.out hb);have n8_:=am (bM BK494.out hb);have n9_:=am (bM BK495.out hb);have n10_:=am (bM BK502.out hb);have n11_:=am (bM BK509.out hb);have n12_:=am (below_step (bS6 GE468.out GE476.out GE494.out GE495.out GE502.out GE509.out) hb);clear HO_469000 HO_477000 HO_495000 HO_503000 HO_510000 BK468 BK476 BK494 BK495 BK502 BK509 HB;have HO_469000:=n0_;have HO_477000:=n1_;have HO_495000:=n2_;have HO_503000:=n3_;have HO_510000:=n4_;have HO519:=n5_;have BK468:=n6_;have BK476:=n7_;have BK494:=n8_;have BK495:=n9_;have BK502:=n10_;have BK509:=n11_;have HB:=n12_;clear n0_ n1_ n2_ n3_ n4_ n5_ n6_ n7_ n8_ n9_ n10_ n11_ n12_;(try clear hb);(try clear hb2);(try clear hk);(try clear hi);(try clear ho0);obtain⟨hcz325_0,hcz325_1,hcz325_2⟩:=cC3 BK502.out;obtain⟨hfz325_0,hfz325_1,hfz325_2⟩:=cF3 BK502.out)|((with_reducible refine gate_callee (f:=42) rfl ?_);refine goesA (some 184) rfl rfl Try.func42 #[.agg #[.slice Ao115 t496.length co115,.int .i64 t499,.bool t500]] rfl ?_;(with_reducible refine(impl_CarriersIn.calls kj100 _ _ t496 t499 t500 t521 t524 _ ?side1 ?side2 A152.out).mono ?_);(case side1=>exact bT HO_503000.out);(case side2=>exact(Kd.R_reads' HO_503000.out).2.1);rintro e w326 ⟨v522,rfl,ho0,hb⟩;refine⟨_,rfl,?_⟩;have n0_:=am (Kd.R_elder' (bK HO_469000.out) (Kd.R_base ho0) hb);have n1_:=am (Kd.R_elder' (bK HO_477000.out) (Kd.R_base ho0) hb);have n2_:=am (Kd.R_elder' (bK HO_495000.out) (Kd.R_base ho0) hb);have n3_:=am (Kd.R_elder' (bK HO_503000.out) (Kd.R_base ho0) hb);have n4_:=am (Kd.R_elder' (bK HO_510000.out) (Kd.R_base ho0) hb);have n5_:=am (Kd.R_elder' (bK HO519.out) (Kd.R_base ho0) hb);have n6_:=am (Kd.R_lower (Kd.R_new' (Kd.R_new' (Kd.R_new' (Kd.R_new' (Kd.R_new' (Kd.R_new' ho0 (Kd.R_lt (bK HO_469000.out))) (Kd.R_lt (bK HO_477000.out))) (Kd.R_lt (bK HO_495000.out))) (Kd.R_lt (bK HO_503000.out))) (Kd.R_lt (bK HO_510000.out))) (Kd.R_lt (bK HO519.out))) (below_size (bS6 GE468.out GE476.out GE494.out GE495.out GE502.out GE509.out)));have n7_:=am (bM BK468.out hb);have n8_:=am (bM BK476.out hb);have n9_:=am (bM BK494.out hb);have n10_:=am (bM BK495.out hb);have n11_:=am (bM BK502.out hb);have n12_:=am (bM BK509.out hb);have n13_:=am (below_step (bS6 GE468.out GE476.out GE494.out GE495.out GE502.out GE509.out) hb);clear HO_469000 HO_477000 HO_495000 HO_503000 HO_510000 HO519 BK468 BK476 BK494 BK495 BK502 BK509 HB;have HO_469000:=n0_;have HO_477000:=n1_;have HO_495000:=n2_;have HO_503000:=n3_;have HO_510000:=n4_;have HO519:=n5_;have HO523:=n6_;have BK468:=n7_;have BK476:=n8_;have BK494:=n9_;have BK495:=n10_;have BK502:=n11_;have BK509:=n12_;have HB:=n13_;clear n0_ n1_ n2_ n3_ n4_ n5_ n6_ n7_ n8_ n9_ n10_ n11_ n12_ n13_;(try clear hb);(try clear hb2);(try clear hk);(try clear hi);(try clear ho0)))
            go_ret
            exact⟨bE,bS6 GE468.out GE476.out GE494.out GE495.out GE502.out GE509.out⟩
          ·replace c148:=Bool.eq_false_iff.mpr c148
           subst c148
           have H1:(some true)=some r:=by rw[if_neg (show ¬ (false=true) by decide)] at H;exact H
           clear H
           have H:=H1
           clear H1
           obtain rfl:=Option.some.inj H
           go_wp2
           go_ret
           exact⟨bE,bS6 GE468.out GE476.out GE494.out GE495.out GE502.out GE509.out⟩

/-- THE ONE PURE STATEMENT of laws_FnSpray: yours. -/
def laws_FnSpray.Pure:Prop:=∀ (l0:List Int) (l1:List Int),l0.length≤maxLen→l0.length * 1≤140737488351232→(∀ x ∈ l0,(Lit.int .u8 x).wf=true)→l1.length≤maxLen→l1.length * 1≤140737488351232→(∀ x ∈ l1,(Lit.int .u8 x).wf=true) → ∃ k,laws_FnSpray.f k l0 l1=some true
theorem laws_FnSpray.walk (P:laws_FnSpray.Pure) (a0:Option Addr) (len0 cap0:Nat) (z0:List Int) (a1:Option Addr) (len1 cap1:Nat) (z1:List Int) (w:World) (w0:(a0=none∧len0=0∧cap0=0∧z0=[]) ∨ ∃ x,a0=some x∧len0≤cap0∧cap0≤maxLen∧z0.length=cap0∧(∀ i,i < z0.length→w.cell? (x.add i)=some (.int .u8 (z0.getD i 0))) ∧ ∀ n ∈ z0,(Lit.int .u8 n).wf=true) (y0:len0 * 1≤140737488351232) (w1:(a1=none∧len1=0∧cap1=0∧z1=[]) ∨ ∃ x,a1=some x∧len1≤cap1∧cap1≤maxLen∧z1.length=cap1∧(∀ i,i < z1.length→w.cell? (x.add i)=some (.int .u8 (z1.getD i 0))) ∧ ∀ n ∈ z1,(Lit.int .u8 n).wf=true) (y1:len1 * 1≤140737488351232) :
  Calls Try.prog 6 #[.slice a0 len0 cap0,.slice a1 len1 cap1] w fun e w'=>e=.returned (.bool true)∧Below w.heap.size w w':=by
 obtain⟨l0,rfl,hr0,hm0,hw0,hc0⟩:=ReadsInt.ofRowC w0
 obtain⟨l1,rfl,hr1,hm1,hw1,hc1⟩:=ReadsInt.ofRowC w1
 obtain⟨k,h⟩:=P l0 l1 hm0 y0 hw0 hm1 y1 hw1
 refine(laws_FnSpray.calls k _ _ l0 _ _ l1 true w (Kd.C_of_reads (d:=(0:Int)) (h1:=fun _=>rfl) hr0) hc0 (Kd.C_of_reads (d:=(0:Int)) (h1:=fun _=>rfl) hr1) hc1 h).mono ?_
 rintro e w' ⟨rfl,hd⟩
 exact⟨rfl,hd⟩

end Go.Proofs.Yteneeohaoplpbaa.XFnSpray
