-- Written by this session's own program (wip/xprint.py) out of the translation; Lean checks it.
import Derived.Test.YthghcoepkknkeaaXFnFairx0
import Derived.Test.YthghcoepkknkeaaXFnFairx2
import Derived.Test.YthghcoepkknkeaaXFnFairx3
import Derived.Test.YthghcoepkknkeaaXFnFairx5
import Derived.Test.YthghcoepkknkeaaXFnFairx8
import Derived.Test.YthghcoepkknkeaaXFnFairx9
import Derived.Test.YthghcoepkknkeaaXFnFairx10
namespace Go.Proofs.Ythghcoepkknkeaa.XFnFair
open Go.RowKit Go.Proofs.YthghcoepkknkeaaW.PrintWords Go.Proofs.YthghcoepkknkeaaW.PrintLast Go.Proofs.YthghcoepkknkeaaW.PrintMore
open Go.Proofs.YthghcoepkknkeaaW.PrintWords.Aside0 renaming mk → am
open List renaming setIfInBounds_toArray → zA, set_cons_zero → zB, set_cons_succ → zC
attribute [local go_sem] max2_int min2_int max_two min_two max_three min_three max_four min_four   -- for this text's walks alone
set_option linter.unusedVariables false
set_option linter.unusedSimpArgs false

/-! ### impl_RunRounds: function 17 -/
mutual
def impl_RunRounds.j0:Nat→Int→Bool→Int→List (S34)→Int→Option (Int × (List (S34)) × Int × Int × Bool)
 | 0,_,_,_,_,_=>none
 | k+1,x1,x19,x369000,x369001,x369002=>if x19=true then (some (0,([]:List (S34)),0,0,false)) else ((impl_Turns_copied.f x369000 x369001 x369002).bind fun bt372=>(impl_RunRounds.l0 k 0 x1 0 bt372.1 bt372.2.1 bt372.2.2))
def impl_RunRounds.l0:Nat→Int→Int→Int→Int→List (S34)→Int→Option (Int × (List (S34)) × Int × Int × Bool)
 | 0,_,_,_,_,_,_=>none
 | k+1,x8,x23,x24,x378000,x378001,x378002=>if x24 < x23 then ((impl_NextRound.f k x378000 x378001 x378002).bind fun bt378=>(if bt378.2.2.2.2=true then (impl_RunRounds.l0 k (wrap64 (x8+(bt378.2.2.2.1.length:Int))) x23 (wrap64 (x24+1)) bt378.1 bt378.2.1 bt378.2.2.1) else (some (0,([]:List (S34)),0,0,false)))) else (some (x378000,x378001,x378002,x8,true))
end
def impl_RunRounds.f (k:Nat) (a0_0:Int) (l0_1:List (S34)) (a0_2:Int) (a1:Int):Option (Int × (List (S34)) × Int × Int × Bool):=(impl_GoodTurns.f k a0_0 l0_1 a0_2).bind fun t370=>(if t370=true then ((impl_within.f a1 0 200).bind fun t371=>(impl_RunRounds.j0 k a1 (!t371) a0_0 l0_1 a0_2)) else (impl_RunRounds.j0 k a1 true a0_0 l0_1 a0_2))
theorem impl_RunRounds.mono_l : ∀ k,(∀ y0 y1 y2 y3 y4,LeO (impl_RunRounds.j0 k y0 y1 y2 y3 y4) (impl_RunRounds.j0 (k+1) y0 y1 y2 y3 y4))∧(∀ y0 y1 y2 y3 y4 y5,LeO (impl_RunRounds.l0 k y0 y1 y2 y3 y4 y5) (impl_RunRounds.l0 (k+1) y0 y1 y2 y3 y4 y5))
 | 0=>⟨fun _ _ _ _ _ r h=>by simp[impl_RunRounds.j0] at h,fun _ _ _ _ _ _ r h=>by simp[impl_RunRounds.l0] at h⟩
 | k+1=>by
  obtain⟨ih0,ih1⟩:=impl_RunRounds.mono_l k
  refine⟨?_,?_⟩
  ·intro y0 y1 y2 y3 y4
   unfold impl_RunRounds.j0
   repeat' first
   | (with_reducible exact ih0 _ _ _ _ _)
   | (with_reducible exact ih1 _ _ _ _ _ _)
   | (with_reducible exact impl_GoodTurns.mono _ _ _ _)
   | (with_reducible exact impl_NextRound.mono _ _ _ _)
   | (with_reducible exact LeO.refl _)
   | (with_reducible exact LeO.none _)
   | (with_reducible refine LeO.ite ?_ ?_)
   | (with_reducible refine LeO.bind ?_ (fun _ => ?_))
  ·intro y0 y1 y2 y3 y4 y5
   unfold impl_RunRounds.l0
   repeat' first
   | (with_reducible exact ih0 _ _ _ _ _)
   | (with_reducible exact ih1 _ _ _ _ _ _)
   | (with_reducible exact impl_GoodTurns.mono _ _ _ _)
   | (with_reducible exact impl_NextRound.mono _ _ _ _)
   | (with_reducible exact LeO.refl _)
   | (with_reducible exact LeO.none _)
   | (with_reducible refine LeO.ite ?_ ?_)
   | (with_reducible refine LeO.bind ?_ (fun _ => ?_))
theorem impl_RunRounds.mono : ∀ a0 a1 a2 a3 k,LeO (impl_RunRounds.f k a0 a1 a2 a3) (impl_RunRounds.f (k+1) a0 a1 a2 a3):=by
 intro a0 a1 a2 a3 k
 obtain⟨ih0,ih1⟩:=impl_RunRounds.mono_l k
 unfold impl_RunRounds.f
 repeat' first
  | (with_reducible exact ih0 _ _ _ _ _)
  | (with_reducible exact ih1 _ _ _ _ _ _)
  | (with_reducible exact impl_GoodTurns.mono _ _ _ _)
  | (with_reducible exact impl_NextRound.mono _ _ _ _)
  | (with_reducible exact LeO.refl _)
  | (with_reducible exact LeO.none _)
  | (with_reducible refine LeO.ite ?_ ?_)
  | (with_reducible refine LeO.bind ?_ (fun _ => ?_))
set_option maxHeartbeats 8000000 in
set_option maxRecDepth 100000 in
theorem impl_RunRounds.calls (k:Nat) (a0_0:Int) (A0_1:Option Addr) (c0_1:Nat) (l0_1:List (S34)) (a0_2:Int) (a1:Int) (r1:Int) (r2:List (S34)) (r3:Int) (r4:Int) (r5:Bool) (w:World) (hr0_1:Kd.C k34 w A0_1 l0_1.length l0_1) (hc0_1:l0_1.length≤c0_1) (h:impl_RunRounds.f k a0_0 l0_1 a0_2 a1=some (r1,r2,r3,r4,r5)) :
  Calls Try.prog 17 #[.agg #[.int .i64 a0_0,.slice A0_1 l0_1.length c0_1,.int .i64 a0_2],.int .i64 a1] w fun e w' => ∃ v1_:Value,e=.returned (.tuple #[.agg #[.int .i64 r1,v1_,.int .i64 r3],.int .i64 r4,.bool r5])∧Kd.S k34 34 w' w.heap.size (fun _=>True) v1_ r2∧Below w.heap.size w w':=by
 have hu25:=Try.underlying25
 have HR0_1:=am hr0_1
 have HC0_1:=am hc0_1
 clear hr0_1 hc0_1
 have HB:=am (Below.refl w.heap.size w)
 have H:((impl_GoodTurns.f k a0_0 l0_1 a0_2).bind fun t370=>(if t370=true then ((impl_within.f a1 0 200).bind fun t371=>(impl_RunRounds.j0 k a1 (!t371) a0_0 l0_1 a0_2)) else (impl_RunRounds.j0 k a1 true a0_0 l0_1 a0_2)))=some (r1,r2,r3,r4,r5):=h
 clear h
 have HC3:=am H
 clear H
 go_enter Try.func17,Try.ntmps17
 go_upto_region 1 with (first|((with_reducible refine gate_dst (N:=2) rfl ?_);refine box_event ?hg (N:=2) ?hd (cs:=#[.int .i64 a0_0,.slice A0_1 l0_1.length c0_1,.int .i64 a0_2]) (t:=25) ?hr ?_;(case hd=>rfl);(case hg=>rfl);(case hr=>first|(go_simp;done)|(go_simp;rfl));intro gb368 hg w4 hbox hb;have n0_:=am (below_step (bB) hb);have n1_:=am (hbox);have n2_:=am ((bG:w.heap.size≤gb368));have n3_:=am ((bG:w.heap.size≤gb368));clear HB;have HB:=n0_;have BK368:=n1_;have GW368:=n2_;have GE368:=n3_;clear n0_ n1_ n2_ n3_;clear hb hbox hg)|((with_reducible refine gate_dst (N:=4) rfl ?_);refine box_event ?hg (N:=4) ?hd (cs:=#[.int .i64 0,.slice none 0 0,.int .i64 0]) (t:=25) ?hr ?_;(case hd=>rfl);(case hg=>rfl);(case hr=>first|(go_simp;done)|(go_simp;rfl));intro gb369 hg w5 hbox hb;have n0_:=am (bM BK368.out hb);have n1_:=am (below_step (bS GE368.out) hb);have n2_:=am (hbox);have n3_:=am ((by rw[hg];exact(below_size (bS GE368.out)):w.heap.size≤gb369));have n4_:=am ((by rw[hg];exact(below_size (bS GE368.out)):w.heap.size≤gb369));have n5_:=am ((bN BK368.out hg:gb368≠gb369));have n6_:=am ((bO BK368.out hg:gb369≠gb368));clear BK368 HB;have BK368:=n0_;have HB:=n1_;have BK369:=n2_;have GW369:=n3_;have GE369:=n4_;have NB368_369:=n5_;have NB369_368:=n6_;clear n0_ n1_ n2_ n3_ n4_ n5_ n6_;clear hb hbox hg))
 (try simp only[Act.put,zA,zB,zC])
 go_cut [19] (fun v19 wc => ∃ (kq:Nat) (x19_2:Bool),v19=.bool x19_2∧Aside0 (impl_RunRounds.j0 kq a1 x19_2 a0_0 l0_1 a0_2=some (r1,r2,r3,r4,r5))∧Aside0 (kq≤k)∧Aside0 (wc.heap[gb368]?=some (.cells #[.int .i64 a0_0,(.slice A0_1 l0_1.length c0_1),.int .i64 a0_2] 25 (0,0)))∧Aside0 (wc.heap[gb369]?=some (.cells #[.int .i64 0,(.slice none 0 0),.int .i64 0] 25 (0,0)))∧Aside0 (Below w.heap.size w wc))
 case first =>
  have H:=HC3.out
  clear HC3
  replace H:=bI_ H
  obtain⟨t370,A60,H⟩:=H
  replace H:(if t370=true then ((impl_within.f a1 0 200).bind fun t371=>(impl_RunRounds.j0 k a1 (!t371) a0_0 l0_1 a0_2)) else (impl_RunRounds.j0 k a1 true a0_0 l0_1 a0_2))=some (r1,r2,r3,r4,r5):=H
  have A6:=am A60
  clear A60
  by_cases c7:t370=true
  ·subst c7
   have H1:((impl_within.f a1 0 200).bind fun t371=>(impl_RunRounds.j0 k a1 (!t371) a0_0 l0_1 a0_2))=some (r1,r2,r3,r4,r5):=by rw[if_pos rfl] at H;exact H
   clear H
   have H:=H1
   clear H1
   replace H:=bI_ H
   obtain⟨t371,A80,H⟩:=H
   replace H:(impl_RunRounds.j0 k a1 (!t371) a0_0 l0_1 a0_2)=some (r1,r2,r3,r4,r5):=H
   have A8:=am A80
   clear A80
   have H':=am H
   clear H
   have hnb9:=NB368_369.out
   have hnc9:=NB369_368.out
   obtain⟨hcz10_0,hcz10_1,hcz10_2⟩:=cC3 BK368.out
   obtain⟨hfz10_0,hfz10_1,hfz10_2⟩:=cF3 BK368.out
   go_wp2_with (first|((with_reducible refine gate_callee (f:=10) rfl ?_);refine goesA (some 13) rfl rfl Try.func10 #[.agg #[.int .i64 a0_0,.slice A0_1 l0_1.length c0_1,.int .i64 a0_2]] rfl ?_;(with_reducible refine(impl_GoodTurns.calls k a0_0 _ _ l0_1 a0_2 true _ ?side1 ?side2 A6.out).mono ?_);(case side1=>exact bC HR0_1.out);(case side2=>exact HC0_1.out);rintro e w11 ⟨rfl,hb⟩;refine⟨_,rfl,?_⟩;have n0_:=am (bM BK368.out hb);have n1_:=am (bM BK369.out hb);have n2_:=am (below_step (bS2 GE368.out GE369.out) hb);clear BK368 BK369 HB;have BK368:=n0_;have BK369:=n1_;have HB:=n2_;clear n0_ n1_ n2_;(try clear hb);(try clear hb2);(try clear hk);(try clear hi))|(go_at_call 22;(with_reducible refine(impl_within.calls a1 0 200 t371 _ A8.out).mono ?_);rintro e w' ⟨rfl,⟨nd,rfl⟩⟩))
   go_meet
   case rel=>exact⟨_,(!t371),(bR),H',⟨by first|omega|exact Nat.le_refl _⟩,⟨by(with_reducible repeat (first|refine blk_drewN ?_ _|refine blk_drew ?_|refine blk_alloc ?_ _));exact BK368.out⟩,⟨by(with_reducible repeat (first|refine blk_drewN ?_ _|refine blk_drew ?_|refine blk_alloc ?_ _));exact BK369.out⟩,⟨bS2 GE368.out GE369.out⟩⟩
  ·replace c7:=Bool.eq_false_iff.mpr c7
   subst c7
   have H1:(impl_RunRounds.j0 k a1 true a0_0 l0_1 a0_2)=some (r1,r2,r3,r4,r5):=by rw[if_neg (show ¬ (false=true) by decide)] at H;exact H
   clear H
   have H:=H1
   clear H1
   have H':=am H
   clear H
   have hnb12:=NB368_369.out
   have hnc12:=NB369_368.out
   obtain⟨hcz13_0,hcz13_1,hcz13_2⟩:=cC3 BK368.out
   obtain⟨hfz13_0,hfz13_1,hfz13_2⟩:=cF3 BK368.out
   go_wp2_with (first|((with_reducible refine gate_callee (f:=10) rfl ?_);refine goesA (some 13) rfl rfl Try.func10 #[.agg #[.int .i64 a0_0,.slice A0_1 l0_1.length c0_1,.int .i64 a0_2]] rfl ?_;(with_reducible refine(impl_GoodTurns.calls k a0_0 _ _ l0_1 a0_2 false _ ?side1 ?side2 A6.out).mono ?_);(case side1=>exact bC HR0_1.out);(case side2=>exact HC0_1.out);rintro e w14 ⟨rfl,hb⟩;refine⟨_,rfl,?_⟩;have n0_:=am (bM BK368.out hb);have n1_:=am (bM BK369.out hb);have n2_:=am (below_step (bS2 GE368.out GE369.out) hb);clear BK368 BK369 HB;have BK368:=n0_;have BK369:=n1_;have HB:=n2_;clear n0_ n1_ n2_;(try clear hb);(try clear hb2);(try clear hk);(try clear hi)))
   go_meet
   case rel=>exact⟨_,(true),(bR),H',⟨by first|omega|exact Nat.le_refl _⟩,⟨by(with_reducible repeat (first|refine blk_drewN ?_ _|refine blk_drew ?_|refine blk_alloc ?_ _));exact BK368.out⟩,⟨by(with_reducible repeat (first|refine blk_drewN ?_ _|refine blk_drew ?_|refine blk_alloc ?_ _));exact BK369.out⟩,⟨bS2 GE368.out GE369.out⟩⟩
 case rest =>
  clear HC3
  try clear c1
  try clear p2
  try clear c7
  try clear c9
  try clear c10
  try clear c12
  try clear hcz10_0 hcz10_1 hcz10_2
  try clear hcz13_0 hcz13_1 hcz13_2
  try clear hfz10_0 hfz10_1 hfz10_2
  try clear hfz13_0 hfz13_1 hfz13_2
  obtain⟨kq,x19_2,rfl,HA,HJ2,BK368,BK369,HB⟩:=hcut
  cases kq with
  | zero=>exact absurd HA.out (by simp[impl_RunRounds.j0])
  | succ kj2 =>
   have H:=HA.out
   clear HA
   simp only[impl_RunRounds.j0] at H
   by_cases c15:x19_2=true
   ·subst c15
    have H1:(some (0,([]:List (S34)),0,0,false))=some (r1,r2,r3,r4,r5):=by rw[if_pos rfl] at H;exact H
    clear H
    have H:=H1
    clear H1
    simp only[Option.some.injEq,Prod.mk.injEq] at H
    obtain⟨rfl,rfl,rfl,rfl,rfl⟩:=H
    have hnb16:=NB369_368.out
    have hnc16:=NB368_369.out
    obtain⟨hcz17_0,hcz17_1,hcz17_2⟩:=cC3 BK369.out
    obtain⟨hfz17_0,hfz17_1,hfz17_2⟩:=cF3 BK369.out
    go_wp2
    refine bodyPost_ret (results_ctt rfl _ _ gb369 25 #[.int .i64 0,.slice none 0 0,.int .i64 0] (0,0) _ rfl (by(with_reducible repeat (first|refine blk_drewN ?_ _|refine blk_drew ?_|refine blk_alloc ?_ _));apply bU3;(with_reducible repeat (first|refine blk_drewN ?_ _|refine blk_drew ?_|refine blk_alloc ?_ _));exact BK369.out) Try.underlying25 rfl (by kernel_rfl)) rfl ?_
    exact⟨_,by first|rfl|(simp[errW_none,errW_some]<;>rfl)|(simp[*,errW_none,errW_some]<;>rfl),by first|exact Kd.S_nil _ _ _ _ _|exact Kd.N_nil _ _ _ _ _|exact Kd.V_nil _ _ _ _ _|exact Kd.Q_nil _ _ _ _ _|exact Kd.R_nil _ _ _ _ _,bS2 GE368.out GE369.out⟩
   ·replace c15:=Bool.eq_false_iff.mpr c15
    subst c15
    have H1:((impl_Turns_copied.f a0_0 l0_1 a0_2).bind fun bt372=>(impl_RunRounds.l0 kj2 0 a1 0 bt372.1 bt372.2.1 bt372.2.2))=some (r1,r2,r3,r4,r5):=by rw[if_neg (show ¬ (false=true) by decide)] at H;exact H
    clear H
    have H:=H1
    clear H1
    replace H:=bI_ H
    obtain⟨⟨t372,t373,t376⟩,A180,H⟩:=H
    replace H:(impl_RunRounds.l0 kj2 0 a1 0 t372 t373 t376)=some (r1,r2,r3,r4,r5):=H
    have A18:=am A180
    clear A180
    have H':=am H
    clear H
    have hnb19:=NB368_369.out
    have hnc19:=NB369_368.out
    obtain⟨hcz20_0,hcz20_1,hcz20_2⟩:=cC3 BK368.out
    obtain⟨hfz20_0,hfz20_1,hfz20_2⟩:=cF3 BK368.out
    go_wp2_with (first|((with_reducible refine gate_callee (f:=20) rfl ?_);refine goesA (some 22) rfl rfl Try.func20 #[.agg #[.int .i64 a0_0,.slice A0_1 l0_1.length c0_1,.int .i64 a0_2]] rfl ?_;(with_reducible refine(impl_Turns_copied.calls a0_0 _ _ l0_1 a0_2 t372 t373 t376 _ ?side1 ?side2 A18.out).mono ?_);(case side1=>exact bC HR0_1.out);(case side2=>exact HC0_1.out);rintro e w21 ⟨v374,rfl,ho0,hb⟩;refine⟨_,rfl,?_⟩;have n0_:=am (Kd.S_lower ho0 (below_size (bS2 GE368.out GE369.out)));have n1_:=am (bM BK368.out hb);have n2_:=am (bM BK369.out hb);have n3_:=am (below_step (bS2 GE368.out GE369.out) hb);clear BK368 BK369 HB;have HO375:=n0_;have BK368:=n1_;have BK369:=n2_;have HB:=n3_;clear n0_ n1_ n2_ n3_;(try clear hb);(try clear hb2);(try clear hk);(try clear hi);(try clear ho0))|((with_reducible refine gate_dst (N:=7) rfl ?_);refine box_event ?hg (N:=7) ?hd (cs:=#[.int .i64 0,.slice none 0 0,.int .i64 0]) (t:=25) ?hr ?_;(case hd=>rfl);(case hg=>rfl);(case hr=>first|(go_simp;done)|(go_simp;rfl));intro gb377 hg w22 hbox hb;have n0_:=am (Kd.S_below (by(with_reducible repeat (first|apply Kd.S_alloc|apply Kd.S_drewN|apply Kd.S_drew));exact HO375.out) hb);have n1_:=am (bM BK368.out hb);have n2_:=am (bM BK369.out hb);have n3_:=am (below_step (bS2 GE368.out GE369.out) hb);have n4_:=am (hbox);have n5_:=am ((by rw[hg];exact(below_size (bS2 GE368.out GE369.out)):w.heap.size≤gb377));have n6_:=am ((by rw[hg];exact(below_size (bS2 GE368.out GE369.out)):w.heap.size≤gb377));have n7_:=am ((bN BK368.out hg:gb368≠gb377));have n8_:=am ((bO BK368.out hg:gb377≠gb368));have n9_:=am ((bN BK369.out hg:gb369≠gb377));have n10_:=am ((bO BK369.out hg:gb377≠gb369));clear HO375 BK368 BK369 HB;have HO375:=n0_;have BK368:=n1_;have BK369:=n2_;have HB:=n3_;have BK377:=n4_;have GW377:=n5_;have GE377:=n6_;have NB368_377:=n7_;have NB377_368:=n8_;have NB369_377:=n9_;have NB377_369:=n10_;clear n0_ n1_ n2_ n3_ n4_ n5_ n6_ n7_ n8_ n9_ n10_;clear hb hbox hg;have hnb23:=NB377_368.out;have hnc23:=NB368_377.out;have hnb24:=NB377_369.out;have hnc24:=NB369_377.out;obtain⟨hcz25_0,hcz25_1,hcz25_2⟩:=cC3 BK377.out;obtain⟨hfz25_0,hfz25_1,hfz25_2⟩:=cF3 BK377.out;obtain⟨Ao26,co26,eo26⟩:=Kd.S_slice HO375.out;subst eo26))
    go_loopg [8,24] kj2 (fun kq v8 v24 w' => ∃ (x8_2:Int) (x24_2:Int) (x370000_2:Int) (x370002_2:Int) (x378000_2:Int) (x378001_2:List (S34)) (x378002_2:Int) (u378001:Value),v8=.int .i64 x8_2∧v24=.int .i64 x24_2∧Aside0 (impl_RunRounds.l0 kq x8_2 a1 x24_2 x378000_2 x378001_2 x378002_2=some (r1,r2,r3,r4,r5))∧Aside0 (kq≤kj2)∧Aside0 (Kd.S k34 34 w' w.heap.size (fun _=>True) u378001 x378001_2)∧Aside0 (w'.heap[gb368]?=some (.cells #[.int .i64 a0_0,(.slice A0_1 l0_1.length c0_1),.int .i64 a0_2] 25 (0,0)))∧Aside0 (w'.heap[gb369]?=some (.cells #[.int .i64 x370000_2,(.slice none 0 0),.int .i64 x370002_2] 25 (0,0)))∧Aside0 (w'.heap[gb377]?=some (.cells #[.int .i64 x378000_2,u378001,.int .i64 x378002_2] 25 (0,0)))∧Aside0 (Below w.heap.size w w'))
    case atStart=>exact⟨(0),(0),(0),(0),(t372),(t373),(t376),(.slice Ao26 t373.length co26),(bR),(bR),H',⟨Nat.le_refl _⟩,⟨by(with_reducible repeat (first|apply Kd.S_alloc|apply Kd.S_drewN|apply Kd.S_drew));exact Kd.S_mono (Kd.S_far (p:=⟨gb377,2,none⟩) (Kd.S_far (p:=⟨gb377,1,none⟩) (Kd.S_far (p:=⟨gb377,0,none⟩) (Kd.S_types HO375.out BK377.out (by decide)) (fun _ hk=>hk.2) (.int .i64 t372)) (fun _ hk=>hk.2) (.slice Ao26 t373.length co26)) (fun _ hk=>hk.2) (.int .i64 t376)) (fun _ hk=>trivial)⟩,⟨by(with_reducible repeat (first|refine blk_drewN ?_ _|refine blk_drew ?_|refine blk_alloc ?_ _));refine blk_far ?_ NB368_377.out _;(with_reducible repeat (first|refine blk_drewN ?_ _|refine blk_drew ?_|refine blk_alloc ?_ _));refine blk_far ?_ NB368_377.out _;(with_reducible repeat (first|refine blk_drewN ?_ _|refine blk_drew ?_|refine blk_alloc ?_ _));refine blk_far ?_ NB368_377.out _;(with_reducible repeat (first|refine blk_drewN ?_ _|refine blk_drew ?_|refine blk_alloc ?_ _));exact BK368.out⟩,⟨by(with_reducible repeat (first|refine blk_drewN ?_ _|refine blk_drew ?_|refine blk_alloc ?_ _));refine blk_far ?_ NB369_377.out _;(with_reducible repeat (first|refine blk_drewN ?_ _|refine blk_drew ?_|refine blk_alloc ?_ _));refine blk_far ?_ NB369_377.out _;(with_reducible repeat (first|refine blk_drewN ?_ _|refine blk_drew ?_|refine blk_alloc ?_ _));refine blk_far ?_ NB369_377.out _;(with_reducible repeat (first|refine blk_drewN ?_ _|refine blk_drew ?_|refine blk_alloc ?_ _));exact BK369.out⟩,⟨by(with_reducible repeat (first|refine blk_drewN ?_ _|refine blk_drew ?_|refine blk_alloc ?_ _));apply bU3;(with_reducible repeat (first|refine blk_drewN ?_ _|refine blk_drew ?_|refine blk_alloc ?_ _));exact BK377.out⟩,⟨bS3 GE368.out GE369.out GE377.out⟩⟩
    case round =>
     clear H'
     try clear c1
     try clear c2
     try clear p2
     try clear c7
     try clear c9
     try clear c10
     try clear c12
     try clear c15
     try clear c16
     try clear c17
     try clear c19
     try clear c20
     try clear c23
     try clear c24
     try clear hcz10_0 hcz10_1 hcz10_2
     try clear hcz13_0 hcz13_1 hcz13_2
     try clear hcz17_0 hcz17_1 hcz17_2
     try clear hcz20_0 hcz20_1 hcz20_2
     try clear hcz25_0 hcz25_1 hcz25_2
     try clear hfz10_0 hfz10_1 hfz10_2
     try clear hfz13_0 hfz13_1 hfz13_2
     try clear hfz17_0 hfz17_1 hfz17_2
     try clear hfz20_0 hfz20_1 hfz20_2
     try clear hfz25_0 hfz25_1 hfz25_2
     try clear p2
     obtain⟨x8_2,x24_2,x370000_2,x370002_2,x378000_2,x378001_2,x378002_2,u378001,rfl,rfl,HA,HK2,HO_378001,BK368,BK369,BK377,HB⟩:=hrel
     cases gk with
     | zero=>exact absurd HA.out (by simp[impl_RunRounds.l0])
     | succ k2 =>
      have H:=HA.out
      clear HA
      simp only[impl_RunRounds.l0] at H
      by_cases c27:x24_2 < a1
      ·rw[if_pos c27] at H
       have c27b0:decide (x24_2 < a1)=true:=decide_eq_true c27
       clear c27
       replace H:=bI_ H
       obtain⟨⟨t378,t379,t382,t383,t386⟩,A280,H⟩:=H
       replace H:(if t386=true then (impl_RunRounds.l0 k2 (wrap64 (x8_2+(t383.length:Int))) a1 (wrap64 (x24_2+1)) t378 t379 t382) else (some (0,([]:List (S34)),0,0,false)))=some (r1,r2,r3,r4,r5):=H
       have A28:=am A280
       clear A280
       by_cases c29:t386=true
       ·subst c29
        have H1:(impl_RunRounds.l0 k2 (wrap64 (x8_2+(t383.length:Int))) a1 (wrap64 (x24_2+1)) t378 t379 t382)=some (r1,r2,r3,r4,r5):=by rw[if_pos rfl] at H;exact H
        clear H
        have H:=H1
        clear H1
        have H':=am H
        clear H
        have hnb30:=NB377_368.out
        have hnc30:=NB368_377.out
        have hnb31:=NB377_369.out
        have hnc31:=NB369_377.out
        obtain⟨hcz32_0,hcz32_1,hcz32_2⟩:=cC3 BK377.out
        obtain⟨hfz32_0,hfz32_1,hfz32_2⟩:=cF3 BK377.out
        obtain⟨Ao33,co33,eo33⟩:=Kd.S_slice HO_378001.out
        subst eo33
        go_wp2_with (first|((with_reducible refine gate_callee (f:=6) rfl ?_);refine goesA (some 28) rfl rfl Try.func6 #[.agg #[.int .i64 x378000_2,.slice Ao33 x378001_2.length co33,.int .i64 x378002_2]] rfl ?_;(with_reducible refine(impl_NextRound.calls k2 x378000_2 _ _ x378001_2 x378002_2 t378 t379 t382 t383 true _ ?side1 ?side2 A28.out).mono ?_);(case side1=>repeat (first|exact(Kd.S_reads' HO_378001.out).2.2|(with_reducible refine Kd.C_alloc ?_ _)|(with_reducible refine Kd.C_drewN ?_ _)|(with_reducible refine Kd.C_drew ?_)));(case side2=>exact(Kd.S_reads' HO_378001.out).2.1);rintro e w34 ⟨v380,v384,rfl,ho0,ho1,hb⟩;refine⟨_,rfl,?_⟩;have n0_:=am (Kd.S_mono (Kd.S_told (Kd.S_told (Kd.S_old (by(with_reducible repeat (first|apply Kd.S_alloc|apply Kd.S_drewN|apply Kd.S_drew));exact HO_378001.out) hb) (Kd.S_base ho0)) (Kd.R_base ho1)) (fun _ h_=>h_.1));have n1_:=am (Kd.S_lower (Kd.S_new' ho0 (Kd.S_lt (by(with_reducible repeat (first|apply Kd.S_alloc|apply Kd.S_drewN|apply Kd.S_drew));exact HO_378001.out))) (below_size (bS3 GE368.out GE369.out GE377.out)));have n2_:=am (Kd.R_lower ho1 (below_size (bS3 GE368.out GE369.out GE377.out)));have n3_:=am (bM BK368.out hb);have n4_:=am (bM BK369.out hb);have n5_:=am (bM BK377.out hb);have n6_:=am (below_step (bS3 GE368.out GE369.out GE377.out) hb);clear HO_378001 BK368 BK369 BK377 HB;have HO_378001:=n0_;have HO381:=n1_;have HO385:=n2_;have BK368:=n3_;have BK369:=n4_;have BK377:=n5_;have HB:=n6_;clear n0_ n1_ n2_ n3_ n4_ n5_ n6_;(try clear hb);(try clear hb2);(try clear hk);(try clear hi);(try clear ho0);(try clear ho1))|((with_reducible refine gate_dst (N:=9) rfl ?_);refine box_event ?hg (N:=9) ?hd (cs:=#[.int .i64 0,.slice none 0 0,.int .i64 0]) (t:=25) ?hr ?_;(case hd=>rfl);(case hg=>rfl);(case hr=>first|(go_simp;done)|(go_simp;rfl));intro gb387 hg w35 hbox hb;have n0_:=am (Kd.S_below (by(with_reducible repeat (first|apply Kd.S_alloc|apply Kd.S_drewN|apply Kd.S_drew));exact HO_378001.out) hb);have n1_:=am (Kd.S_below (by(with_reducible repeat (first|apply Kd.S_alloc|apply Kd.S_drewN|apply Kd.S_drew));exact HO381.out) hb);have n2_:=am (Kd.R_below (bK HO385.out) hb);have n3_:=am (bM BK368.out hb);have n4_:=am (bM BK369.out hb);have n5_:=am (bM BK377.out hb);have n6_:=am (below_step (bS3 GE368.out GE369.out GE377.out) hb);have n7_:=am (hbox);have n8_:=am ((by rw[hg];exact(below_size (bS3 GE368.out GE369.out GE377.out)):w.heap.size≤gb387));have n9_:=am ((by rw[hg];exact(below_size (bS3 GE368.out GE369.out GE377.out)):w.heap.size≤gb387));have n10_:=am ((bN BK368.out hg:gb368≠gb387));have n11_:=am ((bO BK368.out hg:gb387≠gb368));have n12_:=am ((bN BK369.out hg:gb369≠gb387));have n13_:=am ((bO BK369.out hg:gb387≠gb369));have n14_:=am ((bN BK377.out hg:gb377≠gb387));have n15_:=am ((bO BK377.out hg:gb387≠gb377));clear HO_378001 HO381 HO385 BK368 BK369 BK377 HB;have HO_378001:=n0_;have HO381:=n1_;have HO385:=n2_;have BK368:=n3_;have BK369:=n4_;have BK377:=n5_;have HB:=n6_;have BK387:=n7_;have GW387:=n8_;have GE387:=n9_;have NB368_387:=n10_;have NB387_368:=n11_;have NB369_387:=n12_;have NB387_369:=n13_;have NB377_387:=n14_;have NB387_377:=n15_;clear n0_ n1_ n2_ n3_ n4_ n5_ n6_ n7_ n8_ n9_ n10_ n11_ n12_ n13_ n14_ n15_;clear hb hbox hg;have hnb36:=NB387_368.out;have hnc36:=NB368_387.out;have hnb37:=NB387_369.out;have hnc37:=NB369_387.out;have hnb38:=NB387_377.out;have hnc38:=NB377_387.out;obtain⟨hcz39_0,hcz39_1,hcz39_2⟩:=cC3 BK387.out;obtain⟨hfz39_0,hfz39_1,hfz39_2⟩:=cF3 BK387.out;obtain⟨Ao40,co40,eo40⟩:=Kd.S_slice HO381.out;subst eo40;obtain⟨Ao41,co41,eo41⟩:=Kd.R_slice HO385.out;subst eo41;obtain⟨hcz42_0,hcz42_1,hcz42_2⟩:=cC3 BK377.out;obtain⟨hfz42_0,hfz42_1,hfz42_2⟩:=cF3 BK377.out))
        go_roundg k2
        case measure=>have:=HJ2.out;have:=HK2.out;omega
        case rel=>exact⟨(wrap64 (x8_2+(t383.length:Int))),(wrap64 (x24_2+1)),(x370000_2),(x370002_2),(t378),(t379),(t382),(.slice Ao40 t379.length co40),(bR),(bR),H',⟨by have:=HJ2.out;have:=HK2.out;omega⟩,⟨by(with_reducible repeat (first|apply Kd.S_alloc|apply Kd.S_drewN|apply Kd.S_drew));exact Kd.S_mono (Kd.S_far (p:=⟨gb377,2,none⟩) (Kd.S_far (p:=⟨gb377,1,none⟩) (Kd.S_far (p:=⟨gb377,0,none⟩) (Kd.S_far (p:=⟨gb387,2,none⟩) (Kd.S_far (p:=⟨gb387,1,none⟩) (Kd.S_far (p:=⟨gb387,0,none⟩) (Kd.S_types (Kd.S_types HO381.out BK387.out (by decide)) BK377.out (by decide)) (fun _ hk=>hk.1.2) (.int .i64 t378)) (fun _ hk=>hk.1.2) (.slice Ao40 t379.length co40)) (fun _ hk=>hk.1.2) (.int .i64 t382)) (fun _ hk=>hk.2) (.int .i64 t378)) (fun _ hk=>hk.2) (.slice Ao40 t379.length co40)) (fun _ hk=>hk.2) (.int .i64 t382)) (fun _ hk=>trivial)⟩,⟨by(with_reducible repeat (first|refine blk_drewN ?_ _|refine blk_drew ?_|refine blk_alloc ?_ _));refine blk_far ?_ NB368_377.out _;(with_reducible repeat (first|refine blk_drewN ?_ _|refine blk_drew ?_|refine blk_alloc ?_ _));refine blk_far ?_ NB368_377.out _;(with_reducible repeat (first|refine blk_drewN ?_ _|refine blk_drew ?_|refine blk_alloc ?_ _));refine blk_far ?_ NB368_377.out _;(with_reducible repeat (first|refine blk_drewN ?_ _|refine blk_drew ?_|refine blk_alloc ?_ _));refine blk_far ?_ NB368_387.out _;(with_reducible repeat (first|refine blk_drewN ?_ _|refine blk_drew ?_|refine blk_alloc ?_ _));refine blk_far ?_ NB368_387.out _;(with_reducible repeat (first|refine blk_drewN ?_ _|refine blk_drew ?_|refine blk_alloc ?_ _));refine blk_far ?_ NB368_387.out _;(with_reducible repeat (first|refine blk_drewN ?_ _|refine blk_drew ?_|refine blk_alloc ?_ _));exact BK368.out⟩,⟨by(with_reducible repeat (first|refine blk_drewN ?_ _|refine blk_drew ?_|refine blk_alloc ?_ _));refine blk_far ?_ NB369_377.out _;(with_reducible repeat (first|refine blk_drewN ?_ _|refine blk_drew ?_|refine blk_alloc ?_ _));refine blk_far ?_ NB369_377.out _;(with_reducible repeat (first|refine blk_drewN ?_ _|refine blk_drew ?_|refine blk_alloc ?_ _));refine blk_far ?_ NB369_377.out _;(with_reducible repeat (first|refine blk_drewN ?_ _|refine blk_drew ?_|refine blk_alloc ?_ _));refine blk_far ?_ NB369_387.out _;(with_reducible repeat (first|refine blk_drewN ?_ _|refine blk_drew ?_|refine blk_alloc ?_ _));refine blk_far ?_ NB369_387.out _;(with_reducible repeat (first|refine blk_drewN ?_ _|refine blk_drew ?_|refine blk_alloc ?_ _));refine blk_far ?_ NB369_387.out _;(with_reducible repeat (first|refine blk_drewN ?_ _|refine blk_drew ?_|refine blk_alloc ?_ _));exact BK369.out⟩,⟨by(with_reducible repeat (first|refine blk_drewN ?_ _|refine blk_drew ?_|refine blk_alloc ?_ _));apply bU3;(with_reducible repeat (first|refine blk_drewN ?_ _|refine blk_drew ?_|refine blk_alloc ?_ _));refine blk_far ?_ NB377_387.out _;(with_reducible repeat (first|refine blk_drewN ?_ _|refine blk_drew ?_|refine blk_alloc ?_ _));refine blk_far ?_ NB377_387.out _;(with_reducible repeat (first|refine blk_drewN ?_ _|refine blk_drew ?_|refine blk_alloc ?_ _));refine blk_far ?_ NB377_387.out _;(with_reducible repeat (first|refine blk_drewN ?_ _|refine blk_drew ?_|refine blk_alloc ?_ _));exact BK377.out⟩,⟨bS4 GE368.out GE369.out GE377.out GE387.out⟩⟩
       ·replace c29:=Bool.eq_false_iff.mpr c29
        subst c29
        have H1:(some (0,([]:List (S34)),0,0,false))=some (r1,r2,r3,r4,r5):=by rw[if_neg (show ¬ (false=true) by decide)] at H;exact H
        clear H
        have H:=H1
        clear H1
        simp only[Option.some.injEq,Prod.mk.injEq] at H
        obtain⟨rfl,rfl,rfl,rfl,rfl⟩:=H
        have hnb43:=NB377_368.out
        have hnc43:=NB368_377.out
        have hnb44:=NB377_369.out
        have hnc44:=NB369_377.out
        obtain⟨hcz45_0,hcz45_1,hcz45_2⟩:=cC3 BK377.out
        obtain⟨hfz45_0,hfz45_1,hfz45_2⟩:=cF3 BK377.out
        obtain⟨Ao46,co46,eo46⟩:=Kd.S_slice HO_378001.out
        subst eo46
        go_wp2_with (first|((with_reducible refine gate_callee (f:=6) rfl ?_);refine goesA (some 28) rfl rfl Try.func6 #[.agg #[.int .i64 x378000_2,.slice Ao46 x378001_2.length co46,.int .i64 x378002_2]] rfl ?_;(with_reducible refine(impl_NextRound.calls k2 x378000_2 _ _ x378001_2 x378002_2 t378 t379 t382 t383 false _ ?side1 ?side2 A28.out).mono ?_);(case side1=>repeat (first|exact(Kd.S_reads' HO_378001.out).2.2|(with_reducible refine Kd.C_alloc ?_ _)|(with_reducible refine Kd.C_drewN ?_ _)|(with_reducible refine Kd.C_drew ?_)));(case side2=>exact(Kd.S_reads' HO_378001.out).2.1);rintro e w47 ⟨v380,v384,rfl,ho0,ho1,hb⟩;refine⟨_,rfl,?_⟩;have n0_:=am (Kd.S_mono (Kd.S_told (Kd.S_told (Kd.S_old (by(with_reducible repeat (first|apply Kd.S_alloc|apply Kd.S_drewN|apply Kd.S_drew));exact HO_378001.out) hb) (Kd.S_base ho0)) (Kd.R_base ho1)) (fun _ h_=>h_.1));have n1_:=am (Kd.S_lower (Kd.S_new' ho0 (Kd.S_lt (by(with_reducible repeat (first|apply Kd.S_alloc|apply Kd.S_drewN|apply Kd.S_drew));exact HO_378001.out))) (below_size (bS3 GE368.out GE369.out GE377.out)));have n2_:=am (Kd.R_lower ho1 (below_size (bS3 GE368.out GE369.out GE377.out)));have n3_:=am (bM BK368.out hb);have n4_:=am (bM BK369.out hb);have n5_:=am (bM BK377.out hb);have n6_:=am (below_step (bS3 GE368.out GE369.out GE377.out) hb);clear HO_378001 BK368 BK369 BK377 HB;have HO_378001:=n0_;have HO381:=n1_;have HO385:=n2_;have BK368:=n3_;have BK369:=n4_;have BK377:=n5_;have HB:=n6_;clear n0_ n1_ n2_ n3_ n4_ n5_ n6_;(try clear hb);(try clear hb2);(try clear hk);(try clear hi);(try clear ho0);(try clear ho1))|((with_reducible refine gate_dst (N:=9) rfl ?_);refine box_event ?hg (N:=9) ?hd (cs:=#[.int .i64 0,.slice none 0 0,.int .i64 0]) (t:=25) ?hr ?_;(case hd=>rfl);(case hg=>rfl);(case hr=>first|(go_simp;done)|(go_simp;rfl));intro gb387 hg w48 hbox hb;have n0_:=am (Kd.S_below (by(with_reducible repeat (first|apply Kd.S_alloc|apply Kd.S_drewN|apply Kd.S_drew));exact HO_378001.out) hb);have n1_:=am (Kd.S_below (by(with_reducible repeat (first|apply Kd.S_alloc|apply Kd.S_drewN|apply Kd.S_drew));exact HO381.out) hb);have n2_:=am (Kd.R_below (bK HO385.out) hb);have n3_:=am (bM BK368.out hb);have n4_:=am (bM BK369.out hb);have n5_:=am (bM BK377.out hb);have n6_:=am (below_step (bS3 GE368.out GE369.out GE377.out) hb);have n7_:=am (hbox);have n8_:=am ((by rw[hg];exact(below_size (bS3 GE368.out GE369.out GE377.out)):w.heap.size≤gb387));have n9_:=am ((by rw[hg];exact(below_size (bS3 GE368.out GE369.out GE377.out)):w.heap.size≤gb387));have n10_:=am ((bN BK368.out hg:gb368≠gb387));have n11_:=am ((bO BK368.out hg:gb387≠gb368));have n12_:=am ((bN BK369.out hg:gb369≠gb387));have n13_:=am ((bO BK369.out hg:gb387≠gb369));have n14_:=am ((bN BK377.out hg:gb377≠gb387));have n15_:=am ((bO BK377.out hg:gb387≠gb377));clear HO_378001 HO381 HO385 BK368 BK369 BK377 HB;have HO_378001:=n0_;have HO381:=n1_;have HO385:=n2_;have BK368:=n3_;have BK369:=n4_;have BK377:=n5_;have HB:=n6_;have BK387:=n7_;have GW387:=n8_;have GE387:=n9_;have NB368_387:=n10_;have NB387_368:=n11_;have NB369_387:=n12_;have NB387_369:=n13_;have NB377_387:=n14_;have NB387_377:=n15_;clear n0_ n1_ n2_ n3_ n4_ n5_ n6_ n7_ n8_ n9_ n10_ n11_ n12_ n13_ n14_ n15_;clear hb hbox hg;have hnb49:=NB387_368.out;have hnc49:=NB368_387.out;have hnb50:=NB387_369.out;have hnc50:=NB369_387.out;have hnb51:=NB387_377.out;have hnc51:=NB377_387.out;obtain⟨hcz52_0,hcz52_1,hcz52_2⟩:=cC3 BK387.out;obtain⟨hfz52_0,hfz52_1,hfz52_2⟩:=cF3 BK387.out;obtain⟨Ao53,co53,eo53⟩:=Kd.S_slice HO381.out;subst eo53;have hnb54:=NB369_368.out;have hnc54:=NB368_369.out;obtain⟨hcz55_0,hcz55_1,hcz55_2⟩:=cC3 BK369.out;obtain⟨hfz55_0,hfz55_1,hfz55_2⟩:=cF3 BK369.out))
        refine bodyPost_ret (results_ctt rfl _ _ gb369 25 #[.int .i64 0,.slice none 0 0,.int .i64 0] (0,0) _ rfl (by(with_reducible repeat (first|refine blk_drewN ?_ _|refine blk_drew ?_|refine blk_alloc ?_ _));apply bU3;(with_reducible repeat (first|refine blk_drewN ?_ _|refine blk_drew ?_|refine blk_alloc ?_ _));refine blk_far ?_ NB369_387.out _;(with_reducible repeat (first|refine blk_drewN ?_ _|refine blk_drew ?_|refine blk_alloc ?_ _));refine blk_far ?_ NB369_387.out _;(with_reducible repeat (first|refine blk_drewN ?_ _|refine blk_drew ?_|refine blk_alloc ?_ _));refine blk_far ?_ NB369_387.out _;(with_reducible repeat (first|refine blk_drewN ?_ _|refine blk_drew ?_|refine blk_alloc ?_ _));exact BK369.out) Try.underlying25 rfl (by kernel_rfl)) rfl ?_
        exact⟨_,by first|rfl|(simp[errW_none,errW_some]<;>rfl)|(simp[*,errW_none,errW_some]<;>rfl),by first|exact Kd.S_nil _ _ _ _ _|exact Kd.N_nil _ _ _ _ _|exact Kd.V_nil _ _ _ _ _|exact Kd.Q_nil _ _ _ _ _|exact Kd.R_nil _ _ _ _ _,bS4 GE368.out GE369.out GE377.out GE387.out⟩
      ·rw[if_neg c27] at H
       have c27b0:decide (x24_2 < a1)=false:=decide_eq_false c27
       clear c27
       simp only[Option.some.injEq,Prod.mk.injEq] at H
       obtain⟨rfl,rfl,rfl,rfl,rfl⟩:=H
       have hnb56:=NB377_368.out
       have hnc56:=NB368_377.out
       have hnb57:=NB377_369.out
       have hnc57:=NB369_377.out
       obtain⟨hcz58_0,hcz58_1,hcz58_2⟩:=cC3 BK377.out
       obtain⟨hfz58_0,hfz58_1,hfz58_2⟩:=cF3 BK377.out
       have hnb59:=NB369_368.out
       have hnc59:=NB368_369.out
       obtain⟨hcz60_0,hcz60_1,hcz60_2⟩:=cC3 BK369.out
       obtain⟨hfz60_0,hfz60_1,hfz60_2⟩:=cF3 BK369.out
       obtain⟨Ao61,co61,eo61⟩:=Kd.S_slice HO_378001.out
       subst eo61
       go_wp2
       refine bodyPost_ret (results_ctt rfl _ _ gb369 25 #[.int .i64 x378000_2,.slice Ao61 x378001_2.length co61,.int .i64 x378002_2] (0,0) _ rfl (by(with_reducible repeat (first|refine blk_drewN ?_ _|refine blk_drew ?_|refine blk_alloc ?_ _));apply bU3;(with_reducible repeat (first|refine blk_drewN ?_ _|refine blk_drew ?_|refine blk_alloc ?_ _));exact BK369.out) Try.underlying25 rfl (by kernel_rfl)) rfl ?_
       exact⟨_,by first|rfl|(simp[errW_none,errW_some]<;>rfl)|(simp[*,errW_none,errW_some]<;>rfl),by(with_reducible repeat (first|apply Kd.S_alloc|apply Kd.S_drewN|apply Kd.S_drew));exact Kd.S_mono (Kd.S_far (p:=⟨gb369,2,none⟩) (Kd.S_far (p:=⟨gb369,1,none⟩) (Kd.S_far (p:=⟨gb369,0,none⟩) (Kd.S_types HO_378001.out BK369.out (by decide)) (fun _ hk=>hk.2) (.int .i64 x378000_2)) (fun _ hk=>hk.2) (.slice Ao61 x378001_2.length co61)) (fun _ hk=>hk.2) (.int .i64 x378002_2)) (fun _ hk=>trivial),bS3 GE368.out GE369.out GE377.out⟩

/-! ### spec_RunRounds: function 18 -/
mutual
def spec_RunRounds.j0:Nat→Int→Bool→Int→List (S34)→Int→Option (Int × (List (S34)) × Int × Int × Bool)
 | 0,_,_,_,_,_=>none
 | k+1,x1,x18,x389000,x389001,x389002=>if x18=true then (some (0,([]:List (S34)),0,0,false)) else ((spec_l14Own.f k x389000 x389001 x389002).bind fun bt392=>(spec_RunRounds.l0 k x1 0 bt392.1 bt392.2.1 bt392.2.2))
def spec_RunRounds.l0:Nat→Int→Int→Int→List (S34)→Int→Option (Int × (List (S34)) × Int × Int × Bool)
 | 0,_,_,_,_,_=>none
 | k+1,x1,x7,x389000,x389001,x389002=>if x1 > 0 then ((spec_NextRound.f k x389000 x389001 x389002).bind fun bt397=>(if bt397.2.2.2.2=true then (spec_RunRounds.l0 k (wrap64 (x1 - 1)) (wrap64 (x7+(bt397.2.2.2.1.length:Int))) bt397.1 bt397.2.1 bt397.2.2.1) else (some (0,([]:List (S34)),0,0,false)))) else (some (x389000,x389001,x389002,x7,true))
end
def spec_RunRounds.f (k:Nat) (a0_0:Int) (l0_1:List (S34)) (a0_2:Int) (a1:Int):Option (Int × (List (S34)) × Int × Int × Bool):=(spec_GoodTurns.f k a0_0 l0_1 a0_2).bind fun t390=>(if t390=true then ((spec_l1In.f a1 0 200).bind fun t391=>(spec_RunRounds.j0 k a1 (!t391) a0_0 l0_1 a0_2)) else (spec_RunRounds.j0 k a1 true a0_0 l0_1 a0_2))
theorem spec_RunRounds.mono_l : ∀ k,(∀ y0 y1 y2 y3 y4,LeO (spec_RunRounds.j0 k y0 y1 y2 y3 y4) (spec_RunRounds.j0 (k+1) y0 y1 y2 y3 y4))∧(∀ y0 y1 y2 y3 y4,LeO (spec_RunRounds.l0 k y0 y1 y2 y3 y4) (spec_RunRounds.l0 (k+1) y0 y1 y2 y3 y4))
 | 0=>⟨fun _ _ _ _ _ r h=>by simp[spec_RunRounds.j0] at h,fun _ _ _ _ _ r h=>by simp[spec_RunRounds.l0] at h⟩
 | k+1=>by
  obtain⟨ih0,ih1⟩:=spec_RunRounds.mono_l k
  refine⟨?_,?_⟩
  ·intro y0 y1 y2 y3 y4
   unfold spec_RunRounds.j0
   repeat' first
   | (with_reducible exact ih0 _ _ _ _ _)
   | (with_reducible exact ih1 _ _ _ _ _)
   | (with_reducible exact spec_GoodTurns.mono _ _ _ _)
   | (with_reducible exact spec_NextRound.mono _ _ _ _)
   | (with_reducible exact spec_l14Own.mono _ _ _ _)
   | (with_reducible exact LeO.refl _)
   | (with_reducible exact LeO.none _)
   | (with_reducible refine LeO.ite ?_ ?_)
   | (with_reducible refine LeO.bind ?_ (fun _ => ?_))
  ·intro y0 y1 y2 y3 y4
   unfold spec_RunRounds.l0
   repeat' first
   | (with_reducible exact ih0 _ _ _ _ _)
   | (with_reducible exact ih1 _ _ _ _ _)
   | (with_reducible exact spec_GoodTurns.mono _ _ _ _)
   | (with_reducible exact spec_NextRound.mono _ _ _ _)
   | (with_reducible exact spec_l14Own.mono _ _ _ _)
   | (with_reducible exact LeO.refl _)
   | (with_reducible exact LeO.none _)
   | (with_reducible refine LeO.ite ?_ ?_)
   | (with_reducible refine LeO.bind ?_ (fun _ => ?_))
theorem spec_RunRounds.mono : ∀ a0 a1 a2 a3 k,LeO (spec_RunRounds.f k a0 a1 a2 a3) (spec_RunRounds.f (k+1) a0 a1 a2 a3):=by
 intro a0 a1 a2 a3 k
 obtain⟨ih0,ih1⟩:=spec_RunRounds.mono_l k
 unfold spec_RunRounds.f
 repeat' first
  | (with_reducible exact ih0 _ _ _ _ _)
  | (with_reducible exact ih1 _ _ _ _ _)
  | (with_reducible exact spec_GoodTurns.mono _ _ _ _)
  | (with_reducible exact spec_NextRound.mono _ _ _ _)
  | (with_reducible exact spec_l14Own.mono _ _ _ _)
  | (with_reducible exact LeO.refl _)
  | (with_reducible exact LeO.none _)
  | (with_reducible refine LeO.ite ?_ ?_)
  | (with_reducible refine LeO.bind ?_ (fun _ => ?_))
set_option maxHeartbeats 8000000 in
set_option maxRecDepth 100000 in
theorem spec_RunRounds.calls (k:Nat) (a0_0:Int) (A0_1:Option Addr) (c0_1:Nat) (l0_1:List (S34)) (a0_2:Int) (a1:Int) (r1:Int) (r2:List (S34)) (r3:Int) (r4:Int) (r5:Bool) (w:World) (hr0_1:Kd.C k34 w A0_1 l0_1.length l0_1) (hc0_1:l0_1.length≤c0_1) (h:spec_RunRounds.f k a0_0 l0_1 a0_2 a1=some (r1,r2,r3,r4,r5)) :
  Calls Try.prog 18 #[.agg #[.int .i64 a0_0,.slice A0_1 l0_1.length c0_1,.int .i64 a0_2],.int .i64 a1] w fun e w' => ∃ v1_:Value,e=.returned (.tuple #[.agg #[.int .i64 r1,v1_,.int .i64 r3],.int .i64 r4,.bool r5])∧Kd.S k34 34 w' w.heap.size (fun _=>True) v1_ r2∧Below w.heap.size w w':=by
 have hu25:=Try.underlying25
 have HR0_1:=am hr0_1
 have HC0_1:=am hc0_1
 clear hr0_1 hc0_1
 have HB:=am (Below.refl w.heap.size w)
 have H:((spec_GoodTurns.f k a0_0 l0_1 a0_2).bind fun t390=>(if t390=true then ((spec_l1In.f a1 0 200).bind fun t391=>(spec_RunRounds.j0 k a1 (!t391) a0_0 l0_1 a0_2)) else (spec_RunRounds.j0 k a1 true a0_0 l0_1 a0_2)))=some (r1,r2,r3,r4,r5):=h
 clear h
 have HC3:=am H
 clear H
 go_enter Try.func18,Try.ntmps18
 go_upto_region 1 with (first|((with_reducible refine gate_dst (N:=2) rfl ?_);refine box_event ?hg (N:=2) ?hd (cs:=#[.int .i64 a0_0,.slice A0_1 l0_1.length c0_1,.int .i64 a0_2]) (t:=25) ?hr ?_;(case hd=>rfl);(case hg=>rfl);(case hr=>first|(go_simp;done)|(go_simp;rfl));intro gb388 hg w4 hbox hb;have n0_:=am (below_step (bB) hb);have n1_:=am (hbox);have n2_:=am ((bG:w.heap.size≤gb388));have n3_:=am ((bG:w.heap.size≤gb388));clear HB;have HB:=n0_;have BK388:=n1_;have GW388:=n2_;have GE388:=n3_;clear n0_ n1_ n2_ n3_;clear hb hbox hg)|((with_reducible refine gate_dst (N:=4) rfl ?_);refine box_event ?hg (N:=4) ?hd (cs:=#[.int .i64 0,.slice none 0 0,.int .i64 0]) (t:=25) ?hr ?_;(case hd=>rfl);(case hg=>rfl);(case hr=>first|(go_simp;done)|(go_simp;rfl));intro gb389 hg w5 hbox hb;have n0_:=am (bM BK388.out hb);have n1_:=am (below_step (bS GE388.out) hb);have n2_:=am (hbox);have n3_:=am ((by rw[hg];exact(below_size (bS GE388.out)):w.heap.size≤gb389));have n4_:=am ((by rw[hg];exact(below_size (bS GE388.out)):w.heap.size≤gb389));have n5_:=am ((bN BK388.out hg:gb388≠gb389));have n6_:=am ((bO BK388.out hg:gb389≠gb388));clear BK388 HB;have BK388:=n0_;have HB:=n1_;have BK389:=n2_;have GW389:=n3_;have GE389:=n4_;have NB388_389:=n5_;have NB389_388:=n6_;clear n0_ n1_ n2_ n3_ n4_ n5_ n6_;clear hb hbox hg))
 (try simp only[Act.put,zA,zB,zC])
 go_cut [18] (fun v18 wc => ∃ (kq:Nat) (x18_2:Bool),v18=.bool x18_2∧Aside0 (spec_RunRounds.j0 kq a1 x18_2 a0_0 l0_1 a0_2=some (r1,r2,r3,r4,r5))∧Aside0 (kq≤k)∧Aside0 (wc.heap[gb388]?=some (.cells #[.int .i64 a0_0,(.slice A0_1 l0_1.length c0_1),.int .i64 a0_2] 25 (0,0)))∧Aside0 (wc.heap[gb389]?=some (.cells #[.int .i64 0,(.slice none 0 0),.int .i64 0] 25 (0,0)))∧Aside0 (Below w.heap.size w wc))
 case first =>
  have H:=HC3.out
  clear HC3
  replace H:=bI_ H
  obtain⟨t390,A60,H⟩:=H
  replace H:(if t390=true then ((spec_l1In.f a1 0 200).bind fun t391=>(spec_RunRounds.j0 k a1 (!t391) a0_0 l0_1 a0_2)) else (spec_RunRounds.j0 k a1 true a0_0 l0_1 a0_2))=some (r1,r2,r3,r4,r5):=H
  have A6:=am A60
  clear A60
  by_cases c7:t390=true
  ·subst c7
   have H1:((spec_l1In.f a1 0 200).bind fun t391=>(spec_RunRounds.j0 k a1 (!t391) a0_0 l0_1 a0_2))=some (r1,r2,r3,r4,r5):=by rw[if_pos rfl] at H;exact H
   clear H
   have H:=H1
   clear H1
   replace H:=bI_ H
   obtain⟨t391,A80,H⟩:=H
   replace H:(spec_RunRounds.j0 k a1 (!t391) a0_0 l0_1 a0_2)=some (r1,r2,r3,r4,r5):=H
   have A8:=am A80
   clear A80
   have H':=am H
   clear H
   have hnb9:=NB388_389.out
   have hnc9:=NB389_388.out
   obtain⟨hcz10_0,hcz10_1,hcz10_2⟩:=cC3 BK388.out
   obtain⟨hfz10_0,hfz10_1,hfz10_2⟩:=cF3 BK388.out
   go_wp2_with (first|((with_reducible refine gate_callee (f:=11) rfl ?_);refine goesA (some 12) rfl rfl Try.func11 #[.agg #[.int .i64 a0_0,.slice A0_1 l0_1.length c0_1,.int .i64 a0_2]] rfl ?_;(with_reducible refine(spec_GoodTurns.calls k a0_0 _ _ l0_1 a0_2 true _ ?side1 ?side2 A6.out).mono ?_);(case side1=>exact bC HR0_1.out);(case side2=>exact HC0_1.out);rintro e w11 ⟨rfl,hb⟩;refine⟨_,rfl,?_⟩;have n0_:=am (bM BK388.out hb);have n1_:=am (bM BK389.out hb);have n2_:=am (below_step (bS2 GE388.out GE389.out) hb);clear BK388 BK389 HB;have BK388:=n0_;have BK389:=n1_;have HB:=n2_;clear n0_ n1_ n2_;(try clear hb);(try clear hb2);(try clear hk);(try clear hi))|(go_at_call 27;(with_reducible refine(spec_l1In.calls a1 0 200 t391 _ A8.out).mono ?_);rintro e w' ⟨rfl,⟨nd,rfl⟩⟩))
   go_meet
   case rel=>exact⟨_,(!t391),(bR),H',⟨by first|omega|exact Nat.le_refl _⟩,⟨by(with_reducible repeat (first|refine blk_drewN ?_ _|refine blk_drew ?_|refine blk_alloc ?_ _));exact BK388.out⟩,⟨by(with_reducible repeat (first|refine blk_drewN ?_ _|refine blk_drew ?_|refine blk_alloc ?_ _));exact BK389.out⟩,⟨bS2 GE388.out GE389.out⟩⟩
  ·replace c7:=Bool.eq_false_iff.mpr c7
   subst c7
   have H1:(spec_RunRounds.j0 k a1 true a0_0 l0_1 a0_2)=some (r1,r2,r3,r4,r5):=by rw[if_neg (show ¬ (false=true) by decide)] at H;exact H
   clear H
   have H:=H1
   clear H1
   have H':=am H
   clear H
   have hnb12:=NB388_389.out
   have hnc12:=NB389_388.out
   obtain⟨hcz13_0,hcz13_1,hcz13_2⟩:=cC3 BK388.out
   obtain⟨hfz13_0,hfz13_1,hfz13_2⟩:=cF3 BK388.out
   go_wp2_with (first|((with_reducible refine gate_callee (f:=11) rfl ?_);refine goesA (some 12) rfl rfl Try.func11 #[.agg #[.int .i64 a0_0,.slice A0_1 l0_1.length c0_1,.int .i64 a0_2]] rfl ?_;(with_reducible refine(spec_GoodTurns.calls k a0_0 _ _ l0_1 a0_2 false _ ?side1 ?side2 A6.out).mono ?_);(case side1=>exact bC HR0_1.out);(case side2=>exact HC0_1.out);rintro e w14 ⟨rfl,hb⟩;refine⟨_,rfl,?_⟩;have n0_:=am (bM BK388.out hb);have n1_:=am (bM BK389.out hb);have n2_:=am (below_step (bS2 GE388.out GE389.out) hb);clear BK388 BK389 HB;have BK388:=n0_;have BK389:=n1_;have HB:=n2_;clear n0_ n1_ n2_;(try clear hb);(try clear hb2);(try clear hk);(try clear hi)))
   go_meet
   case rel=>exact⟨_,(true),(bR),H',⟨by first|omega|exact Nat.le_refl _⟩,⟨by(with_reducible repeat (first|refine blk_drewN ?_ _|refine blk_drew ?_|refine blk_alloc ?_ _));exact BK388.out⟩,⟨by(with_reducible repeat (first|refine blk_drewN ?_ _|refine blk_drew ?_|refine blk_alloc ?_ _));exact BK389.out⟩,⟨bS2 GE388.out GE389.out⟩⟩
 case rest =>
  clear HC3
  try clear c1
  try clear p2
  try clear c7
  try clear c9
  try clear c11
  try clear c12
  try clear hcz10_0 hcz10_1 hcz10_2
  try clear hcz13_0 hcz13_1 hcz13_2
  try clear hfz10_0 hfz10_1 hfz10_2
  try clear hfz13_0 hfz13_1 hfz13_2
  obtain⟨kq,x18_2,rfl,HA,HJ2,BK388,BK389,HB⟩:=hcut
  cases kq with
  | zero=>exact absurd HA.out (by simp[spec_RunRounds.j0])
  | succ kj2 =>
   have H:=HA.out
   clear HA
   simp only[spec_RunRounds.j0] at H
   by_cases c15:x18_2=true
   ·subst c15
    have H1:(some (0,([]:List (S34)),0,0,false))=some (r1,r2,r3,r4,r5):=by rw[if_pos rfl] at H;exact H
    clear H
    have H:=H1
    clear H1
    simp only[Option.some.injEq,Prod.mk.injEq] at H
    obtain⟨rfl,rfl,rfl,rfl,rfl⟩:=H
    have hnb16:=NB389_388.out
    have hnc16:=NB388_389.out
    obtain⟨hcz17_0,hcz17_1,hcz17_2⟩:=cC3 BK389.out
    obtain⟨hfz17_0,hfz17_1,hfz17_2⟩:=cF3 BK389.out
    go_wp2
    refine bodyPost_ret (results_ctt rfl _ _ gb389 25 #[.int .i64 0,.slice none 0 0,.int .i64 0] (0,0) _ rfl (by(with_reducible repeat (first|refine blk_drewN ?_ _|refine blk_drew ?_|refine blk_alloc ?_ _));apply bU3;(with_reducible repeat (first|refine blk_drewN ?_ _|refine blk_drew ?_|refine blk_alloc ?_ _));exact BK389.out) Try.underlying25 rfl (by kernel_rfl)) rfl ?_
    exact⟨_,by first|rfl|(simp[errW_none,errW_some]<;>rfl)|(simp[*,errW_none,errW_some]<;>rfl),by first|exact Kd.S_nil _ _ _ _ _|exact Kd.N_nil _ _ _ _ _|exact Kd.V_nil _ _ _ _ _|exact Kd.Q_nil _ _ _ _ _|exact Kd.R_nil _ _ _ _ _,bS2 GE388.out GE389.out⟩
   ·replace c15:=Bool.eq_false_iff.mpr c15
    subst c15
    have H1:((spec_l14Own.f kj2 a0_0 l0_1 a0_2).bind fun bt392=>(spec_RunRounds.l0 kj2 a1 0 bt392.1 bt392.2.1 bt392.2.2))=some (r1,r2,r3,r4,r5):=by rw[if_neg (show ¬ (false=true) by decide)] at H;exact H
    clear H
    have H:=H1
    clear H1
    replace H:=bI_ H
    obtain⟨⟨t392,t393,t396⟩,A180,H⟩:=H
    replace H:(spec_RunRounds.l0 kj2 a1 0 t392 t393 t396)=some (r1,r2,r3,r4,r5):=H
    have A18:=am A180
    clear A180
    have H':=am H
    clear H
    have hnb19:=NB388_389.out
    have hnc19:=NB389_388.out
    obtain⟨hcz20_0,hcz20_1,hcz20_2⟩:=cC3 BK388.out
    obtain⟨hfz20_0,hfz20_1,hfz20_2⟩:=cF3 BK388.out
    go_wp2_with (first|((with_reducible refine gate_callee (f:=31) rfl ?_);refine goesA (some 21) rfl rfl Try.func31 #[.agg #[.int .i64 a0_0,.slice A0_1 l0_1.length c0_1,.int .i64 a0_2]] rfl ?_;(with_reducible refine(spec_l14Own.calls kj2 a0_0 _ _ l0_1 a0_2 t392 t393 t396 _ ?side1 ?side2 A18.out).mono ?_);(case side1=>exact bC HR0_1.out);(case side2=>exact HC0_1.out);rintro e w21 ⟨v394,rfl,ho0,hb⟩;refine⟨_,rfl,?_⟩;have n0_:=am (Kd.S_lower ho0 (below_size (bS2 GE388.out GE389.out)));have n1_:=am (bM BK388.out hb);have n2_:=am (bM BK389.out hb);have n3_:=am (below_step (bS2 GE388.out GE389.out) hb);clear BK388 BK389 HB;have HO395:=n0_;have BK388:=n1_;have BK389:=n2_;have HB:=n3_;clear n0_ n1_ n2_ n3_;(try clear hb);(try clear hb2);(try clear hk);(try clear hi);(try clear ho0);obtain⟨hcz22_0,hcz22_1,hcz22_2⟩:=cC3 BK388.out;obtain⟨hfz22_0,hfz22_1,hfz22_2⟩:=cF3 BK388.out;obtain⟨Ao23,co23,eo23⟩:=Kd.S_slice HO395.out;subst eo23))
    go_loopg [1,7] kj2 (fun kq v1 v7 w' => ∃ (x1_2:Int) (x7_2:Int) (x389000_2:Int) (x389001_2:List (S34)) (x389002_2:Int) (x390000_2:Int) (x390002_2:Int) (u389001:Value),v1=.int .i64 x1_2∧v7=.int .i64 x7_2∧Aside0 (spec_RunRounds.l0 kq x1_2 x7_2 x389000_2 x389001_2 x389002_2=some (r1,r2,r3,r4,r5))∧Aside0 (kq≤kj2)∧Aside0 (Kd.S k34 34 w' w.heap.size (fun _=>True) u389001 x389001_2)∧Aside0 (w'.heap[gb388]?=some (.cells #[.int .i64 x389000_2,u389001,.int .i64 x389002_2] 25 (0,0)))∧Aside0 (w'.heap[gb389]?=some (.cells #[.int .i64 x390000_2,(.slice none 0 0),.int .i64 x390002_2] 25 (0,0)))∧Aside0 (Below w.heap.size w w'))
    case atStart=>exact⟨(a1),(0),(t392),(t393),(t396),(0),(0),(.slice Ao23 t393.length co23),(bR),(bR),H',⟨Nat.le_refl _⟩,⟨by(with_reducible repeat (first|apply Kd.S_alloc|apply Kd.S_drewN|apply Kd.S_drew));exact Kd.S_mono (Kd.S_far (p:=⟨gb388,2,none⟩) (Kd.S_far (p:=⟨gb388,1,none⟩) (Kd.S_far (p:=⟨gb388,0,none⟩) (Kd.S_types HO395.out BK388.out (by decide)) (fun _ hk=>hk.2) (.int .i64 t392)) (fun _ hk=>hk.2) (.slice Ao23 t393.length co23)) (fun _ hk=>hk.2) (.int .i64 t396)) (fun _ hk=>trivial)⟩,⟨by(with_reducible repeat (first|refine blk_drewN ?_ _|refine blk_drew ?_|refine blk_alloc ?_ _));apply bU3;(with_reducible repeat (first|refine blk_drewN ?_ _|refine blk_drew ?_|refine blk_alloc ?_ _));exact BK388.out⟩,⟨by(with_reducible repeat (first|refine blk_drewN ?_ _|refine blk_drew ?_|refine blk_alloc ?_ _));refine blk_far ?_ NB389_388.out _;(with_reducible repeat (first|refine blk_drewN ?_ _|refine blk_drew ?_|refine blk_alloc ?_ _));refine blk_far ?_ NB389_388.out _;(with_reducible repeat (first|refine blk_drewN ?_ _|refine blk_drew ?_|refine blk_alloc ?_ _));refine blk_far ?_ NB389_388.out _;(with_reducible repeat (first|refine blk_drewN ?_ _|refine blk_drew ?_|refine blk_alloc ?_ _));exact BK389.out⟩,⟨bS2 GE388.out GE389.out⟩⟩
    case round =>
     clear H'
     try clear c1
     try clear p2
     try clear c3
     try clear c7
     try clear c9
     try clear c11
     try clear c12
     try clear c15
     try clear c16
     try clear c18
     try clear c19
     try clear hcz10_0 hcz10_1 hcz10_2
     try clear hcz13_0 hcz13_1 hcz13_2
     try clear hcz17_0 hcz17_1 hcz17_2
     try clear hcz20_0 hcz20_1 hcz20_2
     try clear hcz22_0 hcz22_1 hcz22_2
     try clear hfz10_0 hfz10_1 hfz10_2
     try clear hfz13_0 hfz13_1 hfz13_2
     try clear hfz17_0 hfz17_1 hfz17_2
     try clear hfz20_0 hfz20_1 hfz20_2
     try clear hfz22_0 hfz22_1 hfz22_2
     try clear p2
     obtain⟨x1_2,x7_2,x389000_2,x389001_2,x389002_2,x390000_2,x390002_2,u389001,rfl,rfl,HA,HK2,HO_389001,BK388,BK389,HB⟩:=hrel
     cases gk with
     | zero=>exact absurd HA.out (by simp[spec_RunRounds.l0])
     | succ k2 =>
      have H:=HA.out
      clear HA
      simp only[spec_RunRounds.l0] at H
      by_cases c24:x1_2 > 0
      ·rw[if_pos c24] at H
       have c24b0:decide (0 < x1_2)=true:=decide_eq_true c24
       clear c24
       replace H:=bI_ H
       obtain⟨⟨t397,t398,t401,t402,t405⟩,A250,H⟩:=H
       replace H:(if t405=true then (spec_RunRounds.l0 k2 (wrap64 (x1_2 - 1)) (wrap64 (x7_2+(t402.length:Int))) t397 t398 t401) else (some (0,([]:List (S34)),0,0,false)))=some (r1,r2,r3,r4,r5):=H
       have A25:=am A250
       clear A250
       by_cases c26:t405=true
       ·subst c26
        have H1:(spec_RunRounds.l0 k2 (wrap64 (x1_2 - 1)) (wrap64 (x7_2+(t402.length:Int))) t397 t398 t401)=some (r1,r2,r3,r4,r5):=by rw[if_pos rfl] at H;exact H
        clear H
        have H:=H1
        clear H1
        have H':=am H
        clear H
        have hnb27:=NB388_389.out
        have hnc27:=NB389_388.out
        obtain⟨hcz28_0,hcz28_1,hcz28_2⟩:=cC3 BK388.out
        obtain⟨hfz28_0,hfz28_1,hfz28_2⟩:=cF3 BK388.out
        obtain⟨Ao29,co29,eo29⟩:=Kd.S_slice HO_389001.out
        subst eo29
        go_wp2_with (first|((with_reducible refine gate_callee (f:=7) rfl ?_);refine goesA (some 28) rfl rfl Try.func7 #[.agg #[.int .i64 x389000_2,.slice Ao29 x389001_2.length co29,.int .i64 x389002_2]] rfl ?_;(with_reducible refine(spec_NextRound.calls k2 x389000_2 _ _ x389001_2 x389002_2 t397 t398 t401 t402 true _ ?side1 ?side2 A25.out).mono ?_);(case side1=>repeat (first|exact(Kd.S_reads' HO_389001.out).2.2|(with_reducible refine Kd.C_alloc ?_ _)|(with_reducible refine Kd.C_drewN ?_ _)|(with_reducible refine Kd.C_drew ?_)));(case side2=>exact(Kd.S_reads' HO_389001.out).2.1);rintro e w30 ⟨v399,v403,rfl,ho0,ho1,hb⟩;refine⟨_,rfl,?_⟩;have n0_:=am (Kd.S_mono (Kd.S_told (Kd.S_told (Kd.S_old (by(with_reducible repeat (first|apply Kd.S_alloc|apply Kd.S_drewN|apply Kd.S_drew));exact HO_389001.out) hb) (Kd.S_base ho0)) (Kd.R_base ho1)) (fun _ h_=>h_.1));have n1_:=am (Kd.S_lower (Kd.S_new' ho0 (Kd.S_lt (by(with_reducible repeat (first|apply Kd.S_alloc|apply Kd.S_drewN|apply Kd.S_drew));exact HO_389001.out))) (below_size (bS2 GE388.out GE389.out)));have n2_:=am (Kd.R_lower ho1 (below_size (bS2 GE388.out GE389.out)));have n3_:=am (bM BK388.out hb);have n4_:=am (bM BK389.out hb);have n5_:=am (below_step (bS2 GE388.out GE389.out) hb);clear HO_389001 BK388 BK389 HB;have HO_389001:=n0_;have HO400:=n1_;have HO404:=n2_;have BK388:=n3_;have BK389:=n4_;have HB:=n5_;clear n0_ n1_ n2_ n3_ n4_ n5_;(try clear hb);(try clear hb2);(try clear hk);(try clear hi);(try clear ho0);(try clear ho1))|((with_reducible refine gate_dst (N:=8) rfl ?_);refine box_event ?hg (N:=8) ?hd (cs:=#[.int .i64 0,.slice none 0 0,.int .i64 0]) (t:=25) ?hr ?_;(case hd=>rfl);(case hg=>rfl);(case hr=>first|(go_simp;done)|(go_simp;rfl));intro gb406 hg w31 hbox hb;have n0_:=am (Kd.S_below (by(with_reducible repeat (first|apply Kd.S_alloc|apply Kd.S_drewN|apply Kd.S_drew));exact HO_389001.out) hb);have n1_:=am (Kd.S_below (by(with_reducible repeat (first|apply Kd.S_alloc|apply Kd.S_drewN|apply Kd.S_drew));exact HO400.out) hb);have n2_:=am (Kd.R_below (bK HO404.out) hb);have n3_:=am (bM BK388.out hb);have n4_:=am (bM BK389.out hb);have n5_:=am (below_step (bS2 GE388.out GE389.out) hb);have n6_:=am (hbox);have n7_:=am ((by rw[hg];exact(below_size (bS2 GE388.out GE389.out)):w.heap.size≤gb406));have n8_:=am ((by rw[hg];exact(below_size (bS2 GE388.out GE389.out)):w.heap.size≤gb406));have n9_:=am ((bN BK388.out hg:gb388≠gb406));have n10_:=am ((bO BK388.out hg:gb406≠gb388));have n11_:=am ((bN BK389.out hg:gb389≠gb406));have n12_:=am ((bO BK389.out hg:gb406≠gb389));clear HO_389001 HO400 HO404 BK388 BK389 HB;have HO_389001:=n0_;have HO400:=n1_;have HO404:=n2_;have BK388:=n3_;have BK389:=n4_;have HB:=n5_;have BK406:=n6_;have GW406:=n7_;have GE406:=n8_;have NB388_406:=n9_;have NB406_388:=n10_;have NB389_406:=n11_;have NB406_389:=n12_;clear n0_ n1_ n2_ n3_ n4_ n5_ n6_ n7_ n8_ n9_ n10_ n11_ n12_;clear hb hbox hg;have hnb32:=NB406_388.out;have hnc32:=NB388_406.out;have hnb33:=NB406_389.out;have hnc33:=NB389_406.out;obtain⟨hcz34_0,hcz34_1,hcz34_2⟩:=cC3 BK406.out;obtain⟨hfz34_0,hfz34_1,hfz34_2⟩:=cF3 BK406.out;obtain⟨Ao35,co35,eo35⟩:=Kd.S_slice HO400.out;subst eo35;obtain⟨hcz36_0,hcz36_1,hcz36_2⟩:=cC3 BK388.out;obtain⟨hfz36_0,hfz36_1,hfz36_2⟩:=cF3 BK388.out;obtain⟨Ao37,co37,eo37⟩:=Kd.R_slice HO404.out;subst eo37))
        go_roundg k2
        case measure=>have:=HJ2.out;have:=HK2.out;omega
        case rel=>exact⟨(wrap64 (x1_2 - 1)),(wrap64 (x7_2+(t402.length:Int))),(t397),(t398),(t401),(x390000_2),(x390002_2),(.slice Ao35 t398.length co35),(bR),(bR),H',⟨by have:=HJ2.out;have:=HK2.out;omega⟩,⟨by(with_reducible repeat (first|apply Kd.S_alloc|apply Kd.S_drewN|apply Kd.S_drew));exact Kd.S_mono (Kd.S_far (p:=⟨gb388,2,none⟩) (Kd.S_far (p:=⟨gb388,1,none⟩) (Kd.S_far (p:=⟨gb388,0,none⟩) (Kd.S_far (p:=⟨gb406,2,none⟩) (Kd.S_far (p:=⟨gb406,1,none⟩) (Kd.S_far (p:=⟨gb406,0,none⟩) (Kd.S_types (Kd.S_types HO400.out BK406.out (by decide)) BK388.out (by decide)) (fun _ hk=>hk.1.2) (.int .i64 t397)) (fun _ hk=>hk.1.2) (.slice Ao35 t398.length co35)) (fun _ hk=>hk.1.2) (.int .i64 t401)) (fun _ hk=>hk.2) (.int .i64 t397)) (fun _ hk=>hk.2) (.slice Ao35 t398.length co35)) (fun _ hk=>hk.2) (.int .i64 t401)) (fun _ hk=>trivial)⟩,⟨by(with_reducible repeat (first|refine blk_drewN ?_ _|refine blk_drew ?_|refine blk_alloc ?_ _));apply bU3;(with_reducible repeat (first|refine blk_drewN ?_ _|refine blk_drew ?_|refine blk_alloc ?_ _));refine blk_far ?_ NB388_406.out _;(with_reducible repeat (first|refine blk_drewN ?_ _|refine blk_drew ?_|refine blk_alloc ?_ _));refine blk_far ?_ NB388_406.out _;(with_reducible repeat (first|refine blk_drewN ?_ _|refine blk_drew ?_|refine blk_alloc ?_ _));refine blk_far ?_ NB388_406.out _;(with_reducible repeat (first|refine blk_drewN ?_ _|refine blk_drew ?_|refine blk_alloc ?_ _));exact BK388.out⟩,⟨by(with_reducible repeat (first|refine blk_drewN ?_ _|refine blk_drew ?_|refine blk_alloc ?_ _));refine blk_far ?_ NB389_388.out _;(with_reducible repeat (first|refine blk_drewN ?_ _|refine blk_drew ?_|refine blk_alloc ?_ _));refine blk_far ?_ NB389_388.out _;(with_reducible repeat (first|refine blk_drewN ?_ _|refine blk_drew ?_|refine blk_alloc ?_ _));refine blk_far ?_ NB389_388.out _;(with_reducible repeat (first|refine blk_drewN ?_ _|refine blk_drew ?_|refine blk_alloc ?_ _));refine blk_far ?_ NB389_406.out _;(with_reducible repeat (first|refine blk_drewN ?_ _|refine blk_drew ?_|refine blk_alloc ?_ _));refine blk_far ?_ NB389_406.out _;(with_reducible repeat (first|refine blk_drewN ?_ _|refine blk_drew ?_|refine blk_alloc ?_ _));refine blk_far ?_ NB389_406.out _;(with_reducible repeat (first|refine blk_drewN ?_ _|refine blk_drew ?_|refine blk_alloc ?_ _));exact BK389.out⟩,⟨bS3 GE388.out GE389.out GE406.out⟩⟩
       ·replace c26:=Bool.eq_false_iff.mpr c26
        subst c26
        have H1:(some (0,([]:List (S34)),0,0,false))=some (r1,r2,r3,r4,r5):=by rw[if_neg (show ¬ (false=true) by decide)] at H;exact H
        clear H
        have H:=H1
        clear H1
        simp only[Option.some.injEq,Prod.mk.injEq] at H
        obtain⟨rfl,rfl,rfl,rfl,rfl⟩:=H
        have hnb38:=NB388_389.out
        have hnc38:=NB389_388.out
        obtain⟨hcz39_0,hcz39_1,hcz39_2⟩:=cC3 BK388.out
        obtain⟨hfz39_0,hfz39_1,hfz39_2⟩:=cF3 BK388.out
        obtain⟨Ao40,co40,eo40⟩:=Kd.S_slice HO_389001.out
        subst eo40
        go_wp2_with (first|((with_reducible refine gate_callee (f:=7) rfl ?_);refine goesA (some 28) rfl rfl Try.func7 #[.agg #[.int .i64 x389000_2,.slice Ao40 x389001_2.length co40,.int .i64 x389002_2]] rfl ?_;(with_reducible refine(spec_NextRound.calls k2 x389000_2 _ _ x389001_2 x389002_2 t397 t398 t401 t402 false _ ?side1 ?side2 A25.out).mono ?_);(case side1=>repeat (first|exact(Kd.S_reads' HO_389001.out).2.2|(with_reducible refine Kd.C_alloc ?_ _)|(with_reducible refine Kd.C_drewN ?_ _)|(with_reducible refine Kd.C_drew ?_)));(case side2=>exact(Kd.S_reads' HO_389001.out).2.1);rintro e w41 ⟨v399,v403,rfl,ho0,ho1,hb⟩;refine⟨_,rfl,?_⟩;have n0_:=am (Kd.S_mono (Kd.S_told (Kd.S_told (Kd.S_old (by(with_reducible repeat (first|apply Kd.S_alloc|apply Kd.S_drewN|apply Kd.S_drew));exact HO_389001.out) hb) (Kd.S_base ho0)) (Kd.R_base ho1)) (fun _ h_=>h_.1));have n1_:=am (Kd.S_lower (Kd.S_new' ho0 (Kd.S_lt (by(with_reducible repeat (first|apply Kd.S_alloc|apply Kd.S_drewN|apply Kd.S_drew));exact HO_389001.out))) (below_size (bS2 GE388.out GE389.out)));have n2_:=am (Kd.R_lower ho1 (below_size (bS2 GE388.out GE389.out)));have n3_:=am (bM BK388.out hb);have n4_:=am (bM BK389.out hb);have n5_:=am (below_step (bS2 GE388.out GE389.out) hb);clear HO_389001 BK388 BK389 HB;have HO_389001:=n0_;have HO400:=n1_;have HO404:=n2_;have BK388:=n3_;have BK389:=n4_;have HB:=n5_;clear n0_ n1_ n2_ n3_ n4_ n5_;(try clear hb);(try clear hb2);(try clear hk);(try clear hi);(try clear ho0);(try clear ho1))|((with_reducible refine gate_dst (N:=8) rfl ?_);refine box_event ?hg (N:=8) ?hd (cs:=#[.int .i64 0,.slice none 0 0,.int .i64 0]) (t:=25) ?hr ?_;(case hd=>rfl);(case hg=>rfl);(case hr=>first|(go_simp;done)|(go_simp;rfl));intro gb406 hg w42 hbox hb;have n0_:=am (Kd.S_below (by(with_reducible repeat (first|apply Kd.S_alloc|apply Kd.S_drewN|apply Kd.S_drew));exact HO_389001.out) hb);have n1_:=am (Kd.S_below (by(with_reducible repeat (first|apply Kd.S_alloc|apply Kd.S_drewN|apply Kd.S_drew));exact HO400.out) hb);have n2_:=am (Kd.R_below (bK HO404.out) hb);have n3_:=am (bM BK388.out hb);have n4_:=am (bM BK389.out hb);have n5_:=am (below_step (bS2 GE388.out GE389.out) hb);have n6_:=am (hbox);have n7_:=am ((by rw[hg];exact(below_size (bS2 GE388.out GE389.out)):w.heap.size≤gb406));have n8_:=am ((by rw[hg];exact(below_size (bS2 GE388.out GE389.out)):w.heap.size≤gb406));have n9_:=am ((bN BK388.out hg:gb388≠gb406));have n10_:=am ((bO BK388.out hg:gb406≠gb388));have n11_:=am ((bN BK389.out hg:gb389≠gb406));have n12_:=am ((bO BK389.out hg:gb406≠gb389));clear HO_389001 HO400 HO404 BK388 BK389 HB;have HO_389001:=n0_;have HO400:=n1_;have HO404:=n2_;have BK388:=n3_;have BK389:=n4_;have HB:=n5_;have BK406:=n6_;have GW406:=n7_;have GE406:=n8_;have NB388_406:=n9_;have NB406_388:=n10_;have NB389_406:=n11_;have NB406_389:=n12_;clear n0_ n1_ n2_ n3_ n4_ n5_ n6_ n7_ n8_ n9_ n10_ n11_ n12_;clear hb hbox hg;have hnb43:=NB406_388.out;have hnc43:=NB388_406.out;have hnb44:=NB406_389.out;have hnc44:=NB389_406.out;obtain⟨hcz45_0,hcz45_1,hcz45_2⟩:=cC3 BK406.out;obtain⟨hfz45_0,hfz45_1,hfz45_2⟩:=cF3 BK406.out;obtain⟨Ao46,co46,eo46⟩:=Kd.S_slice HO400.out;subst eo46;obtain⟨hcz47_0,hcz47_1,hcz47_2⟩:=cC3 BK389.out;obtain⟨hfz47_0,hfz47_1,hfz47_2⟩:=cF3 BK389.out))
        refine bodyPost_ret (results_ctt rfl _ _ gb389 25 #[.int .i64 0,.slice none 0 0,.int .i64 0] (0,0) _ rfl (by(with_reducible repeat (first|refine blk_drewN ?_ _|refine blk_drew ?_|refine blk_alloc ?_ _));apply bU3;(with_reducible repeat (first|refine blk_drewN ?_ _|refine blk_drew ?_|refine blk_alloc ?_ _));refine blk_far ?_ NB389_406.out _;(with_reducible repeat (first|refine blk_drewN ?_ _|refine blk_drew ?_|refine blk_alloc ?_ _));refine blk_far ?_ NB389_406.out _;(with_reducible repeat (first|refine blk_drewN ?_ _|refine blk_drew ?_|refine blk_alloc ?_ _));refine blk_far ?_ NB389_406.out _;(with_reducible repeat (first|refine blk_drewN ?_ _|refine blk_drew ?_|refine blk_alloc ?_ _));exact BK389.out) Try.underlying25 rfl (by kernel_rfl)) rfl ?_
        exact⟨_,by first|rfl|(simp[errW_none,errW_some]<;>rfl)|(simp[*,errW_none,errW_some]<;>rfl),by first|exact Kd.S_nil _ _ _ _ _|exact Kd.N_nil _ _ _ _ _|exact Kd.V_nil _ _ _ _ _|exact Kd.Q_nil _ _ _ _ _|exact Kd.R_nil _ _ _ _ _,bS3 GE388.out GE389.out GE406.out⟩
      ·rw[if_neg c24] at H
       have c24b0:decide (0 < x1_2)=false:=decide_eq_false c24
       clear c24
       simp only[Option.some.injEq,Prod.mk.injEq] at H
       obtain⟨rfl,rfl,rfl,rfl,rfl⟩:=H
       have hnb48:=NB388_389.out
       have hnc48:=NB389_388.out
       obtain⟨hcz49_0,hcz49_1,hcz49_2⟩:=cC3 BK388.out
       obtain⟨hfz49_0,hfz49_1,hfz49_2⟩:=cF3 BK388.out
       obtain⟨hcz50_0,hcz50_1,hcz50_2⟩:=cC3 BK389.out
       obtain⟨hfz50_0,hfz50_1,hfz50_2⟩:=cF3 BK389.out
       obtain⟨Ao51,co51,eo51⟩:=Kd.S_slice HO_389001.out
       subst eo51
       go_wp2
       refine bodyPost_ret (results_ctt rfl _ _ gb389 25 #[.int .i64 x389000_2,.slice Ao51 x389001_2.length co51,.int .i64 x389002_2] (0,0) _ rfl (by(with_reducible repeat (first|refine blk_drewN ?_ _|refine blk_drew ?_|refine blk_alloc ?_ _));apply bU3;(with_reducible repeat (first|refine blk_drewN ?_ _|refine blk_drew ?_|refine blk_alloc ?_ _));exact BK389.out) Try.underlying25 rfl (by kernel_rfl)) rfl ?_
       exact⟨_,by first|rfl|(simp[errW_none,errW_some]<;>rfl)|(simp[*,errW_none,errW_some]<;>rfl),by(with_reducible repeat (first|apply Kd.S_alloc|apply Kd.S_drewN|apply Kd.S_drew));exact Kd.S_mono (Kd.S_far (p:=⟨gb389,2,none⟩) (Kd.S_far (p:=⟨gb389,1,none⟩) (Kd.S_far (p:=⟨gb389,0,none⟩) (Kd.S_types HO_389001.out BK389.out (by decide)) (fun _ hk=>hk.2) (.int .i64 x389000_2)) (fun _ hk=>hk.2) (.slice Ao51 x389001_2.length co51)) (fun _ hk=>hk.2) (.int .i64 x389002_2)) (fun _ hk=>trivial),bS2 GE388.out GE389.out⟩

end Go.Proofs.Ythghcoepkknkeaa.XFnFair
