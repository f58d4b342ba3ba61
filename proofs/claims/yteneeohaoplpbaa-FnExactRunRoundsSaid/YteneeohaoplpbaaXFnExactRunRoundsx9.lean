-- Written by this session's own program (wip/xprint.py) out of the translation; Lean checks it.
import Derived.Test.YteneeohaoplpbaaXFnExactRunRoundsx0
import Derived.Test.YteneeohaoplpbaaXFnExactRunRoundsx5
import Derived.Test.YteneeohaoplpbaaXFnExactRunRoundsx6
import Derived.Test.YteneeohaoplpbaaXFnExactRunRoundsx7
import Derived.Test.YteneeohaoplpbaaXFnExactRunRoundsx8
namespace Go.Proofs.Yteneeohaoplpbaa.XFnExactRunRounds
open Go.RowKit Go.Proofs.YteneeohaoplpbaaW.PrintWords Go.Proofs.YteneeohaoplpbaaW.PrintLast Go.Proofs.YteneeohaoplpbaaW.PrintMore
attribute [local go_sem] max2_int min2_int max_two min_two max_three min_three max_four min_four   -- for this text's walks alone
set_option linter.unusedVariables false
set_option linter.unusedSimpArgs false

/-! ### impl_RunRounds: function 56 -/
mutual
def impl_RunRounds.j0:Nat→Int→Bool→Int→List (S116)→Int→Option (Int × (List (S116)) × Int × Int × Bool)
 | 0,_,_,_,_,_=>none
 | k+1,x1,x19,x314000,x314001,x314002=>if x19=true then (some (0,([]:List (S116)),0,0,false)) else ((impl_Turns_copied.f x314000 x314001 x314002).bind fun bt317=>(impl_RunRounds.l0 k 0 x1 0 bt317.1 bt317.2.1 bt317.2.2))
def impl_RunRounds.l0:Nat→Int→Int→Int→Int→List (S116)→Int→Option (Int × (List (S116)) × Int × Int × Bool)
 | 0,_,_,_,_,_,_=>none
 | k+1,x8,x23,x24,x323000,x323001,x323002=>if x24 < x23 then ((impl_NextRound.f k x323000 x323001 x323002).bind fun bt323=>(if bt323.2.2.2.2=true then (impl_RunRounds.l0 k (wrap64 (x8+(bt323.2.2.2.1.length:Int))) x23 (wrap64 (x24+1)) bt323.1 bt323.2.1 bt323.2.2.1) else (some (0,([]:List (S116)),0,0,false)))) else (some (x323000,x323001,x323002,x8,true))
end
def impl_RunRounds.f (k:Nat) (a0_0:Int) (l0_1:List (S116)) (a0_2:Int) (a1:Int):Option (Int × (List (S116)) × Int × Int × Bool):=(impl_GoodTurns.f k a0_0 l0_1 a0_2).bind fun t315=>(if t315=true then ((impl_within.f a1 0 200).bind fun t316=>(impl_RunRounds.j0 k a1 (!t316) a0_0 l0_1 a0_2)) else (impl_RunRounds.j0 k a1 true a0_0 l0_1 a0_2))
theorem impl_RunRounds.mono_l : ∀ k,(∀ y0 y1 y2 y3 y4,LeO (impl_RunRounds.j0 k y0 y1 y2 y3 y4) (impl_RunRounds.j0 (k+1) y0 y1 y2 y3 y4))∧(∀ y0 y1 y2 y3 y4 y5,LeO (impl_RunRounds.l0 k y0 y1 y2 y3 y4 y5) (impl_RunRounds.l0 (k+1) y0 y1 y2 y3 y4 y5))
 | 0=>⟨fun _ _ _ _ _ r h=>by simp[impl_RunRounds.j0] at h,fun _ _ _ _ _ _ r h=>by simp[impl_RunRounds.l0] at h⟩
 | k+1=>by
  obtain⟨ih0,ih1⟩:=impl_RunRounds.mono_l k
  refine⟨?_,?_⟩
  ·intro y0 y1 y2 y3 y4
   unfold impl_RunRounds.j0
   repeat' first
   | (with_reducible exact ih0 _ _ _ _ _)
   | (with_reducible exact ih1 _ _ _ _ _ _)
   | (with_reducible exact impl_GoodTurns.mono _ _ _ _)
   | (with_reducible exact impl_NextRound.mono _ _ _ _)
   | (with_reducible exact LeO.refl _)
   | (with_reducible exact LeO.none _)
   | (with_reducible refine LeO.ite ?_ ?_)
   | (with_reducible refine LeO.bind ?_ (fun _ => ?_))
   | exact ih0 _ _ _ _ _
   | exact ih1 _ _ _ _ _ _
   | exact impl_GoodTurns.mono _ _ _ _
   | exact impl_NextRound.mono _ _ _ _
   | exact LeO.none _
   | refine LeO.ite ?_ ?_
   | refine LeO.bind ?_ (fun _ => ?_)
  ·intro y0 y1 y2 y3 y4 y5
   unfold impl_RunRounds.l0
   repeat' first
   | (with_reducible exact ih0 _ _ _ _ _)
   | (with_reducible exact ih1 _ _ _ _ _ _)
   | (with_reducible exact impl_GoodTurns.mono _ _ _ _)
   | (with_reducible exact impl_NextRound.mono _ _ _ _)
   | (with_reducible exact LeO.refl _)
   | (with_reducible exact LeO.none _)
   | (with_reducible refine LeO.ite ?_ ?_)
   | (with_reducible refine LeO.bind ?_ (fun _ => ?_))
   | exact ih0 _ _ _ _ _
   | exact ih1 _ _ _ _ _ _
   | exact impl_GoodTurns.mono _ _ _ _
   | exact impl_NextRound.mono _ _ _ _
   | exact LeO.none _
   | refine LeO.ite ?_ ?_
   | refine LeO.bind ?_ (fun _ => ?_)
theorem impl_RunRounds.mono : ∀ a0 a1 a2 a3 k,LeO (impl_RunRounds.f k a0 a1 a2 a3) (impl_RunRounds.f (k+1) a0 a1 a2 a3):=by
 intro a0 a1 a2 a3 k
 obtain⟨ih0,ih1⟩:=impl_RunRounds.mono_l k
 unfold impl_RunRounds.f
 repeat' first
  | (with_reducible exact ih0 _ _ _ _ _)
  | (with_reducible exact ih1 _ _ _ _ _ _)
  | (with_reducible exact impl_GoodTurns.mono _ _ _ _)
  | (with_reducible exact impl_NextRound.mono _ _ _ _)
  | (with_reducible exact LeO.refl _)
  | (with_reducible exact LeO.none _)
  | (with_reducible refine LeO.ite ?_ ?_)
  | (with_reducible refine LeO.bind ?_ (fun _ => ?_))
  | exact ih0 _ _ _ _ _
  | exact ih1 _ _ _ _ _ _
  | exact impl_GoodTurns.mono _ _ _ _
  | exact impl_NextRound.mono _ _ _ _
  | exact LeO.none _
  | refine LeO.ite ?_ ?_
  | refine LeO.bind ?_ (fun _ => ?_)
set_option maxHeartbeats 8000000 in
set_option maxRecDepth 100000 in
theorem impl_RunRounds.calls (k:Nat) (a0_0:Int) (A0_1:Option Addr) (c0_1:Nat) (l0_1:List (S116)) (a0_2:Int) (a1:Int) (r1:Int) (r2:List (S116)) (r3:Int) (r4:Int) (r5:Bool) (w:World) (hr0_1:Kd.C k116 w A0_1 l0_1.length l0_1) (hc0_1:l0_1.length≤c0_1) (h:impl_RunRounds.f k a0_0 l0_1 a0_2 a1=some (r1,r2,r3,r4,r5)) :
  Calls Try.prog 56 #[.agg #[.int .i64 a0_0,.slice A0_1 l0_1.length c0_1,.int .i64 a0_2],.int .i64 a1] w fun e w' => ∃ v1_:Value,e=.returned (.tuple #[.agg #[.int .i64 r1,v1_,.int .i64 r3],.int .i64 r4,.bool r5])∧Kd.S k116 116 w' w.heap.size (fun _=>True) v1_ r2∧Below w.heap.size w w':=by
 have hu28:=Try.underlying28
 have HR0_1:=Aside0.mk hr0_1
 have HC0_1:=Aside0.mk hc0_1
 clear hr0_1 hc0_1
 have HB:=Aside0.mk (Below.refl w.heap.size w)
 have H:((impl_GoodTurns.f k a0_0 l0_1 a0_2).bind fun t315=>(if t315=true then ((impl_within.f a1 0 200).bind fun t316=>(impl_RunRounds.j0 k a1 (!t316) a0_0 l0_1 a0_2)) else (impl_RunRounds.j0 k a1 true a0_0 l0_1 a0_2)))=some (r1,r2,r3,r4,r5):=h
 clear h
 have HC3:=Aside0.mk H
 clear H
 go_enter Try.func56,Try.ntmps56
 go_upto_region 1 with (first|((with_reducible refine gate_dst (N:=2) rfl ?_);refine box_event ?hg (N:=2) ?hd (cs:=#[.int .i64 a0_0,.slice A0_1 l0_1.length c0_1,.int .i64 a0_2]) (t:=28) ?hr ?_;(case hd=>rfl);(case hg=>rfl);(case hr=>first|(go_simp;done)|(go_simp;rfl));intro gb313 hg w4 hbox hb;have n0_:=Aside0.mk (below_step (bB) hb);have n1_:=Aside0.mk (hbox);have n2_:=Aside0.mk ((bG:w.heap.size≤gb313));have n3_:=Aside0.mk ((bG:w.heap.size≤gb313));clear HB;have HB:=n0_;have BK313:=n1_;have GW313:=n2_;have GE313:=n3_;clear n0_ n1_ n2_ n3_;clear hb hbox hg)|((with_reducible refine gate_dst (N:=4) rfl ?_);refine box_event ?hg (N:=4) ?hd (cs:=#[.int .i64 0,.slice none 0 0,.int .i64 0]) (t:=28) ?hr ?_;(case hd=>rfl);(case hg=>rfl);(case hr=>first|(go_simp;done)|(go_simp;rfl));intro gb314 hg w5 hbox hb;have n0_:=Aside0.mk (bM BK313.out hb);have n1_:=Aside0.mk (below_step (bS GE313.out) hb);have n2_:=Aside0.mk (hbox);have n3_:=Aside0.mk ((by rw[hg];exact(below_size (bS GE313.out)):w.heap.size≤gb314));have n4_:=Aside0.mk ((by rw[hg];exact(below_size (bS GE313.out)):w.heap.size≤gb314));have n5_:=Aside0.mk ((bN BK313.out hg:gb313≠gb314));have n6_:=Aside0.mk ((bO BK313.out hg:gb314≠gb313));clear BK313 HB;have BK313:=n0_;have HB:=n1_;have BK314:=n2_;have GW314:=n3_;have GE314:=n4_;have NB313_314:=n5_;have NB314_313:=n6_;clear n0_ n1_ n2_ n3_ n4_ n5_ n6_;clear hb hbox hg))
 (try simp only[Act.put,List.setIfInBounds_toArray,List.set_cons_zero,List.set_cons_succ])
 go_cut [19] (fun v19 wc => ∃ (kq:Nat) (x19_2:Bool),v19=.bool x19_2∧Aside0 (impl_RunRounds.j0 kq a1 x19_2 a0_0 l0_1 a0_2=some (r1,r2,r3,r4,r5))∧Aside0 (kq≤k)∧Aside0 (wc.heap[gb313]?=some (.cells #[.int .i64 a0_0,(.slice A0_1 l0_1.length c0_1),.int .i64 a0_2] 28 (0,0)))∧Aside0 (wc.heap[gb314]?=some (.cells #[.int .i64 0,(.slice none 0 0),.int .i64 0] 28 (0,0)))∧Aside0 (Below w.heap.size w wc))
 case first =>
  have H:=HC3.out
  clear HC3
  replace H:=Option.bind_eq_some_iff.mp H
  obtain⟨t315,A60,H⟩:=H
  replace H:(if t315=true then ((impl_within.f a1 0 200).bind fun t316=>(impl_RunRounds.j0 k a1 (!t316) a0_0 l0_1 a0_2)) else (impl_RunRounds.j0 k a1 true a0_0 l0_1 a0_2))=some (r1,r2,r3,r4,r5):=H
  have A6:=Aside0.mk A60
  clear A60
  by_cases c7:t315=true
  ·subst c7
   have H1:((impl_within.f a1 0 200).bind fun t316=>(impl_RunRounds.j0 k a1 (!t316) a0_0 l0_1 a0_2))=some (r1,r2,r3,r4,r5):=by rw[if_pos rfl] at H;exact H
   clear H
   have H:=H1
   clear H1
   replace H:=Option.bind_eq_some_iff.mp H
   obtain⟨t316,A80,H⟩:=H
   replace H:(impl_RunRounds.j0 k a1 (!t316) a0_0 l0_1 a0_2)=some (r1,r2,r3,r4,r5):=H
   have A8:=Aside0.mk A80
   clear A80
   have H':=Aside0.mk H
   clear H
   have hnb9:=NB313_314.out
   have hnc9:=NB314_313.out
   obtain⟨hcz10_0,hcz10_1,hcz10_2⟩:=cC3 BK313.out
   obtain⟨hfz10_0,hfz10_1,hfz10_2⟩:=cF3 BK313.out
   go_wp2_with (first|((with_reducible refine gate_callee (f:=78) rfl ?_);refine goesA (some 13) rfl rfl Try.func78 #[.agg #[.int .i64 a0_0,.slice A0_1 l0_1.length c0_1,.int .i64 a0_2]] rfl ?_;(with_reducible refine(impl_GoodTurns.calls k a0_0 _ _ l0_1 a0_2 true _ ?side1 ?side2 A6.out).mono ?_);(case side1=>exact bC HR0_1.out);(case side2=>exact HC0_1.out);rintro e w11 ⟨rfl,hb⟩;refine⟨_,rfl,?_⟩;have n0_:=Aside0.mk (bM BK313.out hb);have n1_:=Aside0.mk (bM BK314.out hb);have n2_:=Aside0.mk (below_step (bS2 GE313.out GE314.out) hb);clear BK313 BK314 HB;have BK313:=n0_;have BK314:=n1_;have HB:=n2_;clear n0_ n1_ n2_;(try clear hb);(try clear hb2);(try clear hk);(try clear hi))|(go_at_call 79;(with_reducible refine(impl_within.calls a1 0 200 t316 _ A8.out).mono ?_);rintro e w' ⟨rfl,⟨nd,rfl⟩⟩))
   go_meet
   case rel=>exact⟨_,(!t316),(bR),H',⟨by first|omega|exact Nat.le_refl _⟩,⟨by(with_reducible repeat (first|refine blk_drewN ?_ _|refine blk_drew ?_|refine blk_alloc ?_ _));exact BK313.out⟩,⟨by(with_reducible repeat (first|refine blk_drewN ?_ _|refine blk_drew ?_|refine blk_alloc ?_ _));exact BK314.out⟩,⟨bS2 GE313.out GE314.out⟩⟩
  ·replace c7:=Bool.eq_false_iff.mpr c7
   subst c7
   have H1:(impl_RunRounds.j0 k a1 true a0_0 l0_1 a0_2)=some (r1,r2,r3,r4,r5):=by rw[if_neg (show ¬ (false=true) by decide)] at H;exact H
   clear H
   have H:=H1
   clear H1
   have H':=Aside0.mk H
   clear H
   have hnb12:=NB313_314.out
   have hnc12:=NB314_313.out
   obtain⟨hcz13_0,hcz13_1,hcz13_2⟩:=cC3 BK313.out
   obtain⟨hfz13_0,hfz13_1,hfz13_2⟩:=cF3 BK313.out
   go_wp2_with (first|((with_reducible refine gate_callee (f:=78) rfl ?_);refine goesA (some 13) rfl rfl Try.func78 #[.agg #[.int .i64 a0_0,.slice A0_1 l0_1.length c0_1,.int .i64 a0_2]] rfl ?_;(with_reducible refine(impl_GoodTurns.calls k a0_0 _ _ l0_1 a0_2 false _ ?side1 ?side2 A6.out).mono ?_);(case side1=>exact bC HR0_1.out);(case side2=>exact HC0_1.out);rintro e w14 ⟨rfl,hb⟩;refine⟨_,rfl,?_⟩;have n0_:=Aside0.mk (bM BK313.out hb);have n1_:=Aside0.mk (bM BK314.out hb);have n2_:=Aside0.mk (below_step (bS2 GE313.out GE314.out) hb);clear BK313 BK314 HB;have BK313:=n0_;have BK314:=n1_;have HB:=n2_;clear n0_ n1_ n2_;(try clear hb);(try clear hb2);(try clear hk);(try clear hi)))
   go_meet
   case rel=>exact⟨_,(true),(bR),H',⟨by first|omega|exact Nat.le_refl _⟩,⟨by(with_reducible repeat (first|refine blk_drewN ?_ _|refine blk_drew ?_|refine blk_alloc ?_ _));exact BK313.out⟩,⟨by(with_reducible repeat (first|refine blk_drewN ?_ _|refine blk_drew ?_|refine blk_alloc ?_ _));exact BK314.out⟩,⟨bS2 GE313.out GE314.out⟩⟩
 case rest =>
  clear HC3
  try clear c1
  try clear p2
  try clear c5
  try clear c7
  try clear c9
  try clear c12
  try clear hcz10_0 hcz10_1 hcz10_2
  try clear hcz13_0 hcz13_1 hcz13_2
  try clear hfz10_0 hfz10_1 hfz10_2
  try clear hfz13_0 hfz13_1 hfz13_2
  obtain⟨kq,x19_2,rfl,HA,HJ2,BK313,BK314,HB⟩:=hcut
  cases kq with
  | zero=>exact absurd HA.out (by simp[impl_RunRounds.j0])
  | succ kj2 =>
   have H:=HA.out
   clear HA
   simp only[impl_RunRounds.j0] at H
   by_cases c15:x19_2=true
   ·subst c15
    have H1:(some (0,([]:List (S116)),0,0,false))=some (r1,r2,r3,r4,r5):=by rw[if_pos rfl] at H;exact H
    clear H
    have H:=H1
    clear H1
    simp only[Option.some.injEq,Prod.mk.injEq] at H
    obtain⟨rfl,rfl,rfl,rfl,rfl⟩:=H
    have hnb16:=NB314_313.out
    have hnc16:=NB313_314.out
    obtain⟨hcz17_0,hcz17_1,hcz17_2⟩:=cC3 BK314.out
    obtain⟨hfz17_0,hfz17_1,hfz17_2⟩:=cF3 BK314.out
    go_wp2
    refine bodyPost_ret (results_ctt rfl _ _ gb314 28 #[.int .i64 0,.slice none 0 0,.int .i64 0] (0,0) _ rfl (by(with_reducible repeat (first|refine blk_drewN ?_ _|refine blk_drew ?_|refine blk_alloc ?_ _));refine blk_put (cs:=#[.int .i64 0,.slice none 0 0,.int .i64 0]) ?_ 2 _ rfl;(with_reducible repeat (first|refine blk_drewN ?_ _|refine blk_drew ?_|refine blk_alloc ?_ _));refine blk_put (cs:=#[.int .i64 0,.slice none 0 0,.int .i64 0]) ?_ 1 _ rfl;(with_reducible repeat (first|refine blk_drewN ?_ _|refine blk_drew ?_|refine blk_alloc ?_ _));refine blk_put (cs:=#[.int .i64 0,.slice none 0 0,.int .i64 0]) ?_ 0 _ rfl;(with_reducible repeat (first|refine blk_drewN ?_ _|refine blk_drew ?_|refine blk_alloc ?_ _));exact BK314.out) Try.underlying28 rfl (by kernel_rfl)) rfl ?_
    exact⟨_,by first|rfl|(simp[errW_none,errW_some]<;>rfl)|(simp[*,errW_none,errW_some]<;>rfl),by first|exact Kd.S_nil _ _ _ _ _|exact Kd.N_nil _ _ _ _ _|exact Kd.V_nil _ _ _ _ _|exact Kd.Q_nil _ _ _ _ _|exact Kd.R_nil _ _ _ _ _,bS2 GE313.out GE314.out⟩
   ·replace c15:=Bool.eq_false_iff.mpr c15
    subst c15
    have H1:((impl_Turns_copied.f a0_0 l0_1 a0_2).bind fun bt317=>(impl_RunRounds.l0 kj2 0 a1 0 bt317.1 bt317.2.1 bt317.2.2))=some (r1,r2,r3,r4,r5):=by rw[if_neg (show ¬ (false=true) by decide)] at H;exact H
    clear H
    have H:=H1
    clear H1
    replace H:=Option.bind_eq_some_iff.mp H
    obtain⟨⟨t317,t318,t321⟩,A180,H⟩:=H
    replace H:(impl_RunRounds.l0 kj2 0 a1 0 t317 t318 t321)=some (r1,r2,r3,r4,r5):=H
    have A18:=Aside0.mk A180
    clear A180
    have H':=Aside0.mk H
    clear H
    have hnb19:=NB313_314.out
    have hnc19:=NB314_313.out
    obtain⟨hcz20_0,hcz20_1,hcz20_2⟩:=cC3 BK313.out
    obtain⟨hfz20_0,hfz20_1,hfz20_2⟩:=cF3 BK313.out
    go_wp2_with (first|((with_reducible refine gate_callee (f:=80) rfl ?_);refine goesA (some 22) rfl rfl Try.func80 #[.agg #[.int .i64 a0_0,.slice A0_1 l0_1.length c0_1,.int .i64 a0_2]] rfl ?_;(with_reducible refine(impl_Turns_copied.calls a0_0 _ _ l0_1 a0_2 t317 t318 t321 _ ?side1 ?side2 A18.out).mono ?_);(case side1=>exact bC HR0_1.out);(case side2=>exact HC0_1.out);rintro e w21 ⟨v319,rfl,ho0,hb⟩;refine⟨_,rfl,?_⟩;have n0_:=Aside0.mk (Kd.S_lower ho0 (below_size (bS2 GE313.out GE314.out)));have n1_:=Aside0.mk (bM BK313.out hb);have n2_:=Aside0.mk (bM BK314.out hb);have n3_:=Aside0.mk (below_step (bS2 GE313.out GE314.out) hb);clear BK313 BK314 HB;have HO320:=n0_;have BK313:=n1_;have BK314:=n2_;have HB:=n3_;clear n0_ n1_ n2_ n3_;(try clear hb);(try clear hb2);(try clear hk);(try clear hi);(try clear ho0))|((with_reducible refine gate_dst (N:=7) rfl ?_);refine box_event ?hg (N:=7) ?hd (cs:=#[.int .i64 0,.slice none 0 0,.int .i64 0]) (t:=28) ?hr ?_;(case hd=>rfl);(case hg=>rfl);(case hr=>first|(go_simp;done)|(go_simp;rfl));intro gb322 hg w22 hbox hb;have n0_:=Aside0.mk (Kd.S_below (by(with_reducible repeat (first|apply Kd.S_alloc|apply Kd.S_drewN|apply Kd.S_drew));exact HO320.out) hb);have n1_:=Aside0.mk (bM BK313.out hb);have n2_:=Aside0.mk (bM BK314.out hb);have n3_:=Aside0.mk (below_step (bS2 GE313.out GE314.out) hb);have n4_:=Aside0.mk (hbox);have n5_:=Aside0.mk ((by rw[hg];exact(below_size (bS2 GE313.out GE314.out)):w.heap.size≤gb322));have n6_:=Aside0.mk ((by rw[hg];exact(below_size (bS2 GE313.out GE314.out)):w.heap.size≤gb322));have n7_:=Aside0.mk ((bN BK313.out hg:gb313≠gb322));have n8_:=Aside0.mk ((bO BK313.out hg:gb322≠gb313));have n9_:=Aside0.mk ((bN BK314.out hg:gb314≠gb322));have n10_:=Aside0.mk ((bO BK314.out hg:gb322≠gb314));clear HO320 BK313 BK314 HB;have HO320:=n0_;have BK313:=n1_;have BK314:=n2_;have HB:=n3_;have BK322:=n4_;have GW322:=n5_;have GE322:=n6_;have NB313_322:=n7_;have NB322_313:=n8_;have NB314_322:=n9_;have NB322_314:=n10_;clear n0_ n1_ n2_ n3_ n4_ n5_ n6_ n7_ n8_ n9_ n10_;clear hb hbox hg;have hnb23:=NB322_313.out;have hnc23:=NB313_322.out;have hnb24:=NB322_314.out;have hnc24:=NB314_322.out;obtain⟨hcz25_0,hcz25_1,hcz25_2⟩:=cC3 BK322.out;obtain⟨hfz25_0,hfz25_1,hfz25_2⟩:=cF3 BK322.out;obtain⟨Ao26,co26,eo26⟩:=Kd.S_slice HO320.out;subst eo26))
    go_loopg [8,24] kj2 (fun kq v8 v24 w' => ∃ (x8_2:Int) (x24_2:Int) (x315000_2:Int) (x315002_2:Int) (x323000_2:Int) (x323001_2:List (S116)) (x323002_2:Int) (u323001:Value),v8=.int .i64 x8_2∧v24=.int .i64 x24_2∧Aside0 (impl_RunRounds.l0 kq x8_2 a1 x24_2 x323000_2 x323001_2 x323002_2=some (r1,r2,r3,r4,r5))∧Aside0 (kq≤kj2)∧Aside0 (Kd.S k116 116 w' w.heap.size (fun _=>True) u323001 x323001_2)∧Aside0 (w'.heap[gb313]?=some (.cells #[.int .i64 a0_0,(.slice A0_1 l0_1.length c0_1),.int .i64 a0_2] 28 (0,0)))∧Aside0 (w'.heap[gb314]?=some (.cells #[.int .i64 x315000_2,(.slice none 0 0),.int .i64 x315002_2] 28 (0,0)))∧Aside0 (w'.heap[gb322]?=some (.cells #[.int .i64 x323000_2,u323001,.int .i64 x323002_2] 28 (0,0)))∧Aside0 (Below w.heap.size w w'))
    case atStart=>exact⟨(0),(0),(0),(0),(t317),(t318),(t321),(.slice Ao26 t318.length co26),(bR),(bR),H',⟨Nat.le_refl _⟩,⟨by(with_reducible repeat (first|apply Kd.S_alloc|apply Kd.S_drewN|apply Kd.S_drew));exact Kd.S_mono (Kd.S_far (p:=⟨gb322,2,none⟩) (Kd.S_far (p:=⟨gb322,1,none⟩) (Kd.S_far (p:=⟨gb322,0,none⟩) (Kd.S_types HO320.out BK322.out (by decide)) (fun _ hk=>hk.2) (.int .i64 t317)) (fun _ hk=>hk.2) (.slice Ao26 t318.length co26)) (fun _ hk=>hk.2) (.int .i64 t321)) (fun _ hk=>trivial)⟩,⟨by(with_reducible repeat (first|refine blk_drewN ?_ _|refine blk_drew ?_|refine blk_alloc ?_ _));refine blk_far ?_ NB313_322.out _;(with_reducible repeat (first|refine blk_drewN ?_ _|refine blk_drew ?_|refine blk_alloc ?_ _));refine blk_far ?_ NB313_322.out _;(with_reducible repeat (first|refine blk_drewN ?_ _|refine blk_drew ?_|refine blk_alloc ?_ _));refine blk_far ?_ NB313_322.out _;(with_reducible repeat (first|refine blk_drewN ?_ _|refine blk_drew ?_|refine blk_alloc ?_ _));exact BK313.out⟩,⟨by(with_reducible repeat (first|refine blk_drewN ?_ _|refine blk_drew ?_|refine blk_alloc ?_ _));refine blk_far ?_ NB314_322.out _;(with_reducible repeat (first|refine blk_drewN ?_ _|refine blk_drew ?_|refine blk_alloc ?_ _));refine blk_far ?_ NB314_322.out _;(with_reducible repeat (first|refine blk_drewN ?_ _|refine blk_drew ?_|refine blk_alloc ?_ _));refine blk_far ?_ NB314_322.out _;(with_reducible repeat (first|refine blk_drewN ?_ _|refine blk_drew ?_|refine blk_alloc ?_ _));exact BK314.out⟩,⟨by(with_reducible repeat (first|refine blk_drewN ?_ _|refine blk_drew ?_|refine blk_alloc ?_ _));refine blk_put (cs:=#[.int .i64 t317,.slice Ao26 t318.length co26,.int .i64 0]) ?_ 2 _ rfl;(with_reducible repeat (first|refine blk_drewN ?_ _|refine blk_drew ?_|refine blk_alloc ?_ _));refine blk_put (cs:=#[.int .i64 t317,.slice none 0 0,.int .i64 0]) ?_ 1 _ rfl;(with_reducible repeat (first|refine blk_drewN ?_ _|refine blk_drew ?_|refine blk_alloc ?_ _));refine blk_put (cs:=#[.int .i64 0,.slice none 0 0,.int .i64 0]) ?_ 0 _ rfl;(with_reducible repeat (first|refine blk_drewN ?_ _|refine blk_drew ?_|refine blk_alloc ?_ _));exact BK322.out⟩,⟨bS3 GE313.out GE314.out GE322.out⟩⟩
    case round =>
     clear H'
     try clear c1
     try clear c2
     try clear p2
     try clear c5
     try clear c7
     try clear c8
     try clear c9
     try clear c12
     try clear c15
     try clear c16
     try clear c19
     try clear c23
     try clear c24
     try clear hcz10_0 hcz10_1 hcz10_2
     try clear hcz13_0 hcz13_1 hcz13_2
     try clear hcz17_0 hcz17_1 hcz17_2
     try clear hcz20_0 hcz20_1 hcz20_2
     try clear hcz25_0 hcz25_1 hcz25_2
     try clear hfz10_0 hfz10_1 hfz10_2
     try clear hfz13_0 hfz13_1 hfz13_2
     try clear hfz17_0 hfz17_1 hfz17_2
     try clear hfz20_0 hfz20_1 hfz20_2
     try clear hfz25_0 hfz25_1 hfz25_2
     try clear p2
     obtain⟨x8_2,x24_2,x315000_2,x315002_2,x323000_2,x323001_2,x323002_2,u323001,rfl,rfl,HA,HK2,HO_323001,BK313,BK314,BK322,HB⟩:=hrel
     cases gk with
     | zero=>exact absurd HA.out (by simp[impl_RunRounds.l0])
     | succ k2 =>
      have H:=HA.out
      clear HA
      simp only[impl_RunRounds.l0] at H
      by_cases c27:x24_2 < a1
      ·rw[if_pos c27] at H
       have c27b0:decide (x24_2 < a1)=true:=decide_eq_true c27
       clear c27
       replace H:=Option.bind_eq_some_iff.mp H
       obtain⟨⟨t323,t324,t327,t328,t331⟩,A280,H⟩:=H
       replace H:(if t331=true then (impl_RunRounds.l0 k2 (wrap64 (x8_2+(t328.length:Int))) a1 (wrap64 (x24_2+1)) t323 t324 t327) else (some (0,([]:List (S116)),0,0,false)))=some (r1,r2,r3,r4,r5):=H
       have A28:=Aside0.mk A280
       clear A280
       by_cases c29:t331=true
       ·subst c29
        have H1:(impl_RunRounds.l0 k2 (wrap64 (x8_2+(t328.length:Int))) a1 (wrap64 (x24_2+1)) t323 t324 t327)=some (r1,r2,r3,r4,r5):=by rw[if_pos rfl] at H;exact H
        clear H
        have H:=H1
        clear H1
        have H':=Aside0.mk H
        clear H
        have hnb30:=NB322_313.out
        have hnc30:=NB313_322.out
        have hnb31:=NB322_314.out
        have hnc31:=NB314_322.out
        obtain⟨hcz32_0,hcz32_1,hcz32_2⟩:=cC3 BK322.out
        obtain⟨hfz32_0,hfz32_1,hfz32_2⟩:=cF3 BK322.out
        obtain⟨Ao33,co33,eo33⟩:=Kd.S_slice HO_323001.out
        subst eo33
        go_wp2_with (first|((with_reducible refine gate_callee (f:=50) rfl ?_);refine goesA (some 28) rfl rfl Try.func50 #[.agg #[.int .i64 x323000_2,.slice Ao33 x323001_2.length co33,.int .i64 x323002_2]] rfl ?_;(with_reducible refine(impl_NextRound.calls k2 x323000_2 _ _ x323001_2 x323002_2 t323 t324 t327 t328 true _ ?side1 ?side2 A28.out).mono ?_);(case side1=>repeat (first|exact(Kd.S_reads' HO_323001.out).2.2|(with_reducible refine Kd.C_alloc ?_ _)|(with_reducible refine Kd.C_drewN ?_ _)|(with_reducible refine Kd.C_drew ?_)));(case side2=>exact(Kd.S_reads' HO_323001.out).2.1);rintro e w34 ⟨v325,v329,rfl,ho0,ho1,hb⟩;refine⟨_,rfl,?_⟩;have n0_:=Aside0.mk (Kd.S_mono (Kd.S_told (Kd.S_told (Kd.S_old (by(with_reducible repeat (first|apply Kd.S_alloc|apply Kd.S_drewN|apply Kd.S_drew));exact HO_323001.out) hb) (Kd.S_base ho0)) (Kd.R_base ho1)) (fun _ h_=>h_.1));have n1_:=Aside0.mk (Kd.S_lower (Kd.S_new' ho0 (Kd.S_lt (by(with_reducible repeat (first|apply Kd.S_alloc|apply Kd.S_drewN|apply Kd.S_drew));exact HO_323001.out))) (below_size (bS3 GE313.out GE314.out GE322.out)));have n2_:=Aside0.mk (Kd.R_lower ho1 (below_size (bS3 GE313.out GE314.out GE322.out)));have n3_:=Aside0.mk (bM BK313.out hb);have n4_:=Aside0.mk (bM BK314.out hb);have n5_:=Aside0.mk (bM BK322.out hb);have n6_:=Aside0.mk (below_step (bS3 GE313.out GE314.out GE322.out) hb);clear HO_323001 BK313 BK314 BK322 HB;have HO_323001:=n0_;have HO326:=n1_;have HO330:=n2_;have BK313:=n3_;have BK314:=n4_;have BK322:=n5_;have HB:=n6_;clear n0_ n1_ n2_ n3_ n4_ n5_ n6_;(try clear hb);(try clear hb2);(try clear hk);(try clear hi);(try clear ho0);(try clear ho1))|((with_reducible refine gate_dst (N:=9) rfl ?_);refine box_event ?hg (N:=9) ?hd (cs:=#[.int .i64 0,.slice none 0 0,.int .i64 0]) (t:=28) ?hr ?_;(case hd=>rfl);(case hg=>rfl);(case hr=>first|(go_simp;done)|(go_simp;rfl));intro gb332 hg w35 hbox hb;have n0_:=Aside0.mk (Kd.S_below (by(with_reducible repeat (first|apply Kd.S_alloc|apply Kd.S_drewN|apply Kd.S_drew));exact HO_323001.out) hb);have n1_:=Aside0.mk (Kd.S_below (by(with_reducible repeat (first|apply Kd.S_alloc|apply Kd.S_drewN|apply Kd.S_drew));exact HO326.out) hb);have n2_:=Aside0.mk (Kd.R_below (bK HO330.out) hb);have n3_:=Aside0.mk (bM BK313.out hb);have n4_:=Aside0.mk (bM BK314.out hb);have n5_:=Aside0.mk (bM BK322.out hb);have n6_:=Aside0.mk (below_step (bS3 GE313.out GE314.out GE322.out) hb);have n7_:=Aside0.mk (hbox);have n8_:=Aside0.mk ((by rw[hg];exact(below_size (bS3 GE313.out GE314.out GE322.out)):w.heap.size≤gb332));have n9_:=Aside0.mk ((by rw[hg];exact(below_size (bS3 GE313.out GE314.out GE322.out)):w.heap.size≤gb332));have n10_:=Aside0.mk ((bN BK313.out hg:gb313≠gb332));have n11_:=Aside0.mk ((bO BK313.out hg:gb332≠gb313));have n12_:=Aside0.mk ((bN BK314.out hg:gb314≠gb332));have n13_:=Aside0.mk ((bO BK314.out hg:gb332≠gb314));have n14_:=Aside0.mk ((bN BK322.out hg:gb322≠gb332));have n15_:=Aside0.mk ((bO BK322.out hg:gb332≠gb322));clear HO_323001 HO326 HO330 BK313 BK314 BK322 HB;have HO_323001:=n0_;have HO326:=n1_;have HO330:=n2_;have BK313:=n3_;have BK314:=n4_;have BK322:=n5_;have HB:=n6_;have BK332:=n7_;have GW332:=n8_;have GE332:=n9_;have NB313_332:=n10_;have NB332_313:=n11_;have NB314_332:=n12_;have NB332_314:=n13_;have NB322_332:=n14_;have NB332_322:=n15_;clear n0_ n1_ n2_ n3_ n4_ n5_ n6_ n7_ n8_ n9_ n10_ n11_ n12_ n13_ n14_ n15_;clear hb hbox hg;have hnb36:=NB332_313.out;have hnc36:=NB313_332.out;have hnb37:=NB332_314.out;have hnc37:=NB314_332.out;have hnb38:=NB332_322.out;have hnc38:=NB322_332.out;obtain⟨hcz39_0,hcz39_1,hcz39_2⟩:=cC3 BK332.out;obtain⟨hfz39_0,hfz39_1,hfz39_2⟩:=cF3 BK332.out;obtain⟨Ao40,co40,eo40⟩:=Kd.S_slice HO326.out;subst eo40;obtain⟨Ao41,co41,eo41⟩:=Kd.R_slice HO330.out;subst eo41;obtain⟨hcz42_0,hcz42_1,hcz42_2⟩:=cC3 BK322.out;obtain⟨hfz42_0,hfz42_1,hfz42_2⟩:=cF3 BK322.out))
        go_roundg k2
        case measure=>have:=HJ2.out;have:=HK2.out;omega
        case rel=>exact⟨(wrap64 (x8_2+(t328.length:Int))),(wrap64 (x24_2+1)),(x315000_2),(x315002_2),(t323),(t324),(t327),(.slice Ao40 t324.length co40),(bR),(bR),H',⟨by have:=HJ2.out;have:=HK2.out;omega⟩,⟨by(with_reducible repeat (first|apply Kd.S_alloc|apply Kd.S_drewN|apply Kd.S_drew));exact Kd.S_mono (Kd.S_far (p:=⟨gb322,2,none⟩) (Kd.S_far (p:=⟨gb322,1,none⟩) (Kd.S_far (p:=⟨gb322,0,none⟩) (Kd.S_far (p:=⟨gb332,2,none⟩) (Kd.S_far (p:=⟨gb332,1,none⟩) (Kd.S_far (p:=⟨gb332,0,none⟩) (Kd.S_types (Kd.S_types HO326.out BK332.out (by decide)) BK322.out (by decide)) (fun _ hk=>hk.1.2) (.int .i64 t323)) (fun _ hk=>hk.1.2) (.slice Ao40 t324.length co40)) (fun _ hk=>hk.1.2) (.int .i64 t327)) (fun _ hk=>hk.2) (.int .i64 t323)) (fun _ hk=>hk.2) (.slice Ao40 t324.length co40)) (fun _ hk=>hk.2) (.int .i64 t327)) (fun _ hk=>trivial)⟩,⟨by(with_reducible repeat (first|refine blk_drewN ?_ _|refine blk_drew ?_|refine blk_alloc ?_ _));refine blk_far ?_ NB313_322.out _;(with_reducible repeat (first|refine blk_drewN ?_ _|refine blk_drew ?_|refine blk_alloc ?_ _));refine blk_far ?_ NB313_322.out _;(with_reducible repeat (first|refine blk_drewN ?_ _|refine blk_drew ?_|refine blk_alloc ?_ _));refine blk_far ?_ NB313_322.out _;(with_reducible repeat (first|refine blk_drewN ?_ _|refine blk_drew ?_|refine blk_alloc ?_ _));refine blk_far ?_ NB313_332.out _;(with_reducible repeat (first|refine blk_drewN ?_ _|refine blk_drew ?_|refine blk_alloc ?_ _));refine blk_far ?_ NB313_332.out _;(with_reducible repeat (first|refine blk_drewN ?_ _|refine blk_drew ?_|refine blk_alloc ?_ _));refine blk_far ?_ NB313_332.out _;(with_reducible repeat (first|refine blk_drewN ?_ _|refine blk_drew ?_|refine blk_alloc ?_ _));exact BK313.out⟩,⟨by(with_reducible repeat (first|refine blk_drewN ?_ _|refine blk_drew ?_|refine blk_alloc ?_ _));refine blk_far ?_ NB314_322.out _;(with_reducible repeat (first|refine blk_drewN ?_ _|refine blk_drew ?_|refine blk_alloc ?_ _));refine blk_far ?_ NB314_322.out _;(with_reducible repeat (first|refine blk_drewN ?_ _|refine blk_drew ?_|refine blk_alloc ?_ _));refine blk_far ?_ NB314_322.out _;(with_reducible repeat (first|refine blk_drewN ?_ _|refine blk_drew ?_|refine blk_alloc ?_ _));refine blk_far ?_ NB314_332.out _;(with_reducible repeat (first|refine blk_drewN ?_ _|refine blk_drew ?_|refine blk_alloc ?_ _));refine blk_far ?_ NB314_332.out _;(with_reducible repeat (first|refine blk_drewN ?_ _|refine blk_drew ?_|refine blk_alloc ?_ _));refine blk_far ?_ NB314_332.out _;(with_reducible repeat (first|refine blk_drewN ?_ _|refine blk_drew ?_|refine blk_alloc ?_ _));exact BK314.out⟩,⟨by(with_reducible repeat (first|refine blk_drewN ?_ _|refine blk_drew ?_|refine blk_alloc ?_ _));refine blk_put (cs:=#[.int .i64 t323,.slice Ao40 t324.length co40,.int .i64 x323002_2]) ?_ 2 _ rfl;(with_reducible repeat (first|refine blk_drewN ?_ _|refine blk_drew ?_|refine blk_alloc ?_ _));refine blk_put (cs:=#[.int .i64 t323,.slice Ao33 x323001_2.length co33,.int .i64 x323002_2]) ?_ 1 _ rfl;(with_reducible repeat (first|refine blk_drewN ?_ _|refine blk_drew ?_|refine blk_alloc ?_ _));refine blk_put (cs:=#[.int .i64 x323000_2,.slice Ao33 x323001_2.length co33,.int .i64 x323002_2]) ?_ 0 _ rfl;(with_reducible repeat (first|refine blk_drewN ?_ _|refine blk_drew ?_|refine blk_alloc ?_ _));refine blk_far ?_ NB322_332.out _;(with_reducible repeat (first|refine blk_drewN ?_ _|refine blk_drew ?_|refine blk_alloc ?_ _));refine blk_far ?_ NB322_332.out _;(with_reducible repeat (first|refine blk_drewN ?_ _|refine blk_drew ?_|refine blk_alloc ?_ _));refine blk_far ?_ NB322_332.out _;(with_reducible repeat (first|refine blk_drewN ?_ _|refine blk_drew ?_|refine blk_alloc ?_ _));exact BK322.out⟩,⟨bS4 GE313.out GE314.out GE322.out GE332.out⟩⟩
       ·replace c29:=Bool.eq_false_iff.mpr c29
        subst c29
        have H1:(some (0,([]:List (S116)),0,0,false))=some (r1,r2,r3,r4,r5):=by rw[if_neg (show ¬ (false=true) by decide)] at H;exact H
        clear H
        have H:=H1
        clear H1
        simp only[Option.some.injEq,Prod.mk.injEq] at H
        obtain⟨rfl,rfl,rfl,rfl,rfl⟩:=H
        have hnb43:=NB322_313.out
        have hnc43:=NB313_322.out
        have hnb44:=NB322_314.out
        have hnc44:=NB314_322.out
        obtain⟨hcz45_0,hcz45_1,hcz45_2⟩:=cC3 BK322.out
        obtain⟨hfz45_0,hfz45_1,hfz45_2⟩:=cF3 BK322.out
        obtain⟨Ao46,co46,eo46⟩:=Kd.S_slice HO_323001.out
        subst eo46
        go_wp2_with (first|((with_reducible refine gate_callee (f:=50) rfl ?_);refine goesA (some 28) rfl rfl Try.func50 #[.agg #[.int .i64 x323000_2,.slice Ao46 x323001_2.length co46,.int .i64 x323002_2]] rfl ?_;(with_reducible refine(impl_NextRound.calls k2 x323000_2 _ _ x323001_2 x323002_2 t323 t324 t327 t328 false _ ?side1 ?side2 A28.out).mono ?_);(case side1=>repeat (first|exact(Kd.S_reads' HO_323001.out).2.2|(with_reducible refine Kd.C_alloc ?_ _)|(with_reducible refine Kd.C_drewN ?_ _)|(with_reducible refine Kd.C_drew ?_)));(case side2=>exact(Kd.S_reads' HO_323001.out).2.1);rintro e w47 ⟨v325,v329,rfl,ho0,ho1,hb⟩;refine⟨_,rfl,?_⟩;have n0_:=Aside0.mk (Kd.S_mono (Kd.S_told (Kd.S_told (Kd.S_old (by(with_reducible repeat (first|apply Kd.S_alloc|apply Kd.S_drewN|apply Kd.S_drew));exact HO_323001.out) hb) (Kd.S_base ho0)) (Kd.R_base ho1)) (fun _ h_=>h_.1));have n1_:=Aside0.mk (Kd.S_lower (Kd.S_new' ho0 (Kd.S_lt (by(with_reducible repeat (first|apply Kd.S_alloc|apply Kd.S_drewN|apply Kd.S_drew));exact HO_323001.out))) (below_size (bS3 GE313.out GE314.out GE322.out)));have n2_:=Aside0.mk (Kd.R_lower ho1 (below_size (bS3 GE313.out GE314.out GE322.out)));have n3_:=Aside0.mk (bM BK313.out hb);have n4_:=Aside0.mk (bM BK314.out hb);have n5_:=Aside0.mk (bM BK322.out hb);have n6_:=Aside0.mk (below_step (bS3 GE313.out GE314.out GE322.out) hb);clear HO_323001 BK313 BK314 BK322 HB;have HO_323001:=n0_;have HO326:=n1_;have HO330:=n2_;have BK313:=n3_;have BK314:=n4_;have BK322:=n5_;have HB:=n6_;clear n0_ n1_ n2_ n3_ n4_ n5_ n6_;(try clear hb);(try clear hb2);(try clear hk);(try clear hi);(try clear ho0);(try clear ho1))|((with_reducible refine gate_dst (N:=9) rfl ?_);refine box_event ?hg (N:=9) ?hd (cs:=#[.int .i64 0,.slice none 0 0,.int .i64 0]) (t:=28) ?hr ?_;(case hd=>rfl);(case hg=>rfl);(case hr=>first|(go_simp;done)|(go_simp;rfl));intro gb332 hg w48 hbox hb;have n0_:=Aside0.mk (Kd.S_below (by(with_reducible repeat (first|apply Kd.S_alloc|apply Kd.S_drewN|apply Kd.S_drew));exact HO_323001.out) hb);have n1_:=Aside0.mk (Kd.S_below (by(with_reducible repeat (first|apply Kd.S_alloc|apply Kd.S_drewN|apply Kd.S_drew));exact HO326.out) hb);have n2_:=Aside0.mk (Kd.R_below (bK HO330.out) hb);have n3_:=Aside0.mk (bM BK313.out hb);have n4_:=Aside0.mk (bM BK314.out hb);have n5_:=Aside0.mk (bM BK322.out hb);have n6_:=Aside0.mk (below_step (bS3 GE313.out GE314.out GE322.out) hb);have n7_:=Aside0.mk (hbox);have n8_:=Aside0.mk ((by rw[hg];exact(below_size (bS3 GE313.out GE314.out GE322.out)):w.heap.size≤gb332));have n9_:=Aside0.mk ((by rw[hg];exact(below_size (bS3 GE313.out GE314.out GE322.out)):w.heap.size≤gb332));have n10_:=Aside0.mk ((bN BK313.out hg:gb313≠gb332));have n11_:=Aside0.mk ((bO BK313.out hg:gb332≠gb313));have n12_:=Aside0.mk ((bN BK314.out hg:gb314≠gb332));have n13_:=Aside0.mk ((bO BK314.out hg:gb332≠gb314));have n14_:=Aside0.mk ((bN BK322.out hg:gb322≠gb332));have n15_:=Aside0.mk ((bO BK322.out hg:gb332≠gb322));clear HO_323001 HO326 HO330 BK313 BK314 BK322 HB;have HO_323001:=n0_;have HO326:=n1_;have HO330:=n2_;have BK313:=n3_;have BK314:=n4_;have BK322:=n5_;have HB:=n6_;have BK332:=n7_;have GW332:=n8_;have GE332:=n9_;have NB313_332:=n10_;have NB332_313:=n11_;have NB314_332:=n12_;have NB332_314:=n13_;have NB322_332:=n14_;have NB332_322:=n15_;clear n0_ n1_ n2_ n3_ n4_ n5_ n6_ n7_ n8_ n9_ n10_ n11_ n12_ n13_ n14_ n15_;clear hb hbox hg;have hnb49:=NB332_313.out;have hnc49:=NB313_332.out;have hnb50:=NB332_314.out;have hnc50:=NB314_332.out;have hnb51:=NB332_322.out;have hnc51:=NB322_332.out;obtain⟨hcz52_0,hcz52_1,hcz52_2⟩:=cC3 BK332.out;obtain⟨hfz52_0,hfz52_1,hfz52_2⟩:=cF3 BK332.out;obtain⟨Ao53,co53,eo53⟩:=Kd.S_slice HO326.out;subst eo53;have hnb54:=NB314_313.out;have hnc54:=NB313_314.out;obtain⟨hcz55_0,hcz55_1,hcz55_2⟩:=cC3 BK314.out;obtain⟨hfz55_0,hfz55_1,hfz55_2⟩:=cF3 BK314.out))
        refine bodyPost_ret (results_ctt rfl _ _ gb314 28 #[.int .i64 0,.slice none 0 0,.int .i64 0] (0,0) _ rfl (by(with_reducible repeat (first|refine blk_drewN ?_ _|refine blk_drew ?_|refine blk_alloc ?_ _));refine blk_put (cs:=#[.int .i64 0,.slice none 0 0,.int .i64 x315002_2]) ?_ 2 _ rfl;(with_reducible repeat (first|refine blk_drewN ?_ _|refine blk_drew ?_|refine blk_alloc ?_ _));refine blk_put (cs:=#[.int .i64 0,.slice none 0 0,.int .i64 x315002_2]) ?_ 1 _ rfl;(with_reducible repeat (first|refine blk_drewN ?_ _|refine blk_drew ?_|refine blk_alloc ?_ _));refine blk_put (cs:=#[.int .i64 x315000_2,.slice none 0 0,.int .i64 x315002_2]) ?_ 0 _ rfl;(with_reducible repeat (first|refine blk_drewN ?_ _|refine blk_drew ?_|refine blk_alloc ?_ _));refine blk_far ?_ NB314_332.out _;(with_reducible repeat (first|refine blk_drewN ?_ _|refine blk_drew ?_|refine blk_alloc ?_ _));refine blk_far ?_ NB314_332.out _;(with_reducible repeat (first|refine blk_drewN ?_ _|refine blk_drew ?_|refine blk_alloc ?_ _));refine blk_far ?_ NB314_332.out _;(with_reducible repeat (first|refine blk_drewN ?_ _|refine blk_drew ?_|refine blk_alloc ?_ _));exact BK314.out) Try.underlying28 rfl (by kernel_rfl)) rfl ?_
        exact⟨_,by first|rfl|(simp[errW_none,errW_some]<;>rfl)|(simp[*,errW_none,errW_some]<;>rfl),by first|exact Kd.S_nil _ _ _ _ _|exact Kd.N_nil _ _ _ _ _|exact Kd.V_nil _ _ _ _ _|exact Kd.Q_nil _ _ _ _ _|exact Kd.R_nil _ _ _ _ _,bS4 GE313.out GE314.out GE322.out GE332.out⟩
      ·rw[if_neg c27] at H
       have c27b0:decide (x24_2 < a1)=false:=decide_eq_false c27
       clear c27
       simp only[Option.some.injEq,Prod.mk.injEq] at H
       obtain⟨rfl,rfl,rfl,rfl,rfl⟩:=H
       have hnb56:=NB322_313.out
       have hnc56:=NB313_322.out
       have hnb57:=NB322_314.out
       have hnc57:=NB314_322.out
       obtain⟨hcz58_0,hcz58_1,hcz58_2⟩:=cC3 BK322.out
       obtain⟨hfz58_0,hfz58_1,hfz58_2⟩:=cF3 BK322.out
       have hnb59:=NB314_313.out
       have hnc59:=NB313_314.out
       obtain⟨hcz60_0,hcz60_1,hcz60_2⟩:=cC3 BK314.out
       obtain⟨hfz60_0,hfz60_1,hfz60_2⟩:=cF3 BK314.out
       obtain⟨Ao61,co61,eo61⟩:=Kd.S_slice HO_323001.out
       subst eo61
       go_wp2
       refine bodyPost_ret (results_ctt rfl _ _ gb314 28 #[.int .i64 x323000_2,.slice Ao61 x323001_2.length co61,.int .i64 x323002_2] (0,0) _ rfl (by(with_reducible repeat (first|refine blk_drewN ?_ _|refine blk_drew ?_|refine blk_alloc ?_ _));refine blk_put (cs:=#[.int .i64 x323000_2,.slice Ao61 x323001_2.length co61,.int .i64 x315002_2]) ?_ 2 _ rfl;(with_reducible repeat (first|refine blk_drewN ?_ _|refine blk_drew ?_|refine blk_alloc ?_ _));refine blk_put (cs:=#[.int .i64 x323000_2,.slice none 0 0,.int .i64 x315002_2]) ?_ 1 _ rfl;(with_reducible repeat (first|refine blk_drewN ?_ _|refine blk_drew ?_|refine blk_alloc ?_ _));refine blk_put (cs:=#[.int .i64 x315000_2,.slice none 0 0,.int .i64 x315002_2]) ?_ 0 _ rfl;(with_reducible repeat (first|refine blk_drewN ?_ _|refine blk_drew ?_|refine blk_alloc ?_ _));exact BK314.out) Try.underlying28 rfl (by kernel_rfl)) rfl ?_
       exact⟨_,by first|rfl|(simp[errW_none,errW_some]<;>rfl)|(simp[*,errW_none,errW_some]<;>rfl),by(with_reducible repeat (first|apply Kd.S_alloc|apply Kd.S_drewN|apply Kd.S_drew));exact Kd.S_mono (Kd.S_far (p:=⟨gb314,2,none⟩) (Kd.S_far (p:=⟨gb314,1,none⟩) (Kd.S_far (p:=⟨gb314,0,none⟩) (Kd.S_types HO_323001.out BK314.out (by decide)) (fun _ hk=>hk.2) (.int .i64 x323000_2)) (fun _ hk=>hk.2) (.slice Ao61 x323001_2.length co61)) (fun _ hk=>hk.2) (.int .i64 x323002_2)) (fun _ hk=>trivial),bS3 GE313.out GE314.out GE322.out⟩

end Go.Proofs.Yteneeohaoplpbaa.XFnExactRunRounds
