-- Written by this session's own program (wip/xprint.py) out of the translation; Lean checks it.
import Derived.Test.YteneeohaoplpbaaXFnSprayx0
namespace Go.Proofs.Yteneeohaoplpbaa.XFnSpray
open Go.RowKit Go.Proofs.YteneeohaoplpbaaW.PrintWords Go.Proofs.YteneeohaoplpbaaW.PrintLast Go.Proofs.YteneeohaoplpbaaW.PrintMore
open Go.Proofs.YteneeohaoplpbaaW.PrintWords.Aside0 renaming mk → am
open List renaming setIfInBounds_toArray → zA, set_cons_zero → zB, set_cons_succ → zC
attribute [local go_sem] max2_int min2_int max_two min_two max_three min_three max_four min_four   -- for this text's walks alone
set_option linter.unusedVariables false
set_option linter.unusedSimpArgs false

/-! ### spec_l15Give: function 155 -/
def spec_l15Give.f (l0_0:List Int) (a0_1:Int) (a0_2:Bool) (a1:Int) (a2:Int):Option (List Int × Int × Bool):=if a2=a0_1 then (if a0_2=true then (some (l0_0,a0_1,true)) else (if 0≤a1 then (if a1 < (l0_0.length:Int) then (some (l0_0,a0_1,decide ((rd l0_0 a1) > 0))) else (none)) else (none))) else (if a1=a0_1 then (some (l0_0,a0_1,a0_2)) else (if 0≤a1 then (if a1 < (l0_0.length:Int) then (if (rd l0_0 a1) ≥ 2 then (if 0≤a2 then (if a2 < (l0_0.length:Int) then (if (rd l0_0 a2)=0 then ((some (l0_0.set (a2:Int).toNat (wrap64 (Int.tdiv (rd l0_0 a1) 2)):List Int)).bind fun y290=>(some ((y290.set (a1:Int).toNat (wrap64 ((rd y290 a1) - (rd y290 a2)))),a0_1,a0_2))) else (some (l0_0,a0_1,a0_2))) else (none)) else (none)) else (some (l0_0,a0_1,a0_2))) else (none)) else (none)))
def spec_l15Give.T5:Bool × List (List Nat × List Nat):=(true,[([],[]),([0],[0]),([],[]),([],[]),([3],[3]),([],[]),([4,5],[4,5]),([6],[6]),([7],[7]),([1,2,0,1,2,3,4,5,6,7,8],[1,2]),([9,8,0,1,2,3,4,5,6,7,8],[8,9])])
def spec_l15Give.B5:List Nat:=[0,1,0,0,8,0,56,120,248,511,1023]
theorem spec_l15Give.tab5:rtab .any (opsOf Try.f155 5)=spec_l15Give.T5:=by kernel_rfl
theorem spec_l15Give.bits5:waitsOk spec_l15Give.T5.2 spec_l15Give.B5=true:=by kernel_rfl
def spec_l15Give.T6:Bool × List (List Nat × List Nat):=(true,[([],[]),([0],[0]),([],[]),([1,2],[1,2]),([3],[3]),([],[]),([5],[5]),([],[]),([6,7],[6,7]),([8],[8]),([4,9],[4,9]),([1,2,0,1,2,3,4,5,6,7,8,9,10],[1,2]),([11,10,0,1,2,3,4,5,6,7,8,9,10],[10,11])])
def spec_l15Give.B6:List Nat:=[0,1,0,7,15,0,32,0,224,480,1023,2047,4095]
theorem spec_l15Give.tab6:rtab .any (opsOf Try.f155 6)=spec_l15Give.T6:=by kernel_rfl
theorem spec_l15Give.bits6:waitsOk spec_l15Give.T6.2 spec_l15Give.B6=true:=by kernel_rfl
set_option maxHeartbeats 8000000 in
set_option maxRecDepth 100000 in
theorem spec_l15Give.calls (P0_0_:Nat→Prop) (u9000_:Value) (l0_0:List Int) (a0_1:Int) (a0_2:Bool) (a1:Int) (a2:Int) (r1:List Int) (r2:Int) (r3:Bool) (w0 w:World) (hB:Below w0.heap.size w0 w) (ho0_0:Kd.R (Kd.int .i64) 3 w w0.heap.size P0_0_ u9000_ l0_0) (h:spec_l15Give.f l0_0 a0_1 a0_2 a1 a2=some (r1,r2,r3)) :
  Calls Try.prog 155 #[.agg #[u9000_,.int .i64 a0_1,.bool a0_2],.int .i64 a1,.int .i64 a2] w fun e w' => ∃ v0_:Value,e=.returned (.agg #[v0_,.int .i64 r2,.bool r3])∧Kd.R (Kd.int .i64) 3 w' w0.heap.size (fun k_=>(P0_0_ k_∨w.heap.size≤k_)) v0_ r1∧Below w0.heap.size w0 w'∧Kept w w' (fun k_=>P0_0_ k_):=by
 have hu62:=Try.underlying62
 have HO0_0:=am (show Kd.R (Kd.int .i64) 3 w w0.heap.size (fun k_=>(P0_0_ k_∨w.heap.size≤k_)) u9000_ l0_0 from Kd.R_mono ho0_0 (fun k_ hk=>(.inl hk)))
 have HK:=am (Kept.refl w (fun k_=>P0_0_ k_))
 have HW0:=am hB.size
 have HB:=am hB
 clear hB
 have H:(if a2=a0_1 then (if a0_2=true then (some (l0_0,a0_1,true)) else (if 0≤a1 then (if a1 < (l0_0.length:Int) then (some (l0_0,a0_1,decide ((rd l0_0 a1) > 0))) else (none)) else (none))) else (if a1=a0_1 then (some (l0_0,a0_1,a0_2)) else (if 0≤a1 then (if a1 < (l0_0.length:Int) then (if (rd l0_0 a1) ≥ 2 then (if 0≤a2 then (if a2 < (l0_0.length:Int) then (if (rd l0_0 a2)=0 then ((some (l0_0.set (a2:Int).toNat (wrap64 (Int.tdiv (rd l0_0 a1) 2)):List Int)).bind fun y290=>(some ((y290.set (a1:Int).toNat (wrap64 ((rd y290 a1) - (rd y290 a2)))),a0_1,a0_2))) else (some (l0_0,a0_1,a0_2))) else (none)) else (none)) else (some (l0_0,a0_1,a0_2))) else (none)) else (none))))=some (r1,r2,r3):=h
 clear h
 by_cases c4:a2=a0_1
 ·rw[if_pos c4] at H
  have c4b0:(a2 == a0_1)=true:=beq_iff_eq.mpr c4
  have c4b1:(a2 != a0_1)=false:=bne_eq_false_iff_eq.mpr c4
  clear c4
  by_cases c5:a0_2=true
  ·subst c5
   have H1:(some (l0_0,a0_1,true))=some (r1,r2,r3):=by rw[if_pos rfl] at H;exact H
   clear H
   have H:=H1
   clear H1
   simp only[Option.some.injEq,Prod.mk.injEq] at H
   obtain⟨rfl,rfl,rfl⟩:=H
   obtain⟨Ao6,co6,eo6⟩:=Kd.R_slice HO0_0.out
   subst eo6
   go_enter Try.func155,Try.ntmps155
   go_wp2_with (first|((with_reducible refine gate_dst (N:=3) rfl ?_);refine box_event ?hg (N:=3) ?hd (cs:=#[.slice Ao6 l0_0.length co6,.int .i64 a0_1,.bool true]) (t:=62) ?hr ?_;(case hd=>rfl);(case hg=>rfl);(case hr=>first|(go_simp;done)|(go_simp;rfl));intro gb284 hg w7 hbox hb;have n0_:=am (Kd.R_below (bK HO0_0.out) hb);have n1_:=am (Kept.below (S:=(fun k_=>P0_0_ k_)) (b42_) hb);have n2_:=am (below_step (bB) hb);have n3_:=am (hbox);have n4_:=am ((by rw[hg];exact(b22_):w.heap.size≤gb284));have n5_:=am ((bG:w0.heap.size≤gb284));clear HO0_0 HK HB;have HO0_0:=n0_;have HK:=n1_;have HB:=n2_;have BK284:=n3_;have GW284:=n4_;have GE284:=n5_;clear n0_ n1_ n2_ n3_ n4_ n5_;clear hb hbox hg)|((with_reducible refine gate_dst (N:=6) rfl ?_);refine box_event ?hg (N:=6) ?hd (cs:=#[.slice none 0 0,.int .i64 0,.bool false]) (t:=62) ?hr ?_;(case hd=>rfl);(case hg=>rfl);(case hr=>first|(go_simp;done)|(go_simp;rfl));intro gb285 hg w8 hbox hb;have n0_:=am (Kd.R_below (bK HO0_0.out) hb);have n1_:=am (bM BK284.out hb);have n2_:=am (Kept.below (S:=(fun k_=>P0_0_ k_)) (b29_) hb);have n3_:=am (below_step (bS GE284.out) hb);have n4_:=am (hbox);have n5_:=am ((by rw[hg];exact(b16_):w.heap.size≤gb285));have n6_:=am ((by rw[hg];exact(below_size (bS GE284.out)):w0.heap.size≤gb285));have n7_:=am ((bN BK284.out hg:gb284≠gb285));have n8_:=am ((bO BK284.out hg:gb285≠gb284));clear HO0_0 BK284 HK HB;have HO0_0:=n0_;have BK284:=n1_;have HK:=n2_;have HB:=n3_;have BK285:=n4_;have GW285:=n5_;have GE285:=n6_;have NB284_285:=n7_;have NB285_284:=n8_;clear n0_ n1_ n2_ n3_ n4_ n5_ n6_ n7_ n8_;clear hb hbox hg;have hnb9:=NB284_285.out;have hnc9:=NB285_284.out;obtain⟨hcz10_0,hcz10_1,hcz10_2⟩:=cC3 BK284.out;obtain⟨hfz10_0,hfz10_1,hfz10_2⟩:=cF3 BK284.out;obtain⟨hcz11_0,hcz11_1,hcz11_2⟩:=cC3 BK285.out;obtain⟨hfz11_0,hfz11_1,hfz11_2⟩:=cF3 BK285.out))
   refine bodyPost_ret (results_cell_row rfl _ _ gb285 62 #[.slice Ao6 l0_0.length co6,.int .i64 a0_1,.bool true] (0,0) _ rfl (by(with_reducible repeat (first|refine blk_drewN ?_ _|refine blk_drew ?_|refine blk_alloc ?_ _));apply bU3;(with_reducible repeat (first|refine blk_drewN ?_ _|refine blk_drew ?_|refine blk_alloc ?_ _));refine blk_far ?_ NB285_284.out _;(with_reducible repeat (first|refine blk_drewN ?_ _|refine blk_drew ?_|refine blk_alloc ?_ _));exact BK285.out) Try.underlying62 rfl (b4_)) rfl ?_
   exact⟨_,by first|rfl|(simp[errW_none,errW_some]<;>rfl)|(simp[*,errW_none,errW_some]<;>rfl),by(with_reducible repeat (first|apply Kd.R_alloc|apply Kd.R_drewN|apply Kd.R_drew));exact Kd.R_mono (Kd.R_far (p:=⟨gb285,2,none⟩) (Kd.R_far (p:=⟨gb285,1,none⟩) (Kd.R_far (p:=⟨gb285,0,none⟩) (Kd.R_far (p:=⟨gb284,2,none⟩) (Kd.R_types (Kd.R_types HO0_0.out BK284.out (b17_)) BK285.out (b17_)) (fun _ hk=>hk.1.2) (.bool true)) (fun _ hk=>hk.2) (.slice Ao6 l0_0.length co6)) (fun _ hk=>hk.2) (.int .i64 a0_1)) (fun _ hk=>hk.2) (.bool true)) (fun _ hk=>hk.1.1),bS2 GE284.out GE285.out,b52_⟩
  ·replace c5:=Bool.eq_false_iff.mpr c5
   subst c5
   have H1:(if 0≤a1 then (if a1 < (l0_0.length:Int) then (some (l0_0,a0_1,decide ((rd l0_0 a1) > 0))) else (none)) else (none))=some (r1,r2,r3):=by rw[if_neg (show ¬ (false=true) by decide)] at H;exact H
   clear H
   have H:=H1
   clear H1
   by_cases c12:0≤a1
   ·rw[if_pos c12] at H
    have c12b0:decide (0≤a1)=true:=decide_eq_true c12
    clear c12
    by_cases c13:a1 < (l0_0.length:Int)
    ·rw[if_pos c13] at H
     have c13b0:decide (a1 < (l0_0.length:Int))=true:=decide_eq_true c13
     clear c13
     simp only[Option.some.injEq,Prod.mk.injEq] at H
     obtain⟨rfl,rfl,rfl⟩:=H
     obtain⟨Ao14,co14,eo14⟩:=Kd.R_slice HO0_0.out
     subst eo14
     go_enter Try.func155,Try.ntmps155
     go_wp2_with (first|((with_reducible refine gate_dst (N:=3) rfl ?_);refine box_event ?hg (N:=3) ?hd (cs:=#[.slice Ao14 l0_0.length co14,.int .i64 a0_1,.bool false]) (t:=62) ?hr ?_;(case hd=>rfl);(case hg=>rfl);(case hr=>first|(go_simp;done)|(go_simp;rfl));intro gb284 hg w15 hbox hb;have n0_:=am (Kd.R_below (bK HO0_0.out) hb);have n1_:=am (Kept.below (S:=(fun k_=>P0_0_ k_)) (b42_) hb);have n2_:=am (below_step (bB) hb);have n3_:=am (hbox);have n4_:=am ((by rw[hg];exact(b22_):w.heap.size≤gb284));have n5_:=am ((bG:w0.heap.size≤gb284));clear HO0_0 HK HB;have HO0_0:=n0_;have HK:=n1_;have HB:=n2_;have BK284:=n3_;have GW284:=n4_;have GE284:=n5_;clear n0_ n1_ n2_ n3_ n4_ n5_;clear hb hbox hg)|((with_reducible refine gate_dst (N:=6) rfl ?_);refine box_event ?hg (N:=6) ?hd (cs:=#[.slice none 0 0,.int .i64 0,.bool false]) (t:=62) ?hr ?_;(case hd=>rfl);(case hg=>rfl);(case hr=>first|(go_simp;done)|(go_simp;rfl));intro gb285 hg w16 hbox hb;have n0_:=am (Kd.R_below (bK HO0_0.out) hb);have n1_:=am (bM BK284.out hb);have n2_:=am (Kept.below (S:=(fun k_=>P0_0_ k_)) (b29_) hb);have n3_:=am (below_step (bS GE284.out) hb);have n4_:=am (hbox);have n5_:=am ((by rw[hg];exact(b16_):w.heap.size≤gb285));have n6_:=am ((by rw[hg];exact(below_size (bS GE284.out)):w0.heap.size≤gb285));have n7_:=am ((bN BK284.out hg:gb284≠gb285));have n8_:=am ((bO BK284.out hg:gb285≠gb284));clear HO0_0 BK284 HK HB;have HO0_0:=n0_;have BK284:=n1_;have HK:=n2_;have HB:=n3_;have BK285:=n4_;have GW285:=n5_;have GE285:=n6_;have NB284_285:=n7_;have NB285_284:=n8_;clear n0_ n1_ n2_ n3_ n4_ n5_ n6_ n7_ n8_;clear hb hbox hg;have hnb17:=NB284_285.out;have hnc17:=NB285_284.out;obtain⟨hcz18_0,hcz18_1,hcz18_2⟩:=cC3 BK284.out;obtain⟨hfz18_0,hfz18_1,hfz18_2⟩:=cF3 BK284.out;have p286:0≤(a1:Int):=bD_;have q286:a1 < (l0_0.length:Int):=bD_;obtain⟨ad286,e286,hx286_0⟩:=Kd.at_int (Kd.R_reads' HO0_0.out).2.2 a1 p286 q286;cases e286;replace p286:=eq_true p286;replace q286:=eq_true q286;obtain⟨hcz19_0,hcz19_1,hcz19_2⟩:=cC3 BK285.out;obtain⟨hfz19_0,hfz19_1,hfz19_2⟩:=cF3 BK285.out))
     refine bodyPost_ret (results_cell_row rfl _ _ gb285 62 #[.slice (some ad286) l0_0.length co14,.int .i64 a0_1,.bool (decide ((rd l0_0 a1) > 0))] (0,0) _ rfl (by(with_reducible repeat (first|refine blk_drewN ?_ _|refine blk_drew ?_|refine blk_alloc ?_ _));apply bU3;(with_reducible repeat (first|refine blk_drewN ?_ _|refine blk_drew ?_|refine blk_alloc ?_ _));refine blk_far ?_ NB285_284.out _;(with_reducible repeat (first|refine blk_drewN ?_ _|refine blk_drew ?_|refine blk_alloc ?_ _));exact BK285.out) Try.underlying62 rfl (b4_)) rfl ?_
     exact⟨_,by first|rfl|(simp[errW_none,errW_some]<;>rfl)|(simp[*,errW_none,errW_some]<;>rfl),by(with_reducible repeat (first|apply Kd.R_alloc|apply Kd.R_drewN|apply Kd.R_drew));exact Kd.R_mono (Kd.R_far (p:=⟨gb285,2,none⟩) (Kd.R_far (p:=⟨gb285,1,none⟩) (Kd.R_far (p:=⟨gb285,0,none⟩) (Kd.R_far (p:=⟨gb284,2,none⟩) (Kd.R_types (Kd.R_types HO0_0.out BK284.out (b17_)) BK285.out (b17_)) (fun _ hk=>hk.1.2) (.bool (decide ((rd l0_0 a1) > 0)))) (fun _ hk=>hk.2) (.slice (some ad286) l0_0.length co14)) (fun _ hk=>hk.2) (.int .i64 a0_1)) (fun _ hk=>hk.2) (.bool (decide ((rd l0_0 a1) > 0)))) (fun _ hk=>hk.1.1),bS2 GE284.out GE285.out,b52_⟩
    ·rw[if_neg c13] at H
     exact absurd H (by simp)
   ·rw[if_neg c12] at H
    exact absurd H (by simp)
 ·rw[if_neg c4] at H
  have c4b0:(a2 == a0_1)=false:=beq_eq_false_iff_ne.mpr c4
  have c4b1:(a2 != a0_1)=true:=bne_iff_ne.mpr c4
  by_cases c20:a1=a0_1
  ·rw[if_pos c20] at H
   have c20b0:(a1 == a0_1)=true:=beq_iff_eq.mpr c20
   have c20b1:(a1 != a0_1)=false:=bne_eq_false_iff_eq.mpr c20
   clear c20
   simp only[Option.some.injEq,Prod.mk.injEq] at H
   obtain⟨rfl,rfl,rfl⟩:=H
   obtain⟨Ao21,co21,eo21⟩:=Kd.R_slice HO0_0.out
   subst eo21
   go_enter Try.func155,Try.ntmps155
   go_wp2_with (first|((with_reducible refine gate_dst (N:=3) rfl ?_);refine box_event ?hg (N:=3) ?hd (cs:=#[.slice Ao21 l0_0.length co21,.int .i64 a0_1,.bool a0_2]) (t:=62) ?hr ?_;(case hd=>rfl);(case hg=>rfl);(case hr=>first|(go_simp;done)|(go_simp;rfl));intro gb284 hg w22 hbox hb;have n0_:=am (Kd.R_below (bK HO0_0.out) hb);have n1_:=am (Kept.below (S:=(fun k_=>P0_0_ k_)) (b42_) hb);have n2_:=am (below_step (bB) hb);have n3_:=am (hbox);have n4_:=am ((by rw[hg];exact(b22_):w.heap.size≤gb284));have n5_:=am ((bG:w0.heap.size≤gb284));clear HO0_0 HK HB;have HO0_0:=n0_;have HK:=n1_;have HB:=n2_;have BK284:=n3_;have GW284:=n4_;have GE284:=n5_;clear n0_ n1_ n2_ n3_ n4_ n5_;clear hb hbox hg)|((with_reducible refine gate_dst (N:=6) rfl ?_);refine box_event ?hg (N:=6) ?hd (cs:=#[.slice none 0 0,.int .i64 0,.bool false]) (t:=62) ?hr ?_;(case hd=>rfl);(case hg=>rfl);(case hr=>first|(go_simp;done)|(go_simp;rfl));intro gb285 hg w23 hbox hb;have n0_:=am (Kd.R_below (bK HO0_0.out) hb);have n1_:=am (bM BK284.out hb);have n2_:=am (Kept.below (S:=(fun k_=>P0_0_ k_)) (b29_) hb);have n3_:=am (below_step (bS GE284.out) hb);have n4_:=am (hbox);have n5_:=am ((by rw[hg];exact(b16_):w.heap.size≤gb285));have n6_:=am ((by rw[hg];exact(below_size (bS GE284.out)):w0.heap.size≤gb285));have n7_:=am ((bN BK284.out hg:gb284≠gb285));have n8_:=am ((bO BK284.out hg:gb285≠gb284));clear HO0_0 BK284 HK HB;have HO0_0:=n0_;have BK284:=n1_;have HK:=n2_;have HB:=n3_;have BK285:=n4_;have GW285:=n5_;have GE285:=n6_;have NB284_285:=n7_;have NB285_284:=n8_;clear n0_ n1_ n2_ n3_ n4_ n5_ n6_ n7_ n8_;clear hb hbox hg;have hnb24:=NB284_285.out;have hnc24:=NB285_284.out;obtain⟨hcz25_0,hcz25_1,hcz25_2⟩:=cC3 BK284.out;obtain⟨hfz25_0,hfz25_1,hfz25_2⟩:=cF3 BK284.out;obtain⟨hcz26_0,hcz26_1,hcz26_2⟩:=cC3 BK285.out;obtain⟨hfz26_0,hfz26_1,hfz26_2⟩:=cF3 BK285.out))
   refine bodyPost_ret (results_cell_row rfl _ _ gb285 62 #[.slice Ao21 l0_0.length co21,.int .i64 a0_1,.bool a0_2] (0,0) _ rfl (by(with_reducible repeat (first|refine blk_drewN ?_ _|refine blk_drew ?_|refine blk_alloc ?_ _));apply bU3;(with_reducible repeat (first|refine blk_drewN ?_ _|refine blk_drew ?_|refine blk_alloc ?_ _));exact BK285.out) Try.underlying62 rfl (b4_)) rfl ?_
   exact⟨_,by first|rfl|(simp[errW_none,errW_some]<;>rfl)|(simp[*,errW_none,errW_some]<;>rfl),by(with_reducible repeat (first|apply Kd.R_alloc|apply Kd.R_drewN|apply Kd.R_drew));exact Kd.R_mono (Kd.R_far (p:=⟨gb285,2,none⟩) (Kd.R_far (p:=⟨gb285,1,none⟩) (Kd.R_far (p:=⟨gb285,0,none⟩) (Kd.R_types HO0_0.out BK285.out (b17_)) (fun _ hk=>hk.2) (.slice Ao21 l0_0.length co21)) (fun _ hk=>hk.2) (.int .i64 a0_1)) (fun _ hk=>hk.2) (.bool a0_2)) (fun _ hk=>hk.1),bS2 GE284.out GE285.out,b52_⟩
  ·rw[if_neg c20] at H
   have c20b0:(a1 == a0_1)=false:=beq_eq_false_iff_ne.mpr c20
   have c20b1:(a1 != a0_1)=true:=bne_iff_ne.mpr c20
   by_cases c27:0≤a1
   ·rw[if_pos c27] at H
    have c27b0:decide (0≤a1)=true:=decide_eq_true c27
    clear c27
    by_cases c28:a1 < (l0_0.length:Int)
    ·rw[if_pos c28] at H
     have c28b0:decide (a1 < (l0_0.length:Int))=true:=decide_eq_true c28
     clear c28
     by_cases c29:(rd l0_0 a1) ≥ 2
     ·rw[if_pos c29] at H
      have c29b0:decide (2≤(rd l0_0 a1))=true:=decide_eq_true c29
      clear c29
      by_cases c30:0≤a2
      ·rw[if_pos c30] at H
       have c30b0:decide (0≤a2)=true:=decide_eq_true c30
       clear c30
       by_cases c31:a2 < (l0_0.length:Int)
       ·rw[if_pos c31] at H
        have c31b0:decide (a2 < (l0_0.length:Int))=true:=decide_eq_true c31
        clear c31
        by_cases c32:(rd l0_0 a2)=0
        ·rw[if_pos c32] at H
         have c32b0:((rd l0_0 a2) == 0)=true:=beq_iff_eq.mpr c32
         have c32b1:((rd l0_0 a2) != 0)=false:=bne_eq_false_iff_eq.mpr c32
         clear c32
         obtain⟨y290,hy290⟩ : ∃ y_:List Int,y_=(l0_0.set (a2:Int).toNat (wrap64 (Int.tdiv (rd l0_0 a1) 2))):=⟨_,rfl⟩
         replace H:(some ((y290.set (a1:Int).toNat (wrap64 ((rd y290 a1) - (rd y290 a2)))),a0_1,a0_2))=some (r1,r2,r3):=by first|(rw[hy290];with_reducible exact H)|(have H2_:=(Option.bind_some _ _).symm.trans H;rw[hy290];with_reducible exact H2_)|(have H2_:=(Option.bind_some _ _).symm.trans H;with_reducible exact H2_)|with_reducible exact H|(rw[hy290];exact H)|exact H
         have Ny290:=am hy290
         clear hy290
         obtain⟨y293,hy293⟩ : ∃ y_:List Int,y_=(y290.set (a1:Int).toNat (wrap64 ((rd y290 a1) - (rd y290 a2)))):=⟨_,rfl⟩
         replace H:(some (y293,a0_1,a0_2))=some (r1,r2,r3):=by first|(rw[hy293];with_reducible exact H)|(have H2_:=(Option.bind_some _ _).symm.trans H;rw[hy293];with_reducible exact H2_)|(have H2_:=(Option.bind_some _ _).symm.trans H;with_reducible exact H2_)|with_reducible exact H|(rw[hy293];exact H)|exact H
         have Ny293:=am hy293
         clear hy293
         simp only[Option.some.injEq,Prod.mk.injEq] at H
         obtain⟨rfl,rfl,rfl⟩:=H
         obtain⟨Ao35,co35,eo35⟩:=Kd.R_slice HO0_0.out
         subst eo35
         go_enter Try.func155,Try.ntmps155
         try go_wp2_with (first|((with_reducible refine gate_dst (N:=3) rfl ?_);refine box_event ?hg (N:=3) ?hd (cs:=#[.slice Ao35 l0_0.length co35,.int .i64 a0_1,.bool a0_2]) (t:=62) ?hr ?_;(case hd=>rfl);(case hg=>rfl);(case hr=>first|(go_simp;done)|(go_simp;rfl));intro gb284 hg w36 hbox hb;have n0_:=am (Kd.R_below (bK HO0_0.out) hb);have n1_:=am (Kept.below (S:=(fun k_=>P0_0_ k_)) (b42_) hb);have n2_:=am (below_step (bB) hb);have n3_:=am (hbox);have n4_:=am ((by rw[hg];exact(b22_):w.heap.size≤gb284));have n5_:=am ((bG:w0.heap.size≤gb284));clear HO0_0 HK HB;have HO0_0:=n0_;have HK:=n1_;have HB:=n2_;have BK284:=n3_;have GW284:=n4_;have GE284:=n5_;clear n0_ n1_ n2_ n3_ n4_ n5_;clear hb hbox hg)|((with_reducible refine gate_dst (N:=6) rfl ?_);refine box_event ?hg (N:=6) ?hd (cs:=#[.slice none 0 0,.int .i64 0,.bool false]) (t:=62) ?hr ?_;(case hd=>rfl);(case hg=>rfl);(case hr=>first|(go_simp;done)|(go_simp;rfl));intro gb285 hg w37 hbox hb;have n0_:=am (Kd.R_below (bK HO0_0.out) hb);have n1_:=am (bM BK284.out hb);have n2_:=am (Kept.below (S:=(fun k_=>P0_0_ k_)) (b29_) hb);have n3_:=am (below_step (bS GE284.out) hb);have n4_:=am (hbox);have n5_:=am ((by rw[hg];exact(b16_):w.heap.size≤gb285));have n6_:=am ((by rw[hg];exact(below_size (bS GE284.out)):w0.heap.size≤gb285));have n7_:=am ((bN BK284.out hg:gb284≠gb285));have n8_:=am ((bO BK284.out hg:gb285≠gb284));clear HO0_0 BK284 HK HB;have HO0_0:=n0_;have BK284:=n1_;have HK:=n2_;have HB:=n3_;have BK285:=n4_;have GW285:=n5_;have GE285:=n6_;have NB284_285:=n7_;have NB285_284:=n8_;clear n0_ n1_ n2_ n3_ n4_ n5_ n6_ n7_ n8_;clear hb hbox hg;have hnb38:=NB284_285.out;have hnc38:=NB285_284.out;obtain⟨hcz39_0,hcz39_1,hcz39_2⟩:=cC3 BK284.out;obtain⟨hfz39_0,hfz39_1,hfz39_2⟩:=cF3 BK284.out;have p287:0≤(a1:Int):=bD_;have q287:a1 < (l0_0.length:Int):=bD_;obtain⟨ad287,e287,hx287_0⟩:=Kd.at_int (Kd.R_reads' HO0_0.out).2.2 a1 p287 q287;cases e287;replace p287:=eq_true p287;replace q287:=eq_true q287;have p288:0≤(a2:Int):=bD_;have q288:a2 < (l0_0.length:Int):=bD_;obtain⟨ad288,e288,hx288_0⟩:=Kd.at_int (Kd.R_reads' HO0_0.out).2.2 a2 p288 q288;obtain rfl:ad287=ad288:=(by injection e288);replace p288:=eq_true p288;replace q288:=eq_true q288))
         (try (rw[drewN_self w37];generalize hq_:World.drewN w37 _=w37;have n0_:=am (Kd.R_at hq_ HO0_0.out);have n1_:=am (blk_at hq_ BK284.out);have n2_:=am (blk_at hq_ BK285.out);have n3_:=am (kept_at hq_ HK.out);have n4_:=am (below_at hq_ HB.out);clear hq_ HO0_0 BK284 BK285 HK HB;have HO0_0:=n0_;have BK284:=n1_;have BK285:=n2_;have HK:=n3_;have HB:=n4_;clear n0_ n1_ n2_ n3_ n4_))
         have n0_:=am (Kd.R_drew HO0_0.out)
         have n1_:=am (blk_drew BK284.out)
         have n2_:=am (blk_drew BK285.out)
         have n3_:=am (Kept.drew HK.out)
         have n4_:=am (below_drew1 HB.out)
         clear HO0_0 BK284 BK285 HK HB
         have HO0_0:=n0_
         have BK284:=n1_
         have BK285:=n2_
         have HK:=n3_
         have HB:=n4_
         clear n0_ n1_ n2_ n3_ n4_
         have p289:0≤(a1:Int):=bD_
         have q289:a1 < (l0_0.length:Int):=bD_
         obtain⟨ad289,e289,hx289_0⟩:=Kd.at_int (Kd.R_reads' HO0_0.out).2.2 a1 p289 q289
         obtain rfl:ad287=ad289:=(by injection e289)
         replace p289:=eq_true p289
         replace q289:=eq_true q289
         have p33:0≤(a2:Int):=bD_
         have q33:(a2:Int) < ((l0_0.length:Int):Int):=bD_
         obtain⟨go33,co33,eo33,gb33,gl33,cl33,HG33⟩:=Kd.R_form HO0_0.out (by omega)
         (first|cases eo33|(injection eo33 with ea_ en_ ec_;(first|subst ea_|(injection ea_ with ea_;subst ea_));subst ec_;clear en_))
         have GB33:=am gb33
         have GG33:=am HG33
         clear gb33 gl33 HG33
         have HMgo33:=am (show(P0_0_ go33∨w.heap.size≤go33) from (HO0_0.out.1 _ rfl))
         (first|simp only[add_plain] at hx287_0|skip)
         (first|simp only[add_plain] at hx288_0|skip)
         (first|simp only[add_plain] at hx289_0|skip)
         obtain⟨hx33_0,hf33_0⟩:=Kd.R_celln 0 HO0_0.out (a2:Int) p33 q33
         replace p33:=eq_true p33
         replace q33:=eq_true q33
         have HP41:=Kd.R_putn HO0_0.out (a2:Int) (wrap64 (Int.tdiv (rd l0_0 a1) 2))
         rw[← Ny290.out] at HP41
         have HQ41:=am HP41
         clear HP41
         refine start_ (n:=11) (S:=fun w'=>w'.cell? ⟨gb284,0,none⟩=some (.slice (some ⟨go33,0,none⟩) l0_0.length co35)∧w'.cell? ⟨gb284,1,none⟩=some (.int .i64 a0_1)∧w'.cell? ⟨gb284,2,none⟩=some (.bool a0_2)∧w'.cell? ⟨go33,(a1).toNat,none⟩=some (.int .i64 (rd l0_0 a1))) (ds:=[10]) #[false,false,false,false,false,false,false,false,false,false,false] (b4_) rfl rfl ⟨(blk_cell BK284.out 0).trans rfl,(blk_cell BK284.out 1).trans rfl,(blk_cell BK284.out 2).trans rfl,hx289_0⟩ (fun hHeld => ?_);refine with_tabW spec_l15Give.tab5 spec_l15Give.bits5 (fun HT_ HW_ => ?_)
         generalize w37.drew=w40 at HO0_0 BK284 BK285 HK HB GG33 HQ41 hf33_0 hx287_0 hx288_0 hx289_0 hx33_0 hHeld ⊢
         refine pure_ (i:=0) (N:=some 43) (v:=?_) (a':=?_) #[true,false,false,false,false,false,false,false,false,false,false] rfl rfl (any_of HT_.out (b4_)) (fun _ _ _ h=>h) (Or.inl ⟨by rfl,?_⟩) ?_ ?_
         rotate_left
         ·intro w'
          go_simp
          with_reducible rfl
         rotate_left
         ·simp only[Act.put,zA,zB,zC,i64_w,i32_w]
          rfl
         refine pure_ (i:=2) (N:=some 45) (v:=?_) (a':=?_) #[true,false,true,false,false,false,false,false,false,false,false] rfl rfl (any_of HT_.out (b4_)) (fun _ _ _ h=>h) (Or.inl ⟨by rfl,?_⟩) ?_ ?_
         rotate_left
         ·intro w'
          go_simp
          with_reducible rfl
         rotate_left
         ·simp only[Act.put,zA,zB,zC,i64_w,i32_w]
          rfl
         refine pure_ (i:=3) (N:=some 46) (v:=?_) (a':=?_) #[true,false,true,true,false,false,false,false,false,false,false] rfl rfl (any_of HT_.out (b4_)) (fun _ _ _ h=>h) (Or.inl ⟨by rfl,?_⟩) ?_ ?_
         rotate_left
         ·intro w'
          go_simp
          with_reducible rfl
         rotate_left
         ·simp only[Act.put,zA,zB,zC,i64_w,i32_w]
          rfl
         refine pure_ (i:=5) (N:=some 48) (v:=?_) (a':=?_) #[true,false,true,true,false,true,false,false,false,false,false] rfl rfl (any_of HT_.out (b4_)) (fun _ _ _ h=>h) (Or.inl ⟨by rfl,?_⟩) ?_ ?_
         rotate_left
         ·intro w'
          go_simp
          with_reducible rfl
         rotate_left
         ·simp only[Act.put,zA,zB,zC,i64_w,i32_w]
          rfl
         refine take_ (i:=1) (N:=some 44) (v:=?_) (a':=?_) #[true,true,true,true,false,true,false,false,false,false,false] rfl rfl (take_ofW HT_.out HW_.out (b4_)) (fun _ _ _ h=>h) (Or.inl ⟨by rfl,?_⟩) hHeld ?_ ?_
         rotate_left
         ·rintro w' ⟨s0,s1,s2,s3⟩
          go_simp
          with_reducible rfl
         rotate_left
         ·simp only[Act.put,zA,zB,zC,i64_w,i32_w]
          rfl
         refine take_ (i:=4) (N:=some 47) (v:=?_) (a':=?_) #[true,true,true,true,true,true,false,false,false,false,false] rfl rfl (take_ofW HT_.out HW_.out (b4_)) (fun _ _ _ h=>h) (Or.inl ⟨by rfl,?_⟩) hHeld ?_ ?_
         rotate_left
         ·rintro w' ⟨s0,s1,s2,s3⟩
          go_simp
          with_reducible rfl
         rotate_left
         ·simp only[Act.put,zA,zB,zC,i64_w,i32_w]
          rfl
         refine pure_ (i:=6) (N:=some 49) (v:=?_) (a':=?_) #[true,true,true,true,true,true,true,false,false,false,false] rfl rfl (any_of HT_.out (b4_)) (fun _ _ _ h=>h) (Or.inl ⟨by rfl,?_⟩) ?_ ?_
         rotate_left
         ·intro w'
          go_simp
          with_reducible rfl
         rotate_left
         ·simp only[Act.put,zA,zB,zC,i64_w,i32_w]
          rfl
         refine take_ (i:=7) (N:=some 50) (v:=?_) (a':=?_) #[true,true,true,true,true,true,true,true,false,false,false] rfl rfl (take_ofW HT_.out HW_.out (b4_)) (fun _ _ _ h=>h) (Or.inl ⟨by rfl,?_⟩) hHeld ?_ ?_
         rotate_left
         ·rintro w' ⟨s0,s1,s2,s3⟩
          go_simp
          with_reducible rfl
         rotate_left
         ·simp only[Act.put,zA,zB,zC,i64_w,i32_w]
          rfl
         refine pure_ (i:=8) (N:=some 51) (v:=?_) (a':=?_) #[true,true,true,true,true,true,true,true,true,false,false] rfl rfl (any_of HT_.out (b4_)) (fun _ _ _ h=>h) (Or.inl ⟨by rfl,?_⟩) ?_ ?_
         rotate_left
         ·intro w'
          go_simp
          with_reducible rfl
         rotate_left
         ·simp only[Act.put,zA,zB,zC,i64_w,i32_w]
          rfl
         refine pure_ (i:=9) (N:=some 52) (v:=?_) (a':=?_) #[true,true,true,true,true,true,true,true,true,true,false] rfl rfl (any_of HT_.out (b4_)) (fun _ _ _ h=>h) (Or.inl ⟨by rfl,?_⟩) ?_ ?_
         rotate_left
         ·intro w'
          go_simp
          with_reducible rfl
         rotate_left
         ·simp only[Act.put,zA,zB,zC,i64_w,i32_w]
          rfl
         refine last_ (i:=10) (N:=none) #[true,true,true,true,true,true,true,true,true,true,true] rfl rfl (one_of HT_.out (b4_)) (b17_) (fun K hK => ?_)
         refine skip_ (w1:=?_) (by rfl) rfl ?_ ?_
         rotate_left
         ·go_simp
          rfl
         refine hK.out _ _ ?_
         clear hK K
         refine done_ (done_of HT_.out (b4_)) ?_
         have n0_:Aside0 (Kd.R (Kd.int .i64) 3 (w40.setCell ⟨go33,(a2:Int).toNat,none⟩ (.int .i64 (wrap64 (Int.tdiv (rd l0_0 a1) 2)))) w0.heap.size (fun k_=>(P0_0_ k_∨w.heap.size≤k_)) (.slice (some ⟨go33,0,none⟩) l0_0.length co35) y290):=⟨by(with_reducible repeat (first|apply Kd.R_alloc|apply Kd.R_drewN|apply Kd.R_drew));exact HQ41.out⟩
         have n1_:Aside0 ((w40.setCell ⟨go33,(a2:Int).toNat,none⟩ (.int .i64 (wrap64 (Int.tdiv (rd l0_0 a1) 2)))).heap[gb284]?=some (.cells #[.slice (some ⟨go33,0,none⟩) l0_0.length co35,.int .i64 a0_1,.bool a0_2] 62 (0,0))):=⟨by(with_reducible repeat (first|refine blk_drewN ?_ _|refine blk_drew ?_|refine blk_alloc ?_ _));refine blk_far ?_ (by have h_:=Kd.R_ne HO0_0.out BK284.out (b17_);intro e_;exact h_ (by rw[e_];rfl)) _;(with_reducible repeat (first|refine blk_drewN ?_ _|refine blk_drew ?_|refine blk_alloc ?_ _));exact BK284.out⟩
         have n2_:Aside0 ((w40.setCell ⟨go33,(a2:Int).toNat,none⟩ (.int .i64 (wrap64 (Int.tdiv (rd l0_0 a1) 2)))).heap[gb285]?=some (.cells #[.slice none 0 0,.int .i64 0,.bool false] 62 (0,0))):=⟨by(with_reducible repeat (first|refine blk_drewN ?_ _|refine blk_drew ?_|refine blk_alloc ?_ _));refine blk_far ?_ (by have h_:=Kd.R_ne HO0_0.out BK285.out (b17_);intro e_;exact h_ (by rw[e_];rfl)) _;(with_reducible repeat (first|refine blk_drewN ?_ _|refine blk_drew ?_|refine blk_alloc ?_ _));exact BK285.out⟩
         have n3_:Aside0 (Kept w (w40.setCell ⟨go33,(a2:Int).toNat,none⟩ (.int .i64 (wrap64 (Int.tdiv (rd l0_0 a1) 2)))) (fun k_=>P0_0_ k_)):=⟨by repeat (first|(with_reducible first|exact HK.out|apply Kept.alloc|apply Kept.drewN|apply Kept.drew|refine Kept.setCell ?_ HMgo33.out _|refine Kept.setCell ?_ (.inr GW284.out) _|refine Kept.setCell ?_ (.inr GW285.out) _)|exact HK.out)⟩
         have n4_:Aside0 (Below w0.heap.size w0 (w40.setCell ⟨go33,(a2:Int).toNat,none⟩ (.int .i64 (wrap64 (Int.tdiv (rd l0_0 a1) 2))))):=⟨bS3 GB33.out GE284.out GE285.out⟩
         (try clear HO0_0)
         (try clear BK284)
         (try clear BK285)
         (try clear HK)
         (try clear HB)
         generalize (w40.setCell ⟨go33,(a2:Int).toNat,none⟩ (.int .i64 (wrap64 (Int.tdiv (rd l0_0 a1) 2))))=w42 at n0_ n1_ n2_ n3_ n4_ ⊢
         have HO0_0:=n0_
         have BK284:=n1_
         have BK285:=n2_
         have HK:=n3_
         have HB:=n4_
         clear n0_ n1_ n2_ n3_ n4_
         try go_wp2
         (try (rw[drewN_self w42];generalize hq_:World.drewN w42 _=w42;have n0_:=am (Kd.R_at hq_ HO0_0.out);have n1_:=am (blk_at hq_ BK284.out);have n2_:=am (blk_at hq_ BK285.out);have n3_:=am (kept_at hq_ HK.out);have n4_:=am (below_at hq_ HB.out);clear hq_ HO0_0 BK284 BK285 HK HB;have HO0_0:=n0_;have BK284:=n1_;have BK285:=n2_;have HK:=n3_;have HB:=n4_;clear n0_ n1_ n2_ n3_ n4_))
         have n0_:=am (Kd.R_drew HO0_0.out)
         have n1_:=am (blk_drew BK284.out)
         have n2_:=am (blk_drew BK285.out)
         have n3_:=am (Kept.drew HK.out)
         have n4_:=am (below_drew1 HB.out)
         clear HO0_0 BK284 BK285 HK HB
         have HO0_0:=n0_
         have BK284:=n1_
         have BK285:=n2_
         have HK:=n3_
         have HB:=n4_
         clear n0_ n1_ n2_ n3_ n4_
         have p291:0≤(a1:Int):=bD_
         have q291:a1 < (y290.length:Int):=(by have h_:(a1:Int) < ((l0_0.length:Int):Int):=bD_;first|(have e_:=(Kd.R_reads' HO0_0.out).1;omega)|simpa only[Ny290.out,List.length_set] using h_)
         have ql291:((a1:Int) < ((l0_0.length:Int):Int))=True:=eq_true (bD_)
         obtain⟨ad291,e291,hx291_0⟩:=Kd.at_int (Kd.R_reads' HO0_0.out).2.2 a1 p291 q291
         obtain rfl:(⟨go33,0,none⟩:Addr)=ad291:=(by injection e291)
         (first|simp only[add_plain] at hx291_0|simp only[add_at] at hx291_0|simp only[Addr.add,Nat.zero_add] at hx291_0|skip)
         replace p291:=eq_true p291
         replace q291:=eq_true q291
         have p292:0≤(a2:Int):=bD_
         have q292:a2 < (y290.length:Int):=(by have h_:(a2:Int) < ((l0_0.length:Int):Int):=bD_;first|(have e_:=(Kd.R_reads' HO0_0.out).1;omega)|simpa only[Ny290.out,List.length_set] using h_)
         have ql292:((a2:Int) < ((l0_0.length:Int):Int))=True:=eq_true (bD_)
         obtain⟨ad292,e292,hx292_0⟩:=Kd.at_int (Kd.R_reads' HO0_0.out).2.2 a2 p292 q292
         obtain rfl:(⟨go33,0,none⟩:Addr)=ad292:=(by injection e292)
         (first|simp only[add_plain] at hx292_0|simp only[add_at] at hx292_0|simp only[Addr.add,Nat.zero_add] at hx292_0|skip)
         replace p292:=eq_true p292
         replace q292:=eq_true q292
         have p34:0≤(a1:Int):=bD_
         have q34:(a1:Int) < ((l0_0.length:Int):Int):=bD_
         obtain⟨hx34_0,hf34_0⟩:=Kd.R_celln 0 HO0_0.out (a1:Int) p34 q34
         replace p34:=eq_true p34
         replace q34:=eq_true q34
         have HP44:=Kd.R_putn HO0_0.out (a1:Int) (wrap64 ((rd y290 a1) - (rd y290 a2)))
         rw[← Ny293.out] at HP44
         have HQ44:=am HP44
         clear HP44
         refine start_ (n:=13) (S:=fun w'=>w'.cell? ⟨gb284,0,none⟩=some (.slice (some ⟨go33,0,none⟩) l0_0.length co35)∧w'.cell? ⟨gb284,1,none⟩=some (.int .i64 a0_1)∧w'.cell? ⟨gb284,2,none⟩=some (.bool a0_2)∧w'.cell? ⟨go33,(a1).toNat,none⟩=some (.int .i64 (rd y290 a1))∧w'.cell? ⟨go33,(a2).toNat,none⟩=some (.int .i64 (rd y290 a2))) (ds:=[12]) #[false,false,false,false,false,false,false,false,false,false,false,false,false] (b4_) rfl rfl ⟨(blk_cell BK284.out 0).trans rfl,(blk_cell BK284.out 1).trans rfl,(blk_cell BK284.out 2).trans rfl,hx291_0,hx292_0⟩ (fun hHeld => ?_);refine with_tabW spec_l15Give.tab6 spec_l15Give.bits6 (fun HT_ HW_ => ?_)
         generalize w42.drew=w43 at HO0_0 BK284 BK285 HK HB HQ44 hf34_0 hx291_0 hx292_0 hx34_0 hHeld ⊢
         refine pure_ (i:=0) (N:=some 53) (v:=?_) (a':=?_) #[true,false,false,false,false,false,false,false,false,false,false,false,false] rfl rfl (any_of HT_.out (b4_)) (fun _ _ _ h=>h) (Or.inl ⟨by rfl,?_⟩) ?_ ?_
         rotate_left
         ·intro w'
          go_simp
          with_reducible rfl
         rotate_left
         ·simp only[Act.put,zA,zB,zC,i64_w,i32_w]
          rfl
         refine pure_ (i:=2) (N:=some 55) (v:=?_) (a':=?_) #[true,false,true,false,false,false,false,false,false,false,false,false,false] rfl rfl (any_of HT_.out (b4_)) (fun _ _ _ h=>h) (Or.inl ⟨by rfl,?_⟩) ?_ ?_
         rotate_left
         ·intro w'
          go_simp
          with_reducible rfl
         rotate_left
         ·simp only[Act.put,zA,zB,zC,i64_w,i32_w]
          rfl
         refine pure_ (i:=5) (N:=some 58) (v:=?_) (a':=?_) #[true,false,true,false,false,true,false,false,false,false,false,false,false] rfl rfl (any_of HT_.out (b4_)) (fun _ _ _ h=>h) (Or.inl ⟨by rfl,?_⟩) ?_ ?_
         rotate_left
         ·intro w'
          go_simp
          with_reducible rfl
         rotate_left
         ·simp only[Act.put,zA,zB,zC,i64_w,i32_w]
          rfl
         refine pure_ (i:=7) (N:=some 60) (v:=?_) (a':=?_) #[true,false,true,false,false,true,false,true,false,false,false,false,false] rfl rfl (any_of HT_.out (b4_)) (fun _ _ _ h=>h) (Or.inl ⟨by rfl,?_⟩) ?_ ?_
         rotate_left
         ·intro w'
          go_simp
          with_reducible rfl
         rotate_left
         ·simp only[Act.put,zA,zB,zC,i64_w,i32_w]
          rfl
         refine take_ (i:=1) (N:=some 54) (v:=?_) (a':=?_) #[true,true,true,false,false,true,false,true,false,false,false,false,false] rfl rfl (take_ofW HT_.out HW_.out (b4_)) (fun _ _ _ h=>h) (Or.inl ⟨by rfl,?_⟩) hHeld ?_ ?_
         rotate_left
         ·rintro w' ⟨s0,s1,s2,s3,s4⟩
          go_simp
          with_reducible rfl
         rotate_left
         ·simp only[Act.put,zA,zB,zC,i64_w,i32_w]
          rfl
         refine pure_ (i:=3) (N:=some 56) (v:=?_) (a':=?_) #[true,true,true,true,false,true,false,true,false,false,false,false,false] rfl rfl (any_of HT_.out (b4_)) (fun _ _ _ h=>h) (Or.inl ⟨by rfl,?_⟩) ?_ ?_
         rotate_left
         ·intro w'
          go_simp
          with_reducible rfl
         rotate_left
         ·simp only[Act.put,zA,zB,zC,i64_w,i32_w]
          rfl
         refine take_ (i:=4) (N:=some 57) (v:=?_) (a':=?_) #[true,true,true,true,true,true,false,true,false,false,false,false,false] rfl rfl (take_ofW HT_.out HW_.out (b4_)) (fun _ _ _ h=>h) (Or.inl ⟨by rfl,?_⟩) hHeld ?_ ?_
         rotate_left
         ·rintro w' ⟨s0,s1,s2,s3,s4⟩
          go_simp
          with_reducible rfl
         rotate_left
         ·simp only[Act.put,zA,zB,zC,i64_w,i32_w]
          rfl
         refine take_ (i:=6) (N:=some 59) (v:=?_) (a':=?_) #[true,true,true,true,true,true,true,true,false,false,false,false,false] rfl rfl (take_ofW HT_.out HW_.out (b4_)) (fun _ _ _ h=>h) (Or.inl ⟨by rfl,?_⟩) hHeld ?_ ?_
         rotate_left
         ·rintro w' ⟨s0,s1,s2,s3,s4⟩
          go_simp
          with_reducible rfl
         rotate_left
         ·simp only[Act.put,zA,zB,zC,i64_w,i32_w]
          rfl
         refine pure_ (i:=8) (N:=some 61) (v:=?_) (a':=?_) #[true,true,true,true,true,true,true,true,true,false,false,false,false] rfl rfl (any_of HT_.out (b4_)) (fun _ _ _ h=>h) (Or.inl ⟨by rfl,?_⟩) ?_ ?_
         rotate_left
         ·intro w'
          go_simp
          with_reducible rfl
         rotate_left
         ·simp only[Act.put,zA,zB,zC,i64_w,i32_w]
          rfl
         refine take_ (i:=9) (N:=some 62) (v:=?_) (a':=?_) #[true,true,true,true,true,true,true,true,true,true,false,false,false] rfl rfl (take_ofW HT_.out HW_.out (b4_)) (fun _ _ _ h=>h) (Or.inl ⟨by rfl,?_⟩) hHeld ?_ ?_
         rotate_left
         ·rintro w' ⟨s0,s1,s2,s3,s4⟩
          go_simp
          with_reducible rfl
         rotate_left
         ·simp only[Act.put,zA,zB,zC,i64_w,i32_w]
          rfl
         refine pure_ (i:=10) (N:=some 63) (v:=?_) (a':=?_) #[true,true,true,true,true,true,true,true,true,true,true,false,false] rfl rfl (any_of HT_.out (b4_)) (fun _ _ _ h=>h) (Or.inl ⟨by rfl,?_⟩) ?_ ?_
         rotate_left
         ·intro w'
          go_simp
          with_reducible rfl
         rotate_left
         ·simp only[Act.put,zA,zB,zC,i64_w,i32_w]
          rfl
         refine pure_ (i:=11) (N:=some 64) (v:=?_) (a':=?_) #[true,true,true,true,true,true,true,true,true,true,true,true,false] rfl rfl (any_of HT_.out (b4_)) (fun _ _ _ h=>h) (Or.inl ⟨by rfl,?_⟩) ?_ ?_
         rotate_left
         ·intro w'
          go_simp
          with_reducible rfl
         rotate_left
         ·simp only[Act.put,zA,zB,zC,i64_w,i32_w]
          rfl
         refine last_ (i:=12) (N:=none) #[true,true,true,true,true,true,true,true,true,true,true,true,true] rfl rfl (one_of HT_.out (b4_)) (b17_) (fun K hK => ?_)
         refine skip_ (w1:=?_) (by rfl) rfl ?_ ?_
         rotate_left
         ·go_simp
          rfl
         refine hK.out _ _ ?_
         clear hK K
         refine done_ (done_of HT_.out (b4_)) ?_
         have n0_:Aside0 (Kd.R (Kd.int .i64) 3 (w43.setCell ⟨go33,(a1:Int).toNat,none⟩ (.int .i64 (wrap64 ((rd y290 a1) - (rd y290 a2))))) w0.heap.size (fun k_=>(P0_0_ k_∨w.heap.size≤k_)) (.slice (some ⟨go33,0,none⟩) l0_0.length co35) y293):=⟨by(with_reducible repeat (first|apply Kd.R_alloc|apply Kd.R_drewN|apply Kd.R_drew));exact HQ44.out⟩
         have n1_:Aside0 ((w43.setCell ⟨go33,(a1:Int).toNat,none⟩ (.int .i64 (wrap64 ((rd y290 a1) - (rd y290 a2))))).heap[gb284]?=some (.cells #[.slice (some ⟨go33,0,none⟩) l0_0.length co35,.int .i64 a0_1,.bool a0_2] 62 (0,0))):=⟨by(with_reducible repeat (first|refine blk_drewN ?_ _|refine blk_drew ?_|refine blk_alloc ?_ _));refine blk_far ?_ (by have h_:=Kd.R_ne HO0_0.out BK284.out (b17_);intro e_;exact h_ (by rw[e_];rfl)) _;(with_reducible repeat (first|refine blk_drewN ?_ _|refine blk_drew ?_|refine blk_alloc ?_ _));exact BK284.out⟩
         have n2_:Aside0 ((w43.setCell ⟨go33,(a1:Int).toNat,none⟩ (.int .i64 (wrap64 ((rd y290 a1) - (rd y290 a2))))).heap[gb285]?=some (.cells #[.slice none 0 0,.int .i64 0,.bool false] 62 (0,0))):=⟨by(with_reducible repeat (first|refine blk_drewN ?_ _|refine blk_drew ?_|refine blk_alloc ?_ _));refine blk_far ?_ (by have h_:=Kd.R_ne HO0_0.out BK285.out (b17_);intro e_;exact h_ (by rw[e_];rfl)) _;(with_reducible repeat (first|refine blk_drewN ?_ _|refine blk_drew ?_|refine blk_alloc ?_ _));exact BK285.out⟩
         have n3_:Aside0 (Kept w (w43.setCell ⟨go33,(a1:Int).toNat,none⟩ (.int .i64 (wrap64 ((rd y290 a1) - (rd y290 a2))))) (fun k_=>P0_0_ k_)):=⟨by repeat (first|(with_reducible first|exact HK.out|apply Kept.alloc|apply Kept.drewN|apply Kept.drew|refine Kept.setCell ?_ HMgo33.out _|refine Kept.setCell ?_ (.inr GW284.out) _|refine Kept.setCell ?_ (.inr GW285.out) _)|exact HK.out)⟩
         have n4_:Aside0 (Below w0.heap.size w0 (w43.setCell ⟨go33,(a1:Int).toNat,none⟩ (.int .i64 (wrap64 ((rd y290 a1) - (rd y290 a2)))))):=⟨bS3 GB33.out GE284.out GE285.out⟩
         (try clear HO0_0)
         (try clear BK284)
         (try clear BK285)
         (try clear HK)
         (try clear HB)
         generalize (w43.setCell ⟨go33,(a1:Int).toNat,none⟩ (.int .i64 (wrap64 ((rd y290 a1) - (rd y290 a2)))))=w45 at n0_ n1_ n2_ n3_ n4_ ⊢
         have HO0_0:=n0_
         have BK284:=n1_
         have BK285:=n2_
         have HK:=n3_
         have HB:=n4_
         clear n0_ n1_ n2_ n3_ n4_
         obtain⟨hcz46_0,hcz46_1,hcz46_2⟩:=cC3 BK284.out
         obtain⟨hfz46_0,hfz46_1,hfz46_2⟩:=cF3 BK284.out
         obtain⟨hcz47_0,hcz47_1,hcz47_2⟩:=cC3 BK285.out
         obtain⟨hfz47_0,hfz47_1,hfz47_2⟩:=cF3 BK285.out
         try go_wp2
         refine bodyPost_ret (results_cell_row rfl _ _ gb285 62 #[.slice (some ⟨go33,0,none⟩) l0_0.length co35,.int .i64 a0_1,.bool a0_2] (0,0) _ rfl (by(with_reducible repeat (first|refine blk_drewN ?_ _|refine blk_drew ?_|refine blk_alloc ?_ _));apply bU3;(with_reducible repeat (first|refine blk_drewN ?_ _|refine blk_drew ?_|refine blk_alloc ?_ _));exact BK285.out) Try.underlying62 rfl (b4_)) rfl ?_
         exact⟨_,by first|rfl|(simp[errW_none,errW_some]<;>rfl)|(simp[*,errW_none,errW_some]<;>rfl),by(with_reducible repeat (first|apply Kd.R_alloc|apply Kd.R_drewN|apply Kd.R_drew));exact Kd.R_mono (Kd.R_far (p:=⟨gb285,2,none⟩) (Kd.R_far (p:=⟨gb285,1,none⟩) (Kd.R_far (p:=⟨gb285,0,none⟩) (Kd.R_types HO0_0.out BK285.out (b17_)) (fun _ hk=>hk.2) (.slice (some ⟨go33,0,none⟩) l0_0.length co35)) (fun _ hk=>hk.2) (.int .i64 a0_1)) (fun _ hk=>hk.2) (.bool a0_2)) (fun _ hk=>hk.1),bS2 GE284.out GE285.out,b52_⟩
        ·rw[if_neg c32] at H
         have c32b0:((rd l0_0 a2) == 0)=false:=beq_eq_false_iff_ne.mpr c32
         have c32b1:((rd l0_0 a2) != 0)=true:=bne_iff_ne.mpr c32
         simp only[Option.some.injEq,Prod.mk.injEq] at H
         obtain⟨rfl,rfl,rfl⟩:=H
         obtain⟨Ao48,co48,eo48⟩:=Kd.R_slice HO0_0.out
         subst eo48
         go_enter Try.func155,Try.ntmps155
         go_wp2_with (first|((with_reducible refine gate_dst (N:=3) rfl ?_);refine box_event ?hg (N:=3) ?hd (cs:=#[.slice Ao48 l0_0.length co48,.int .i64 a0_1,.bool a0_2]) (t:=62) ?hr ?_;(case hd=>rfl);(case hg=>rfl);(case hr=>first|(go_simp;done)|(go_simp;rfl));intro gb284 hg w49 hbox hb;have n0_:=am (Kd.R_below (bK HO0_0.out) hb);have n1_:=am (Kept.below (S:=(fun k_=>P0_0_ k_)) (b42_) hb);have n2_:=am (below_step (bB) hb);have n3_:=am (hbox);have n4_:=am ((by rw[hg];exact(b22_):w.heap.size≤gb284));have n5_:=am ((bG:w0.heap.size≤gb284));clear HO0_0 HK HB;have HO0_0:=n0_;have HK:=n1_;have HB:=n2_;have BK284:=n3_;have GW284:=n4_;have GE284:=n5_;clear n0_ n1_ n2_ n3_ n4_ n5_;clear hb hbox hg)|((with_reducible refine gate_dst (N:=6) rfl ?_);refine box_event ?hg (N:=6) ?hd (cs:=#[.slice none 0 0,.int .i64 0,.bool false]) (t:=62) ?hr ?_;(case hd=>rfl);(case hg=>rfl);(case hr=>first|(go_simp;done)|(go_simp;rfl));intro gb285 hg w50 hbox hb;have n0_:=am (Kd.R_below (bK HO0_0.out) hb);have n1_:=am (bM BK284.out hb);have n2_:=am (Kept.below (S:=(fun k_=>P0_0_ k_)) (b29_) hb);have n3_:=am (below_step (bS GE284.out) hb);have n4_:=am (hbox);have n5_:=am ((by rw[hg];exact(b16_):w.heap.size≤gb285));have n6_:=am ((by rw[hg];exact(below_size (bS GE284.out)):w0.heap.size≤gb285));have n7_:=am ((bN BK284.out hg:gb284≠gb285));have n8_:=am ((bO BK284.out hg:gb285≠gb284));clear HO0_0 BK284 HK HB;have HO0_0:=n0_;have BK284:=n1_;have HK:=n2_;have HB:=n3_;have BK285:=n4_;have GW285:=n5_;have GE285:=n6_;have NB284_285:=n7_;have NB285_284:=n8_;clear n0_ n1_ n2_ n3_ n4_ n5_ n6_ n7_ n8_;clear hb hbox hg;have hnb51:=NB284_285.out;have hnc51:=NB285_284.out;obtain⟨hcz52_0,hcz52_1,hcz52_2⟩:=cC3 BK284.out;obtain⟨hfz52_0,hfz52_1,hfz52_2⟩:=cF3 BK284.out;have p287:0≤(a1:Int):=bD_;have q287:a1 < (l0_0.length:Int):=bD_;obtain⟨ad287,e287,hx287_0⟩:=Kd.at_int (Kd.R_reads' HO0_0.out).2.2 a1 p287 q287;cases e287;replace p287:=eq_true p287;replace q287:=eq_true q287;have p288:0≤(a2:Int):=bD_;have q288:a2 < (l0_0.length:Int):=bD_;obtain⟨ad288,e288,hx288_0⟩:=Kd.at_int (Kd.R_reads' HO0_0.out).2.2 a2 p288 q288;obtain rfl:ad287=ad288:=(by injection e288);replace p288:=eq_true p288;replace q288:=eq_true q288;obtain⟨hcz53_0,hcz53_1,hcz53_2⟩:=cC3 BK285.out;obtain⟨hfz53_0,hfz53_1,hfz53_2⟩:=cF3 BK285.out))
         refine bodyPost_ret (results_cell_row rfl _ _ gb285 62 #[.slice (some ad287) l0_0.length co48,.int .i64 a0_1,.bool a0_2] (0,0) _ rfl (by(with_reducible repeat (first|refine blk_drewN ?_ _|refine blk_drew ?_|refine blk_alloc ?_ _));apply bU3;(with_reducible repeat (first|refine blk_drewN ?_ _|refine blk_drew ?_|refine blk_alloc ?_ _));exact BK285.out) Try.underlying62 rfl (b4_)) rfl ?_
         exact⟨_,by first|rfl|(simp[errW_none,errW_some]<;>rfl)|(simp[*,errW_none,errW_some]<;>rfl),by(with_reducible repeat (first|apply Kd.R_alloc|apply Kd.R_drewN|apply Kd.R_drew));exact Kd.R_mono (Kd.R_far (p:=⟨gb285,2,none⟩) (Kd.R_far (p:=⟨gb285,1,none⟩) (Kd.R_far (p:=⟨gb285,0,none⟩) (Kd.R_types HO0_0.out BK285.out (b17_)) (fun _ hk=>hk.2) (.slice (some ad287) l0_0.length co48)) (fun _ hk=>hk.2) (.int .i64 a0_1)) (fun _ hk=>hk.2) (.bool a0_2)) (fun _ hk=>hk.1),bS2 GE284.out GE285.out,b52_⟩
       ·rw[if_neg c31] at H
        exact absurd H (by simp)
      ·rw[if_neg c30] at H
       exact absurd H (by simp)
     ·rw[if_neg c29] at H
      have c29b0:decide (2≤(rd l0_0 a1))=false:=decide_eq_false c29
      clear c29
      simp only[Option.some.injEq,Prod.mk.injEq] at H
      obtain⟨rfl,rfl,rfl⟩:=H
      obtain⟨Ao54,co54,eo54⟩:=Kd.R_slice HO0_0.out
      subst eo54
      go_enter Try.func155,Try.ntmps155
      go_wp2_with (first|((with_reducible refine gate_dst (N:=3) rfl ?_);refine box_event ?hg (N:=3) ?hd (cs:=#[.slice Ao54 l0_0.length co54,.int .i64 a0_1,.bool a0_2]) (t:=62) ?hr ?_;(case hd=>rfl);(case hg=>rfl);(case hr=>first|(go_simp;done)|(go_simp;rfl));intro gb284 hg w55 hbox hb;have n0_:=am (Kd.R_below (bK HO0_0.out) hb);have n1_:=am (Kept.below (S:=(fun k_=>P0_0_ k_)) (b42_) hb);have n2_:=am (below_step (bB) hb);have n3_:=am (hbox);have n4_:=am ((by rw[hg];exact(b22_):w.heap.size≤gb284));have n5_:=am ((bG:w0.heap.size≤gb284));clear HO0_0 HK HB;have HO0_0:=n0_;have HK:=n1_;have HB:=n2_;have BK284:=n3_;have GW284:=n4_;have GE284:=n5_;clear n0_ n1_ n2_ n3_ n4_ n5_;clear hb hbox hg)|((with_reducible refine gate_dst (N:=6) rfl ?_);refine box_event ?hg (N:=6) ?hd (cs:=#[.slice none 0 0,.int .i64 0,.bool false]) (t:=62) ?hr ?_;(case hd=>rfl);(case hg=>rfl);(case hr=>first|(go_simp;done)|(go_simp;rfl));intro gb285 hg w56 hbox hb;have n0_:=am (Kd.R_below (bK HO0_0.out) hb);have n1_:=am (bM BK284.out hb);have n2_:=am (Kept.below (S:=(fun k_=>P0_0_ k_)) (b29_) hb);have n3_:=am (below_step (bS GE284.out) hb);have n4_:=am (hbox);have n5_:=am ((by rw[hg];exact(b16_):w.heap.size≤gb285));have n6_:=am ((by rw[hg];exact(below_size (bS GE284.out)):w0.heap.size≤gb285));have n7_:=am ((bN BK284.out hg:gb284≠gb285));have n8_:=am ((bO BK284.out hg:gb285≠gb284));clear HO0_0 BK284 HK HB;have HO0_0:=n0_;have BK284:=n1_;have HK:=n2_;have HB:=n3_;have BK285:=n4_;have GW285:=n5_;have GE285:=n6_;have NB284_285:=n7_;have NB285_284:=n8_;clear n0_ n1_ n2_ n3_ n4_ n5_ n6_ n7_ n8_;clear hb hbox hg;have hnb57:=NB284_285.out;have hnc57:=NB285_284.out;obtain⟨hcz58_0,hcz58_1,hcz58_2⟩:=cC3 BK284.out;obtain⟨hfz58_0,hfz58_1,hfz58_2⟩:=cF3 BK284.out;have p287:0≤(a1:Int):=bD_;have q287:a1 < (l0_0.length:Int):=bD_;obtain⟨ad287,e287,hx287_0⟩:=Kd.at_int (Kd.R_reads' HO0_0.out).2.2 a1 p287 q287;cases e287;replace p287:=eq_true p287;replace q287:=eq_true q287;obtain⟨hcz59_0,hcz59_1,hcz59_2⟩:=cC3 BK285.out;obtain⟨hfz59_0,hfz59_1,hfz59_2⟩:=cF3 BK285.out))
      refine bodyPost_ret (results_cell_row rfl _ _ gb285 62 #[.slice (some ad287) l0_0.length co54,.int .i64 a0_1,.bool a0_2] (0,0) _ rfl (by(with_reducible repeat (first|refine blk_drewN ?_ _|refine blk_drew ?_|refine blk_alloc ?_ _));apply bU3;(with_reducible repeat (first|refine blk_drewN ?_ _|refine blk_drew ?_|refine blk_alloc ?_ _));exact BK285.out) Try.underlying62 rfl (b4_)) rfl ?_
      exact⟨_,by first|rfl|(simp[errW_none,errW_some]<;>rfl)|(simp[*,errW_none,errW_some]<;>rfl),by(with_reducible repeat (first|apply Kd.R_alloc|apply Kd.R_drewN|apply Kd.R_drew));exact Kd.R_mono (Kd.R_far (p:=⟨gb285,2,none⟩) (Kd.R_far (p:=⟨gb285,1,none⟩) (Kd.R_far (p:=⟨gb285,0,none⟩) (Kd.R_types HO0_0.out BK285.out (b17_)) (fun _ hk=>hk.2) (.slice (some ad287) l0_0.length co54)) (fun _ hk=>hk.2) (.int .i64 a0_1)) (fun _ hk=>hk.2) (.bool a0_2)) (fun _ hk=>hk.1),bS2 GE284.out GE285.out,b52_⟩
    ·rw[if_neg c28] at H
     exact absurd H (by simp)
   ·rw[if_neg c27] at H
    exact absurd H (by simp)

/-! ### spec_l15Meet: function 109 -/
def spec_l15Meet.j0:Nat→Bool→List Int→Int→Bool→Int→Int→Option (List Int × Int × Bool × Bool)
 | 0,_,_,_,_,_,_=>none
 | k+1,x36,x295000,x295001,x295002,x296000,x296001=>if x36=true then (some (([]:List Int),0,false,false)) else ((some (([]:List Int):List Int)).bind fun y297=>(if y297.length+x295000.length < 17592186044416 then ((some (y297++x295000:List Int)).bind fun y300=>(if 0≤x296000 then (if x296000 < (y300.length:Int) then (if 0≤x296001 then (if x296001 < (y300.length:Int) then (if (rd y300 x296000) ≥ (rd y300 x296001) then ((spec_l15Give.f y300 x295001 x295002 x296000 x296001).bind fun bt305=>(some (bt305.1,bt305.2.1,bt305.2.2,true))) else ((spec_l15Give.f y300 x295001 x295002 x296001 x296000).bind fun bt310=>(some (bt310.1,bt310.2.1,bt310.2.2,true)))) else (none)) else (none)) else (none)) else (none))) else (none)))
def spec_l15Meet.f (k:Nat) (l0_0:List Int) (a0_1:Int) (a0_2:Bool) (a1_0:Int) (a1_1:Int):Option (List Int × Int × Bool × Bool):=if a1_0 < 0 then (spec_l15Meet.j0 k true l0_0 a0_1 a0_2 a1_0 a1_1) else (if a1_0 ≥ (l0_0.length:Int) then (spec_l15Meet.j0 k true l0_0 a0_1 a0_2 a1_0 a1_1) else (if a1_1 < 0 then (spec_l15Meet.j0 k true l0_0 a0_1 a0_2 a1_0 a1_1) else (if a1_1 ≥ (l0_0.length:Int) then (spec_l15Meet.j0 k true l0_0 a0_1 a0_2 a1_0 a1_1) else (spec_l15Meet.j0 k (a1_0 == a1_1) l0_0 a0_1 a0_2 a1_0 a1_1))))
theorem spec_l15Meet.mono_l : ∀ k,(∀ y0 y1 y2 y3 y4 y5,LeO (spec_l15Meet.j0 k y0 y1 y2 y3 y4 y5) (spec_l15Meet.j0 (k+1) y0 y1 y2 y3 y4 y5))
 | 0=>fun _ _ _ _ _ _ r h=>by simp[spec_l15Meet.j0] at h
 | k+1=>by
  have ih0:=spec_l15Meet.mono_l k
  ·intro y0 y1 y2 y3 y4 y5
   unfold spec_l15Meet.j0
   repeat' first
   | (with_reducible exact ih0 _ _ _ _ _ _)
   | (with_reducible exact LeO.refl _)
   | (with_reducible exact LeO.none _)
   | (with_reducible refine LeO.ite ?_ ?_)
   | (with_reducible refine LeO.bind ?_ (fun _ => ?_))
theorem spec_l15Meet.mono : ∀ a0 a1 a2 a3 a4 k,LeO (spec_l15Meet.f k a0 a1 a2 a3 a4) (spec_l15Meet.f (k+1) a0 a1 a2 a3 a4):=by
 intro a0 a1 a2 a3 a4 k
 have ih0:=spec_l15Meet.mono_l k
 unfold spec_l15Meet.f
 repeat' first
  | (with_reducible exact ih0 _ _ _ _ _ _)
  | (with_reducible exact LeO.refl _)
  | (with_reducible exact LeO.none _)
  | (with_reducible refine LeO.ite ?_ ?_)
  | (with_reducible refine LeO.bind ?_ (fun _ => ?_))
set_option maxHeartbeats 8000000 in
set_option maxRecDepth 100000 in
theorem spec_l15Meet.calls (k:Nat) (A0_0:Option Addr) (c0_0:Nat) (l0_0:List Int) (a0_1:Int) (a0_2:Bool) (a1_0:Int) (a1_1:Int) (r1:List Int) (r2:Int) (r3:Bool) (r4:Bool) (w:World) (hr0_0:Kd.C (Kd.int .i64) w A0_0 l0_0.length l0_0) (hc0_0:l0_0.length≤c0_0) (h:spec_l15Meet.f k l0_0 a0_1 a0_2 a1_0 a1_1=some (r1,r2,r3,r4)) :
  Calls Try.prog 109 #[.agg #[.slice A0_0 l0_0.length c0_0,.int .i64 a0_1,.bool a0_2],.agg #[.int .i64 a1_0,.int .i64 a1_1]] w fun e w' => ∃ v0_:Value,e=.returned (.tuple #[.agg #[v0_,.int .i64 r2,.bool r3],.bool r4])∧Kd.R (Kd.int .i64) 3 w' w.heap.size (fun _=>True) v0_ r1∧Below w.heap.size w w':=by
 have hu62:=Try.underlying62
 have hu72:=Try.underlying72
 have HR0_0:=am hr0_0
 have HC0_0:=am hc0_0
 clear hr0_0 hc0_0
 have HB:=am (Below.refl w.heap.size w)
 have H:(if a1_0 < 0 then (spec_l15Meet.j0 k true l0_0 a0_1 a0_2 a1_0 a1_1) else (if a1_0 ≥ (l0_0.length:Int) then (spec_l15Meet.j0 k true l0_0 a0_1 a0_2 a1_0 a1_1) else (if a1_1 < 0 then (spec_l15Meet.j0 k true l0_0 a0_1 a0_2 a1_0 a1_1) else (if a1_1 ≥ (l0_0.length:Int) then (spec_l15Meet.j0 k true l0_0 a0_1 a0_2 a1_0 a1_1) else (spec_l15Meet.j0 k (a1_0 == a1_1) l0_0 a0_1 a0_2 a1_0 a1_1)))))=some (r1,r2,r3,r4):=h
 clear h
 have HC3:=am H
 clear H
 go_enter Try.func109,Try.ntmps109
 go_upto_region 2 with (first|((with_reducible refine gate_dst (N:=2) rfl ?_);refine box_event ?hg (N:=2) ?hd (cs:=#[.slice A0_0 l0_0.length c0_0,.int .i64 a0_1,.bool a0_2]) (t:=62) ?hr ?_;(case hd=>rfl);(case hg=>rfl);(case hr=>first|(go_simp;done)|(go_simp;rfl));intro gb294 hg w4 hbox hb;have n0_:=am (below_step (bB) hb);have n1_:=am (hbox);have n2_:=am ((bG:w.heap.size≤gb294));have n3_:=am ((bG:w.heap.size≤gb294));clear HB;have HB:=n0_;have BK294:=n1_;have GW294:=n2_;have GE294:=n3_;clear n0_ n1_ n2_ n3_;clear hb hbox hg)|((with_reducible refine gate_dst (N:=3) rfl ?_);refine box_event ?hg (N:=3) ?hd (cs:=#[.int .i64 a1_0,.int .i64 a1_1]) (t:=72) ?hr ?_;(case hd=>rfl);(case hg=>rfl);(case hr=>first|(go_simp;done)|(go_simp;rfl));intro gb295 hg w5 hbox hb;have n0_:=am (bM BK294.out hb);have n1_:=am (below_step (bS GE294.out) hb);have n2_:=am (hbox);have n3_:=am ((by rw[hg];exact(below_size (bS GE294.out)):w.heap.size≤gb295));have n4_:=am ((by rw[hg];exact(below_size (bS GE294.out)):w.heap.size≤gb295));have n5_:=am ((bN BK294.out hg:gb294≠gb295));have n6_:=am ((bO BK294.out hg:gb295≠gb294));clear BK294 HB;have BK294:=n0_;have HB:=n1_;have BK295:=n2_;have GW295:=n3_;have GE295:=n4_;have NB294_295:=n5_;have NB295_294:=n6_;clear n0_ n1_ n2_ n3_ n4_ n5_ n6_;clear hb hbox hg)|((with_reducible refine gate_dst (N:=4) rfl ?_);refine box_event ?hg (N:=4) ?hd (cs:=#[.slice none 0 0,.int .i64 0,.bool false]) (t:=62) ?hr ?_;(case hd=>rfl);(case hg=>rfl);(case hr=>first|(go_simp;done)|(go_simp;rfl));intro gb296 hg w6 hbox hb;have n0_:=am (bM BK294.out hb);have n1_:=am (bM BK295.out hb);have n2_:=am (below_step (bS2 GE294.out GE295.out) hb);have n3_:=am (hbox);have n4_:=am ((by rw[hg];exact(below_size (bS2 GE294.out GE295.out)):w.heap.size≤gb296));have n5_:=am ((by rw[hg];exact(below_size (bS2 GE294.out GE295.out)):w.heap.size≤gb296));have n6_:=am ((bN BK294.out hg:gb294≠gb296));have n7_:=am ((bO BK294.out hg:gb296≠gb294));have n8_:=am ((bN BK295.out hg:gb295≠gb296));have n9_:=am ((bO BK295.out hg:gb296≠gb295));clear BK294 BK295 HB;have BK294:=n0_;have BK295:=n1_;have HB:=n2_;have BK296:=n3_;have GW296:=n4_;have GE296:=n5_;have NB294_296:=n6_;have NB296_294:=n7_;have NB295_296:=n8_;have NB296_295:=n9_;clear n0_ n1_ n2_ n3_ n4_ n5_ n6_ n7_ n8_ n9_;clear hb hbox hg;have hnb7:=NB294_295.out;have hnc7:=NB295_294.out;have hnb8:=NB294_296.out;have hnc8:=NB296_294.out;obtain⟨hcz9_0,hcz9_1,hcz9_2⟩:=cC3 BK294.out;obtain⟨hfz9_0,hfz9_1,hfz9_2⟩:=cF3 BK294.out))
 repeat (go_quiet (first|((with_reducible refine gate_dst (N:=2) rfl ?_);refine box_event ?hg (N:=2) ?hd (cs:=#[.slice A0_0 l0_0.length c0_0,.int .i64 a0_1,.bool a0_2]) (t:=62) ?hr ?_;(case hd=>rfl);(case hg=>rfl);(case hr=>first|(go_simp;done)|(go_simp;rfl));intro gb294 hg w4 hbox hb;have n0_:=am (below_step (bB) hb);have n1_:=am (hbox);have n2_:=am ((bG:w.heap.size≤gb294));have n3_:=am ((bG:w.heap.size≤gb294));clear HB;have HB:=n0_;have BK294:=n1_;have GW294:=n2_;have GE294:=n3_;clear n0_ n1_ n2_ n3_;clear hb hbox hg)|((with_reducible refine gate_dst (N:=3) rfl ?_);refine box_event ?hg (N:=3) ?hd (cs:=#[.int .i64 a1_0,.int .i64 a1_1]) (t:=72) ?hr ?_;(case hd=>rfl);(case hg=>rfl);(case hr=>first|(go_simp;done)|(go_simp;rfl));intro gb295 hg w5 hbox hb;have n0_:=am (bM BK294.out hb);have n1_:=am (below_step (bS GE294.out) hb);have n2_:=am (hbox);have n3_:=am ((by rw[hg];exact(below_size (bS GE294.out)):w.heap.size≤gb295));have n4_:=am ((by rw[hg];exact(below_size (bS GE294.out)):w.heap.size≤gb295));have n5_:=am ((bN BK294.out hg:gb294≠gb295));have n6_:=am ((bO BK294.out hg:gb295≠gb294));clear BK294 HB;have BK294:=n0_;have HB:=n1_;have BK295:=n2_;have GW295:=n3_;have GE295:=n4_;have NB294_295:=n5_;have NB295_294:=n6_;clear n0_ n1_ n2_ n3_ n4_ n5_ n6_;clear hb hbox hg)|((with_reducible refine gate_dst (N:=4) rfl ?_);refine box_event ?hg (N:=4) ?hd (cs:=#[.slice none 0 0,.int .i64 0,.bool false]) (t:=62) ?hr ?_;(case hd=>rfl);(case hg=>rfl);(case hr=>first|(go_simp;done)|(go_simp;rfl));intro gb296 hg w6 hbox hb;have n0_:=am (bM BK294.out hb);have n1_:=am (bM BK295.out hb);have n2_:=am (below_step (bS2 GE294.out GE295.out) hb);have n3_:=am (hbox);have n4_:=am ((by rw[hg];exact(below_size (bS2 GE294.out GE295.out)):w.heap.size≤gb296));have n5_:=am ((by rw[hg];exact(below_size (bS2 GE294.out GE295.out)):w.heap.size≤gb296));have n6_:=am ((bN BK294.out hg:gb294≠gb296));have n7_:=am ((bO BK294.out hg:gb296≠gb294));have n8_:=am ((bN BK295.out hg:gb295≠gb296));have n9_:=am ((bO BK295.out hg:gb296≠gb295));clear BK294 BK295 HB;have BK294:=n0_;have BK295:=n1_;have HB:=n2_;have BK296:=n3_;have GW296:=n4_;have GE296:=n5_;have NB294_296:=n6_;have NB296_294:=n7_;have NB295_296:=n8_;have NB296_295:=n9_;clear n0_ n1_ n2_ n3_ n4_ n5_ n6_ n7_ n8_ n9_;clear hb hbox hg;have hnb7:=NB294_295.out;have hnc7:=NB295_294.out;have hnb8:=NB294_296.out;have hnc8:=NB296_294.out;obtain⟨hcz9_0,hcz9_1,hcz9_2⟩:=cC3 BK294.out;obtain⟨hfz9_0,hfz9_1,hfz9_2⟩:=cF3 BK294.out));go_upto_region 2 with (first|((with_reducible refine gate_dst (N:=2) rfl ?_);refine box_event ?hg (N:=2) ?hd (cs:=#[.slice A0_0 l0_0.length c0_0,.int .i64 a0_1,.bool a0_2]) (t:=62) ?hr ?_;(case hd=>rfl);(case hg=>rfl);(case hr=>first|(go_simp;done)|(go_simp;rfl));intro gb294 hg w4 hbox hb;have n0_:=am (below_step (bB) hb);have n1_:=am (hbox);have n2_:=am ((bG:w.heap.size≤gb294));have n3_:=am ((bG:w.heap.size≤gb294));clear HB;have HB:=n0_;have BK294:=n1_;have GW294:=n2_;have GE294:=n3_;clear n0_ n1_ n2_ n3_;clear hb hbox hg)|((with_reducible refine gate_dst (N:=3) rfl ?_);refine box_event ?hg (N:=3) ?hd (cs:=#[.int .i64 a1_0,.int .i64 a1_1]) (t:=72) ?hr ?_;(case hd=>rfl);(case hg=>rfl);(case hr=>first|(go_simp;done)|(go_simp;rfl));intro gb295 hg w5 hbox hb;have n0_:=am (bM BK294.out hb);have n1_:=am (below_step (bS GE294.out) hb);have n2_:=am (hbox);have n3_:=am ((by rw[hg];exact(below_size (bS GE294.out)):w.heap.size≤gb295));have n4_:=am ((by rw[hg];exact(below_size (bS GE294.out)):w.heap.size≤gb295));have n5_:=am ((bN BK294.out hg:gb294≠gb295));have n6_:=am ((bO BK294.out hg:gb295≠gb294));clear BK294 HB;have BK294:=n0_;have HB:=n1_;have BK295:=n2_;have GW295:=n3_;have GE295:=n4_;have NB294_295:=n5_;have NB295_294:=n6_;clear n0_ n1_ n2_ n3_ n4_ n5_ n6_;clear hb hbox hg)|((with_reducible refine gate_dst (N:=4) rfl ?_);refine box_event ?hg (N:=4) ?hd (cs:=#[.slice none 0 0,.int .i64 0,.bool false]) (t:=62) ?hr ?_;(case hd=>rfl);(case hg=>rfl);(case hr=>first|(go_simp;done)|(go_simp;rfl));intro gb296 hg w6 hbox hb;have n0_:=am (bM BK294.out hb);have n1_:=am (bM BK295.out hb);have n2_:=am (below_step (bS2 GE294.out GE295.out) hb);have n3_:=am (hbox);have n4_:=am ((by rw[hg];exact(below_size (bS2 GE294.out GE295.out)):w.heap.size≤gb296));have n5_:=am ((by rw[hg];exact(below_size (bS2 GE294.out GE295.out)):w.heap.size≤gb296));have n6_:=am ((bN BK294.out hg:gb294≠gb296));have n7_:=am ((bO BK294.out hg:gb296≠gb294));have n8_:=am ((bN BK295.out hg:gb295≠gb296));have n9_:=am ((bO BK295.out hg:gb296≠gb295));clear BK294 BK295 HB;have BK294:=n0_;have BK295:=n1_;have HB:=n2_;have BK296:=n3_;have GW296:=n4_;have GE296:=n5_;have NB294_296:=n6_;have NB296_294:=n7_;have NB295_296:=n8_;have NB296_295:=n9_;clear n0_ n1_ n2_ n3_ n4_ n5_ n6_ n7_ n8_ n9_;clear hb hbox hg;have hnb7:=NB294_295.out;have hnc7:=NB295_294.out;have hnb8:=NB294_296.out;have hnc8:=NB296_294.out;obtain⟨hcz9_0,hcz9_1,hcz9_2⟩:=cC3 BK294.out;obtain⟨hfz9_0,hfz9_1,hfz9_2⟩:=cF3 BK294.out)))
 (try simp only[Act.put,zA,zB,zC])
 go_cut [36] (fun v36 wc => ∃ (kq:Nat) (x36_2:Bool),v36=.bool x36_2∧Aside0 (spec_l15Meet.j0 kq x36_2 l0_0 a0_1 a0_2 a1_0 a1_1=some (r1,r2,r3,r4))∧Aside0 (kq≤k)∧Aside0 (wc.heap[gb294]?=some (.cells #[(.slice A0_0 l0_0.length c0_0),.int .i64 a0_1,.bool a0_2] 62 (0,0)))∧Aside0 (wc.heap[gb295]?=some (.cells #[.int .i64 a1_0,.int .i64 a1_1] 72 (0,0)))∧Aside0 (wc.heap[gb296]?=some (.cells #[(.slice none 0 0),.int .i64 0,.bool false] 62 (0,0)))∧Aside0 (Below w.heap.size w wc))
 case first =>
  have H:=HC3.out
  clear HC3
  by_cases c10:a1_0 < 0
  ·rw[if_pos c10] at H
   have c10b0:decide (a1_0 < 0)=true:=decide_eq_true c10
   clear c10
   (first|rw[c10b0]|(simp only[i64_w,i32_w];rw[c10b0])|skip)
   have H':=am H
   clear H
   have hnb11:=NB295_294.out
   have hnc11:=NB294_295.out
   have hnb12:=NB295_296.out
   have hnc12:=NB296_295.out
   obtain⟨hcz13_0,hcz13_1⟩:=cC2 BK295.out
   obtain⟨hfz13_0,hfz13_1⟩:=cF2 BK295.out
   go_wp2
   repeat (go_quiet (fail);try go_wp2)
   go_meet
   case rel=>exact⟨_,(true),(bR),H',⟨by first|omega|exact Nat.le_refl _⟩,⟨by(with_reducible repeat (first|refine blk_drewN ?_ _|refine blk_drew ?_|refine blk_alloc ?_ _));exact BK294.out⟩,⟨by(with_reducible repeat (first|refine blk_drewN ?_ _|refine blk_drew ?_|refine blk_alloc ?_ _));exact BK295.out⟩,⟨by(with_reducible repeat (first|refine blk_drewN ?_ _|refine blk_drew ?_|refine blk_alloc ?_ _));exact BK296.out⟩,⟨bS3 GE294.out GE295.out GE296.out⟩⟩
  ·rw[if_neg c10] at H
   have c10b0:decide (a1_0 < 0)=false:=decide_eq_false c10
   clear c10
   (first|rw[c10b0]|(simp only[i64_w,i32_w];rw[c10b0])|skip)
   by_cases c14:a1_0 ≥ (l0_0.length:Int)
   ·rw[if_pos c14] at H
    have c14b0:decide ((l0_0.length:Int)≤a1_0)=true:=decide_eq_true c14
    clear c14
    have H':=am H
    clear H
    have hnb15:=NB295_294.out
    have hnc15:=NB294_295.out
    have hnb16:=NB295_296.out
    have hnc16:=NB296_295.out
    obtain⟨hcz17_0,hcz17_1⟩:=cC2 BK295.out
    obtain⟨hfz17_0,hfz17_1⟩:=cF2 BK295.out
    go_wp2
    repeat (go_quiet (fail);try go_wp2)
    go_meet
    case rel=>exact⟨_,(true),(bR),H',⟨by first|omega|exact Nat.le_refl _⟩,⟨by(with_reducible repeat (first|refine blk_drewN ?_ _|refine blk_drew ?_|refine blk_alloc ?_ _));exact BK294.out⟩,⟨by(with_reducible repeat (first|refine blk_drewN ?_ _|refine blk_drew ?_|refine blk_alloc ?_ _));exact BK295.out⟩,⟨by(with_reducible repeat (first|refine blk_drewN ?_ _|refine blk_drew ?_|refine blk_alloc ?_ _));exact BK296.out⟩,⟨bS3 GE294.out GE295.out GE296.out⟩⟩
   ·rw[if_neg c14] at H
    have c14b0:decide ((l0_0.length:Int)≤a1_0)=false:=decide_eq_false c14
    clear c14
    by_cases c18:a1_1 < 0
    ·rw[if_pos c18] at H
     have c18b0:decide (a1_1 < 0)=true:=decide_eq_true c18
     clear c18
     have H':=am H
     clear H
     have hnb19:=NB295_294.out
     have hnc19:=NB294_295.out
     have hnb20:=NB295_296.out
     have hnc20:=NB296_295.out
     obtain⟨hcz21_0,hcz21_1⟩:=cC2 BK295.out
     obtain⟨hfz21_0,hfz21_1⟩:=cF2 BK295.out
     go_wp2
     repeat (go_quiet (fail);try go_wp2)
     go_meet
     case rel=>exact⟨_,(true),(bR),H',⟨by first|omega|exact Nat.le_refl _⟩,⟨by(with_reducible repeat (first|refine blk_drewN ?_ _|refine blk_drew ?_|refine blk_alloc ?_ _));exact BK294.out⟩,⟨by(with_reducible repeat (first|refine blk_drewN ?_ _|refine blk_drew ?_|refine blk_alloc ?_ _));exact BK295.out⟩,⟨by(with_reducible repeat (first|refine blk_drewN ?_ _|refine blk_drew ?_|refine blk_alloc ?_ _));exact BK296.out⟩,⟨bS3 GE294.out GE295.out GE296.out⟩⟩
    ·rw[if_neg c18] at H
     have c18b0:decide (a1_1 < 0)=false:=decide_eq_false c18
     clear c18
     by_cases c22:a1_1 ≥ (l0_0.length:Int)
     ·rw[if_pos c22] at H
      have c22b0:decide ((l0_0.length:Int)≤a1_1)=true:=decide_eq_true c22
      clear c22
      have H':=am H
      clear H
      have hnb23:=NB295_294.out
      have hnc23:=NB294_295.out
      have hnb24:=NB295_296.out
      have hnc24:=NB296_295.out
      obtain⟨hcz25_0,hcz25_1⟩:=cC2 BK295.out
      obtain⟨hfz25_0,hfz25_1⟩:=cF2 BK295.out
      go_wp2
      repeat (go_quiet (fail);try go_wp2)
      go_meet
      case rel=>exact⟨_,(true),(bR),H',⟨by first|omega|exact Nat.le_refl _⟩,⟨by(with_reducible repeat (first|refine blk_drewN ?_ _|refine blk_drew ?_|refine blk_alloc ?_ _));exact BK294.out⟩,⟨by(with_reducible repeat (first|refine blk_drewN ?_ _|refine blk_drew ?_|refine blk_alloc ?_ _));exact BK295.out⟩,⟨by(with_reducible repeat (first|refine blk_drewN ?_ _|refine blk_drew ?_|refine blk_alloc ?_ _));exact BK296.out⟩,⟨bS3 GE294.out GE295.out GE296.out⟩⟩
     ·rw[if_neg c22] at H
      have c22b0:decide ((l0_0.length:Int)≤a1_1)=false:=decide_eq_false c22
      clear c22
      have H':=am H
      clear H
      have hnb26:=NB295_294.out
      have hnc26:=NB294_295.out
      have hnb27:=NB295_296.out
      have hnc27:=NB296_295.out
      obtain⟨hcz28_0,hcz28_1⟩:=cC2 BK295.out
      obtain⟨hfz28_0,hfz28_1⟩:=cF2 BK295.out
      go_wp2
      repeat (go_quiet (fail);try go_wp2)
      go_meet
      case rel=>exact⟨_,((a1_0 == a1_1)),(bR),H',⟨by first|omega|exact Nat.le_refl _⟩,⟨by(with_reducible repeat (first|refine blk_drewN ?_ _|refine blk_drew ?_|refine blk_alloc ?_ _));exact BK294.out⟩,⟨by(with_reducible repeat (first|refine blk_drewN ?_ _|refine blk_drew ?_|refine blk_alloc ?_ _));exact BK295.out⟩,⟨by(with_reducible repeat (first|refine blk_drewN ?_ _|refine blk_drew ?_|refine blk_alloc ?_ _));exact BK296.out⟩,⟨bS3 GE294.out GE295.out GE296.out⟩⟩
 case rest =>
  clear HC3
  try clear c1
  try clear c2
  try clear p2
  try clear c7
  try clear c8
  try clear c10
  try clear c10b0
  try clear c11
  try clear c12
  try clear c14
  try clear c14b0
  try clear c15
  try clear c16
  try clear c18
  try clear c18b0
  try clear c19
  try clear c20
  try clear c22
  try clear c22b0
  try clear c23
  try clear c24
  try clear c26
  try clear c27
  try clear hcz13_0 hcz13_1
  try clear hcz17_0 hcz17_1
  try clear hcz21_0 hcz21_1
  try clear hcz25_0 hcz25_1
  try clear hcz28_0 hcz28_1
  try clear hcz9_0 hcz9_1 hcz9_2
  try clear hfz13_0 hfz13_1
  try clear hfz17_0 hfz17_1
  try clear hfz21_0 hfz21_1
  try clear hfz25_0 hfz25_1
  try clear hfz28_0 hfz28_1
  try clear hfz9_0 hfz9_1 hfz9_2
  obtain⟨kq,x36_2,rfl,HA,HJ2,BK294,BK295,BK296,HB⟩:=hcut
  cases kq with
  | zero=>exact absurd HA.out (by simp[spec_l15Meet.j0])
  | succ kj2 =>
   have H:=HA.out
   clear HA
   simp only[spec_l15Meet.j0] at H
   by_cases c29:x36_2=true
   ·subst c29
    have H1:(some (([]:List Int),0,false,false))=some (r1,r2,r3,r4):=by rw[if_pos rfl] at H;exact H
    clear H
    have H:=H1
    clear H1
    simp only[Option.some.injEq,Prod.mk.injEq] at H
    obtain⟨rfl,rfl,rfl,rfl⟩:=H
    have hnb30:=NB296_294.out
    have hnc30:=NB294_296.out
    have hnb31:=NB296_295.out
    have hnc31:=NB295_296.out
    obtain⟨hcz32_0,hcz32_1,hcz32_2⟩:=cC3 BK296.out
    obtain⟨hfz32_0,hfz32_1,hfz32_2⟩:=cF3 BK296.out
    go_wp2
    repeat (go_quiet (fail);try go_wp2)
    refine bodyPost_ret (results_ct rfl _ _ gb296 62 #[.slice none 0 0,.int .i64 0,.bool false] (0,0) _ rfl (by(with_reducible repeat (first|refine blk_drewN ?_ _|refine blk_drew ?_|refine blk_alloc ?_ _));apply bU3;(with_reducible repeat (first|refine blk_drewN ?_ _|refine blk_drew ?_|refine blk_alloc ?_ _));exact BK296.out) Try.underlying62 rfl (b4_)) rfl ?_
    exact⟨_,by first|rfl|(simp[errW_none,errW_some]<;>rfl)|(simp[*,errW_none,errW_some]<;>rfl),by first|exact Kd.R_nil _ _ _ _ _|exact Kd.N_nil _ _ _ _ _|exact Kd.V_nil _ _ _ _ _|exact Kd.Q_nil _ _ _ _ _|exact Kd.S_nil _ _ _ _ _,bS3 GE294.out GE295.out GE296.out⟩
   ·replace c29:=Bool.eq_false_iff.mpr c29
    subst c29
    have H1:((some (([]:List Int):List Int)).bind fun y297=>(if y297.length+l0_0.length < 17592186044416 then ((some (y297++l0_0:List Int)).bind fun y300=>(if 0≤a1_0 then (if a1_0 < (y300.length:Int) then (if 0≤a1_1 then (if a1_1 < (y300.length:Int) then (if (rd y300 a1_0) ≥ (rd y300 a1_1) then ((spec_l15Give.f y300 a0_1 a0_2 a1_0 a1_1).bind fun bt305=>(some (bt305.1,bt305.2.1,bt305.2.2,true))) else ((spec_l15Give.f y300 a0_1 a0_2 a1_1 a1_0).bind fun bt310=>(some (bt310.1,bt310.2.1,bt310.2.2,true)))) else (none)) else (none)) else (none)) else (none))) else (none)))=some (r1,r2,r3,r4):=by rw[if_neg (show ¬ (false=true) by decide)] at H;exact H
    clear H
    have H:=H1
    clear H1
    obtain⟨y297,hy297⟩ : ∃ y_:List Int,y_=(([]:List Int)):=⟨_,rfl⟩
    replace H:(if y297.length+l0_0.length < 17592186044416 then ((some (y297++l0_0:List Int)).bind fun y300=>(if 0≤a1_0 then (if a1_0 < (y300.length:Int) then (if 0≤a1_1 then (if a1_1 < (y300.length:Int) then (if (rd y300 a1_0) ≥ (rd y300 a1_1) then ((spec_l15Give.f y300 a0_1 a0_2 a1_0 a1_1).bind fun bt305=>(some (bt305.1,bt305.2.1,bt305.2.2,true))) else ((spec_l15Give.f y300 a0_1 a0_2 a1_1 a1_0).bind fun bt310=>(some (bt310.1,bt310.2.1,bt310.2.2,true)))) else (none)) else (none)) else (none)) else (none))) else (none))=some (r1,r2,r3,r4):=by first|(rw[hy297];with_reducible exact H)|(have H2_:=(Option.bind_some _ _).symm.trans H;rw[hy297];with_reducible exact H2_)|(have H2_:=(Option.bind_some _ _).symm.trans H;with_reducible exact H2_)|with_reducible exact H|(rw[hy297];exact H)|exact H
    have Ny297:=am hy297
    clear hy297
    by_cases c33:y297.length+l0_0.length < 17592186044416
    ·rw[if_pos c33] at H
     have LMc33:=am c33
     clear c33
     obtain⟨y300,hy300⟩ : ∃ y_:List Int,y_=(y297++l0_0):=⟨_,rfl⟩
     replace H:(if 0≤a1_0 then (if a1_0 < (y300.length:Int) then (if 0≤a1_1 then (if a1_1 < (y300.length:Int) then (if (rd y300 a1_0) ≥ (rd y300 a1_1) then ((spec_l15Give.f y300 a0_1 a0_2 a1_0 a1_1).bind fun bt305=>(some (bt305.1,bt305.2.1,bt305.2.2,true))) else ((spec_l15Give.f y300 a0_1 a0_2 a1_1 a1_0).bind fun bt310=>(some (bt310.1,bt310.2.1,bt310.2.2,true)))) else (none)) else (none)) else (none)) else (none))=some (r1,r2,r3,r4):=by first|(rw[hy300];with_reducible exact H)|(have H2_:=(Option.bind_some _ _).symm.trans H;rw[hy300];with_reducible exact H2_)|(have H2_:=(Option.bind_some _ _).symm.trans H;with_reducible exact H2_)|with_reducible exact H|(rw[hy300];exact H)|exact H
     have Ny300:=am hy300
     clear hy300
     by_cases c34:0≤a1_0
     ·rw[if_pos c34] at H
      have c34b0:decide (0≤a1_0)=true:=decide_eq_true c34
      clear c34
      by_cases c35:a1_0 < (y300.length:Int)
      ·rw[if_pos c35] at H
       have c35b0:decide (a1_0 < (y300.length:Int))=true:=decide_eq_true c35
       clear c35
       by_cases c36:0≤a1_1
       ·rw[if_pos c36] at H
        have c36b0:decide (0≤a1_1)=true:=decide_eq_true c36
        clear c36
        by_cases c37:a1_1 < (y300.length:Int)
        ·rw[if_pos c37] at H
         have c37b0:decide (a1_1 < (y300.length:Int))=true:=decide_eq_true c37
         clear c37
         by_cases c38:(rd y300 a1_0) ≥ (rd y300 a1_1)
         ·rw[if_pos c38] at H
          have c38b0:decide ((rd y300 a1_1)≤(rd y300 a1_0))=true:=decide_eq_true c38
          clear c38
          replace H:=bI_ H
          obtain⟨⟨t305,t308,t309⟩,A390,H⟩:=H
          replace H:(some (t305,t308,t309,true))=some (r1,r2,r3,r4):=H
          have A39:=am A390
          clear A390
          simp only[Option.some.injEq,Prod.mk.injEq] at H
          obtain⟨rfl,rfl,rfl,rfl⟩:=H
          go_wp2_with (first|((with_reducible refine gate_dst (N:=38) rfl ?_);refine Kd.R_lit (Kd.int .i64) _ 3 ?hg (N:=38) ?hd (xs:=([]:List Int)) (inner:=[]) (ok:=fun _=>True) (okp:=fun _=>True) ?hr ?hp (fun _ hk=>hk) trivial (Below.refl _ _) (Nat.le_refl _) (by simp) ?_;(case hd=>rfl);(case hg=>rfl);(case hr=>first|(go_simp;done)|(go_simp;rfl));(case hp=>exact(Reps.none _ _));intro v298 w40 ho41 hb hg_ hnew_;clear hg_ hnew_;(first|rw[← Ny297.out] at ho41|(simp only[Int.reduceToNat] at ho41;rw[← Ny297.out] at ho41));have n0_:=am (Kd.R_lower ho41 (below_size (bS3 GE294.out GE295.out GE296.out)));have n1_:=am (bM BK294.out hb);have n2_:=am (bM BK295.out hb);have n3_:=am (bM BK296.out hb);have n4_:=am (below_step (bS3 GE294.out GE295.out GE296.out) hb);clear BK294 BK295 BK296 HB;have HO299:=n0_;have BK294:=n1_;have BK295:=n2_;have BK296:=n3_;have HB:=n4_;clear n0_ n1_ n2_ n3_ n4_;clear hb ho41;have hnb42:=NB294_295.out;have hnc42:=NB295_294.out;have hnb43:=NB294_296.out;have hnc43:=NB296_294.out;obtain⟨hcz44_0,hcz44_1,hcz44_2⟩:=cC3 BK294.out;obtain⟨hfz44_0,hfz44_1,hfz44_2⟩:=cF3 BK294.out)|((with_reducible refine gate_builtin (b:=.append) (xs:=#[.tmp 38,.tmp 40]) rfl ?_);at_builtin;refine Kd.R_append_rows (Kd.int .i64) (w0:=w) w.heap.size rfl (.tmp 38) (.tmp 40) 37 3 (.int .i64 0) 8 rfl Try.underlying37 info3 rfl (b17_) (by omega) v298 y297 l0_0 _ _ _ (fun _=>True) (fun _=>False) rfl rfl ?aO ?aR (fun _ _ h=>h) (fun _ h=>h.elim) ?aF ?aB ?aS ?aL ?_;(case aR=>exact bC HR0_0.out);(case aB=>exact(bS3 GE294.out GE295.out GE296.out));(case aF=>exact(fun _ _=>trivial));(case aO=>exact(bK HO299.out));(case aS=>exact(below_size (bS3 GE294.out GE295.out GE296.out)));(case aL=>have:=LMc33.out;omega);intro v301 w45 ho hb hg hat;rw[← Ny300.out] at ho;have n0_:=am (blk_grown (g:=gb294) (o:=.cells #[.slice A0_0 l0_0.length c0_0,.int .i64 a0_1,.bool a0_2] 62 (0,0)) (bL BK294.out) hg (Kd.R_ne HO299.out BK294.out (b17_)));have n1_:=am (blk_grown (g:=gb295) (o:=.cells #[.int .i64 a1_0,.int .i64 a1_1] 72 (0,0)) (bL BK295.out) hg (Kd.R_ne HO299.out BK295.out (b17_)));have n2_:=am (blk_grown (g:=gb296) (o:=.cells #[.slice none 0 0,.int .i64 0,.bool false] 62 (0,0)) (bL BK296.out) hg (Kd.R_ne HO299.out BK296.out (b17_)));have n3_:=am (hb);have n4_:=am (ho);clear BK294 BK295 BK296 HB HO299;have BK294:=n0_;have BK295:=n1_;have BK296:=n2_;have HB:=n3_;have HO302:=n4_;clear n0_ n1_ n2_ n3_ n4_;clear ho hb hg hat;obtain⟨Ao46,co46,eo46⟩:=Kd.R_slice HO302.out;subst eo46;obtain⟨hcz47_0,hcz47_1,hcz47_2⟩:=cC3 BK294.out;obtain⟨hfz47_0,hfz47_1,hfz47_2⟩:=cF3 BK294.out)|((with_reducible refine gate_store (t:=37) (p:=42) rfl ?_);(try (rw[drewN_self w45];generalize hq_:World.drewN w45 _=w45;have n0_:=am (Kd.R_at hq_ HO302.out);have n1_:=am (blk_at hq_ BK294.out);have n2_:=am (blk_at hq_ BK295.out);have n3_:=am (blk_at hq_ BK296.out);have n4_:=am (below_at hq_ HB.out);clear hq_ HO302 BK294 BK295 BK296 HB;have HO302:=n0_;have BK294:=n1_;have BK295:=n2_;have BK296:=n3_;have HB:=n4_;clear n0_ n1_ n2_ n3_ n4_));refine store_event (t:=37) (p:=42) (v:=?vo_w48) (w1:=(w45.setCell ⟨gb294,0,none⟩ (.slice Ao46 y300.length co46))) ?hg ?ho ?hn ?hr ?_;(case ho=>rfl);(case hg=>rfl);(case hn=>rfl);(case hr=>first|(go_simp;done)|(go_simp;rfl));intro w48 hw;have n0_:Aside0 (Kd.R (Kd.int .i64) 3 w48 w.heap.size (fun _=>True) (.slice Ao46 y300.length co46) y300):=⟨(b32_)⟩;have n1_:Aside0 (w48.heap[gb294]?=some (.cells #[.slice Ao46 y300.length co46,.int .i64 a0_1,.bool a0_2] 62 (0,0))):=⟨(b6_)⟩;have n2_:Aside0 (w48.heap[gb295]?=some (.cells #[.int .i64 a1_0,.int .i64 a1_1] 72 (0,0))):=⟨(b10_)⟩;have n3_:Aside0 (w48.heap[gb296]?=some (.cells #[.slice none 0 0,.int .i64 0,.bool false] 62 (0,0))):=⟨(b11_)⟩;have n4_:Aside0 (Below w.heap.size w w48):=⟨(by rw[hw];exact(bS3 GE294.out GE295.out GE296.out))⟩;clear hw HO302 BK294 BK295 BK296 HB;have HO302:=n0_;have BK294:=n1_;have BK295:=n2_;have BK296:=n3_;have HB:=n4_;clear n0_ n1_ n2_ n3_ n4_;obtain⟨hcz49_0,hcz49_1,hcz49_2⟩:=cC3 BK294.out;obtain⟨hfz49_0,hfz49_1,hfz49_2⟩:=cF3 BK294.out;have hnb50:=NB295_296.out;have hnc50:=NB296_295.out;obtain⟨hcz51_0,hcz51_1⟩:=cC2 BK295.out;obtain⟨hfz51_0,hfz51_1⟩:=cF2 BK295.out;have p303:0≤(a1_0:Int):=bD_;have q303:a1_0 < (y300.length:Int):=bD_;obtain⟨ad303,e303,hx303_0⟩:=Kd.at_int (Kd.R_reads' HO302.out).2.2 a1_0 p303 q303;cases e303;replace p303:=eq_true p303;replace q303:=eq_true q303;have p304:0≤(a1_1:Int):=bD_;have q304:a1_1 < (y300.length:Int):=bD_;obtain⟨ad304,e304,hx304_0⟩:=Kd.at_int (Kd.R_reads' HO302.out).2.2 a1_1 p304 q304;obtain rfl:ad303=ad304:=(by injection e304);replace p304:=eq_true p304;replace q304:=eq_true q304)|(go_at_call 155;(with_reducible refine(spec_l15Give.calls (fun k_=>some k_=(.slice (some ad303) y300.length co46:Value).ownBlock) (.slice (some ad303) y300.length co46) y300 a0_1 a0_2 a1_0 a1_1 t305 t308 t309 w _ ?side1 ?side2 A39.out).mono ?_);(case side1=>exact b46_);(case side2=>exact Kd.R_tight rfl HO302.out);rintro e w52 ⟨v306,rfl,ho0,hb,hkp⟩;have n0_:=am (blk_kept (bL BK294.out) hkp (fun hs_=>(fun e_=>(Kd.R_ne HO302.out BK294.out (b17_)) e_) hs_));have n1_:=am (blk_kept (bL BK295.out) hkp (fun hs_=>(fun e_=>(Kd.R_ne HO302.out BK295.out (b17_)) e_) hs_));have n2_:=am (blk_kept (bL BK296.out) hkp (fun hs_=>(fun e_=>(Kd.R_ne HO302.out BK296.out (b17_)) e_) hs_));have n3_:=am (Kd.R_mono (ok':=fun k_=>True) ho0 (fun k_ hk_=>trivial));have n4_:=am (hb);clear BK294 BK295 BK296 HB HO302;have BK294:=n0_;have BK295:=n1_;have BK296:=n2_;have HO307:=n3_;have HB:=n4_;clear n0_ n1_ n2_ n3_ n4_;(try clear hb);(try clear hkp);(try clear ho0);obtain⟨Ao53,co53,eo53⟩:=Kd.R_slice HO307.out;subst eo53;obtain⟨hcz54_0,hcz54_1,hcz54_2⟩:=cC3 BK296.out;obtain⟨hfz54_0,hfz54_1,hfz54_2⟩:=cF3 BK296.out))
          repeat (go_quiet (first|((with_reducible refine gate_dst (N:=38) rfl ?_);refine Kd.R_lit (Kd.int .i64) _ 3 ?hg (N:=38) ?hd (xs:=([]:List Int)) (inner:=[]) (ok:=fun _=>True) (okp:=fun _=>True) ?hr ?hp (fun _ hk=>hk) trivial (Below.refl _ _) (Nat.le_refl _) (by simp) ?_;(case hd=>rfl);(case hg=>rfl);(case hr=>first|(go_simp;done)|(go_simp;rfl));(case hp=>exact(Reps.none _ _));intro v298 w40 ho41 hb hg_ hnew_;clear hg_ hnew_;(first|rw[← Ny297.out] at ho41|(simp only[Int.reduceToNat] at ho41;rw[← Ny297.out] at ho41));have n0_:=am (Kd.R_lower ho41 (below_size (bS3 GE294.out GE295.out GE296.out)));have n1_:=am (bM BK294.out hb);have n2_:=am (bM BK295.out hb);have n3_:=am (bM BK296.out hb);have n4_:=am (below_step (bS3 GE294.out GE295.out GE296.out) hb);clear BK294 BK295 BK296 HB;have HO299:=n0_;have BK294:=n1_;have BK295:=n2_;have BK296:=n3_;have HB:=n4_;clear n0_ n1_ n2_ n3_ n4_;clear hb ho41;have hnb42:=NB294_295.out;have hnc42:=NB295_294.out;have hnb43:=NB294_296.out;have hnc43:=NB296_294.out;obtain⟨hcz44_0,hcz44_1,hcz44_2⟩:=cC3 BK294.out;obtain⟨hfz44_0,hfz44_1,hfz44_2⟩:=cF3 BK294.out)|((with_reducible refine gate_builtin (b:=.append) (xs:=#[.tmp 38,.tmp 40]) rfl ?_);at_builtin;refine Kd.R_append_rows (Kd.int .i64) (w0:=w) w.heap.size rfl (.tmp 38) (.tmp 40) 37 3 (.int .i64 0) 8 rfl Try.underlying37 info3 rfl (b17_) (by omega) v298 y297 l0_0 _ _ _ (fun _=>True) (fun _=>False) rfl rfl ?aO ?aR (fun _ _ h=>h) (fun _ h=>h.elim) ?aF ?aB ?aS ?aL ?_;(case aR=>exact bC HR0_0.out);(case aB=>exact(bS3 GE294.out GE295.out GE296.out));(case aF=>exact(fun _ _=>trivial));(case aO=>exact(bK HO299.out));(case aS=>exact(below_size (bS3 GE294.out GE295.out GE296.out)));(case aL=>have:=LMc33.out;omega);intro v301 w45 ho hb hg hat;rw[← Ny300.out] at ho;have n0_:=am (blk_grown (g:=gb294) (o:=.cells #[.slice A0_0 l0_0.length c0_0,.int .i64 a0_1,.bool a0_2] 62 (0,0)) (bL BK294.out) hg (Kd.R_ne HO299.out BK294.out (b17_)));have n1_:=am (blk_grown (g:=gb295) (o:=.cells #[.int .i64 a1_0,.int .i64 a1_1] 72 (0,0)) (bL BK295.out) hg (Kd.R_ne HO299.out BK295.out (b17_)));have n2_:=am (blk_grown (g:=gb296) (o:=.cells #[.slice none 0 0,.int .i64 0,.bool false] 62 (0,0)) (bL BK296.out) hg (Kd.R_ne HO299.out BK296.out (b17_)));have n3_:=am (hb);have n4_:=am (ho);clear BK294 BK295 BK296 HB HO299;have BK294:=n0_;have BK295:=n1_;have BK296:=n2_;have HB:=n3_;have HO302:=n4_;clear n0_ n1_ n2_ n3_ n4_;clear ho hb hg hat;obtain⟨Ao46,co46,eo46⟩:=Kd.R_slice HO302.out;subst eo46;obtain⟨hcz47_0,hcz47_1,hcz47_2⟩:=cC3 BK294.out;obtain⟨hfz47_0,hfz47_1,hfz47_2⟩:=cF3 BK294.out)|((with_reducible refine gate_store (t:=37) (p:=42) rfl ?_);(try (rw[drewN_self w45];generalize hq_:World.drewN w45 _=w45;have n0_:=am (Kd.R_at hq_ HO302.out);have n1_:=am (blk_at hq_ BK294.out);have n2_:=am (blk_at hq_ BK295.out);have n3_:=am (blk_at hq_ BK296.out);have n4_:=am (below_at hq_ HB.out);clear hq_ HO302 BK294 BK295 BK296 HB;have HO302:=n0_;have BK294:=n1_;have BK295:=n2_;have BK296:=n3_;have HB:=n4_;clear n0_ n1_ n2_ n3_ n4_));refine store_event (t:=37) (p:=42) (v:=?vo_w48) (w1:=(w45.setCell ⟨gb294,0,none⟩ (.slice Ao46 y300.length co46))) ?hg ?ho ?hn ?hr ?_;(case ho=>rfl);(case hg=>rfl);(case hn=>rfl);(case hr=>first|(go_simp;done)|(go_simp;rfl));intro w48 hw;have n0_:Aside0 (Kd.R (Kd.int .i64) 3 w48 w.heap.size (fun _=>True) (.slice Ao46 y300.length co46) y300):=⟨(b32_)⟩;have n1_:Aside0 (w48.heap[gb294]?=some (.cells #[.slice Ao46 y300.length co46,.int .i64 a0_1,.bool a0_2] 62 (0,0))):=⟨(b6_)⟩;have n2_:Aside0 (w48.heap[gb295]?=some (.cells #[.int .i64 a1_0,.int .i64 a1_1] 72 (0,0))):=⟨(b10_)⟩;have n3_:Aside0 (w48.heap[gb296]?=some (.cells #[.slice none 0 0,.int .i64 0,.bool false] 62 (0,0))):=⟨(b11_)⟩;have n4_:Aside0 (Below w.heap.size w w48):=⟨(by rw[hw];exact(bS3 GE294.out GE295.out GE296.out))⟩;clear hw HO302 BK294 BK295 BK296 HB;have HO302:=n0_;have BK294:=n1_;have BK295:=n2_;have BK296:=n3_;have HB:=n4_;clear n0_ n1_ n2_ n3_ n4_;obtain⟨hcz49_0,hcz49_1,hcz49_2⟩:=cC3 BK294.out;obtain⟨hfz49_0,hfz49_1,hfz49_2⟩:=cF3 BK294.out;have hnb50:=NB295_296.out;have hnc50:=NB296_295.out;obtain⟨hcz51_0,hcz51_1⟩:=cC2 BK295.out;obtain⟨hfz51_0,hfz51_1⟩:=cF2 BK295.out;have p303:0≤(a1_0:Int):=bD_;have q303:a1_0 < (y300.length:Int):=bD_;obtain⟨ad303,e303,hx303_0⟩:=Kd.at_int (Kd.R_reads' HO302.out).2.2 a1_0 p303 q303;cases e303;replace p303:=eq_true p303;replace q303:=eq_true q303;have p304:0≤(a1_1:Int):=bD_;have q304:a1_1 < (y300.length:Int):=bD_;obtain⟨ad304,e304,hx304_0⟩:=Kd.at_int (Kd.R_reads' HO302.out).2.2 a1_1 p304 q304;obtain rfl:ad303=ad304:=(by injection e304);replace p304:=eq_true p304;replace q304:=eq_true q304)|(go_at_call 155;(with_reducible refine(spec_l15Give.calls (fun k_=>some k_=(.slice (some ad303) y300.length co46:Value).ownBlock) (.slice (some ad303) y300.length co46) y300 a0_1 a0_2 a1_0 a1_1 t305 t308 t309 w _ ?side1 ?side2 A39.out).mono ?_);(case side1=>exact b46_);(case side2=>exact Kd.R_tight rfl HO302.out);rintro e w52 ⟨v306,rfl,ho0,hb,hkp⟩;have n0_:=am (blk_kept (bL BK294.out) hkp (fun hs_=>(fun e_=>(Kd.R_ne HO302.out BK294.out (b17_)) e_) hs_));have n1_:=am (blk_kept (bL BK295.out) hkp (fun hs_=>(fun e_=>(Kd.R_ne HO302.out BK295.out (b17_)) e_) hs_));have n2_:=am (blk_kept (bL BK296.out) hkp (fun hs_=>(fun e_=>(Kd.R_ne HO302.out BK296.out (b17_)) e_) hs_));have n3_:=am (Kd.R_mono (ok':=fun k_=>True) ho0 (fun k_ hk_=>trivial));have n4_:=am (hb);clear BK294 BK295 BK296 HB HO302;have BK294:=n0_;have BK295:=n1_;have BK296:=n2_;have HO307:=n3_;have HB:=n4_;clear n0_ n1_ n2_ n3_ n4_;(try clear hb);(try clear hkp);(try clear ho0);obtain⟨Ao53,co53,eo53⟩:=Kd.R_slice HO307.out;subst eo53;obtain⟨hcz54_0,hcz54_1,hcz54_2⟩:=cC3 BK296.out;obtain⟨hfz54_0,hfz54_1,hfz54_2⟩:=cF3 BK296.out));try go_wp2_with (first|((with_reducible refine gate_dst (N:=38) rfl ?_);refine Kd.R_lit (Kd.int .i64) _ 3 ?hg (N:=38) ?hd (xs:=([]:List Int)) (inner:=[]) (ok:=fun _=>True) (okp:=fun _=>True) ?hr ?hp (fun _ hk=>hk) trivial (Below.refl _ _) (Nat.le_refl _) (by simp) ?_;(case hd=>rfl);(case hg=>rfl);(case hr=>first|(go_simp;done)|(go_simp;rfl));(case hp=>exact(Reps.none _ _));intro v298 w40 ho41 hb hg_ hnew_;clear hg_ hnew_;(first|rw[← Ny297.out] at ho41|(simp only[Int.reduceToNat] at ho41;rw[← Ny297.out] at ho41));have n0_:=am (Kd.R_lower ho41 (below_size (bS3 GE294.out GE295.out GE296.out)));have n1_:=am (bM BK294.out hb);have n2_:=am (bM BK295.out hb);have n3_:=am (bM BK296.out hb);have n4_:=am (below_step (bS3 GE294.out GE295.out GE296.out) hb);clear BK294 BK295 BK296 HB;have HO299:=n0_;have BK294:=n1_;have BK295:=n2_;have BK296:=n3_;have HB:=n4_;clear n0_ n1_ n2_ n3_ n4_;clear hb ho41;have hnb42:=NB294_295.out;have hnc42:=NB295_294.out;have hnb43:=NB294_296.out;have hnc43:=NB296_294.out;obtain⟨hcz44_0,hcz44_1,hcz44_2⟩:=cC3 BK294.out;obtain⟨hfz44_0,hfz44_1,hfz44_2⟩:=cF3 BK294.out)|((with_reducible refine gate_builtin (b:=.append) (xs:=#[.tmp 38,.tmp 40]) rfl ?_);at_builtin;refine Kd.R_append_rows (Kd.int .i64) (w0:=w) w.heap.size rfl (.tmp 38) (.tmp 40) 37 3 (.int .i64 0) 8 rfl Try.underlying37 info3 rfl (b17_) (by omega) v298 y297 l0_0 _ _ _ (fun _=>True) (fun _=>False) rfl rfl ?aO ?aR (fun _ _ h=>h) (fun _ h=>h.elim) ?aF ?aB ?aS ?aL ?_;(case aR=>exact bC HR0_0.out);(case aB=>exact(bS3 GE294.out GE295.out GE296.out));(case aF=>exact(fun _ _=>trivial));(case aO=>exact(bK HO299.out));(case aS=>exact(below_size (bS3 GE294.out GE295.out GE296.out)));(case aL=>have:=LMc33.out;omega);intro v301 w45 ho hb hg hat;rw[← Ny300.out] at ho;have n0_:=am (blk_grown (g:=gb294) (o:=.cells #[.slice A0_0 l0_0.length c0_0,.int .i64 a0_1,.bool a0_2] 62 (0,0)) (bL BK294.out) hg (Kd.R_ne HO299.out BK294.out (b17_)));have n1_:=am (blk_grown (g:=gb295) (o:=.cells #[.int .i64 a1_0,.int .i64 a1_1] 72 (0,0)) (bL BK295.out) hg (Kd.R_ne HO299.out BK295.out (b17_)));have n2_:=am (blk_grown (g:=gb296) (o:=.cells #[.slice none 0 0,.int .i64 0,.bool false] 62 (0,0)) (bL BK296.out) hg (Kd.R_ne HO299.out BK296.out (b17_)));have n3_:=am (hb);have n4_:=am (ho);clear BK294 BK295 BK296 HB HO299;have BK294:=n0_;have BK295:=n1_;have BK296:=n2_;have HB:=n3_;have HO302:=n4_;clear n0_ n1_ n2_ n3_ n4_;clear ho hb hg hat;obtain⟨Ao46,co46,eo46⟩:=Kd.R_slice HO302.out;subst eo46;obtain⟨hcz47_0,hcz47_1,hcz47_2⟩:=cC3 BK294.out;obtain⟨hfz47_0,hfz47_1,hfz47_2⟩:=cF3 BK294.out)|((with_reducible refine gate_store (t:=37) (p:=42) rfl ?_);(try (rw[drewN_self w45];generalize hq_:World.drewN w45 _=w45;have n0_:=am (Kd.R_at hq_ HO302.out);have n1_:=am (blk_at hq_ BK294.out);have n2_:=am (blk_at hq_ BK295.out);have n3_:=am (blk_at hq_ BK296.out);have n4_:=am (below_at hq_ HB.out);clear hq_ HO302 BK294 BK295 BK296 HB;have HO302:=n0_;have BK294:=n1_;have BK295:=n2_;have BK296:=n3_;have HB:=n4_;clear n0_ n1_ n2_ n3_ n4_));refine store_event (t:=37) (p:=42) (v:=?vo_w48) (w1:=(w45.setCell ⟨gb294,0,none⟩ (.slice Ao46 y300.length co46))) ?hg ?ho ?hn ?hr ?_;(case ho=>rfl);(case hg=>rfl);(case hn=>rfl);(case hr=>first|(go_simp;done)|(go_simp;rfl));intro w48 hw;have n0_:Aside0 (Kd.R (Kd.int .i64) 3 w48 w.heap.size (fun _=>True) (.slice Ao46 y300.length co46) y300):=⟨(b32_)⟩;have n1_:Aside0 (w48.heap[gb294]?=some (.cells #[.slice Ao46 y300.length co46,.int .i64 a0_1,.bool a0_2] 62 (0,0))):=⟨(b6_)⟩;have n2_:Aside0 (w48.heap[gb295]?=some (.cells #[.int .i64 a1_0,.int .i64 a1_1] 72 (0,0))):=⟨(b10_)⟩;have n3_:Aside0 (w48.heap[gb296]?=some (.cells #[.slice none 0 0,.int .i64 0,.bool false] 62 (0,0))):=⟨(b11_)⟩;have n4_:Aside0 (Below w.heap.size w w48):=⟨(by rw[hw];exact(bS3 GE294.out GE295.out GE296.out))⟩;clear hw HO302 BK294 BK295 BK296 HB;have HO302:=n0_;have BK294:=n1_;have BK295:=n2_;have BK296:=n3_;have HB:=n4_;clear n0_ n1_ n2_ n3_ n4_;obtain⟨hcz49_0,hcz49_1,hcz49_2⟩:=cC3 BK294.out;obtain⟨hfz49_0,hfz49_1,hfz49_2⟩:=cF3 BK294.out;have hnb50:=NB295_296.out;have hnc50:=NB296_295.out;obtain⟨hcz51_0,hcz51_1⟩:=cC2 BK295.out;obtain⟨hfz51_0,hfz51_1⟩:=cF2 BK295.out;have p303:0≤(a1_0:Int):=bD_;have q303:a1_0 < (y300.length:Int):=bD_;obtain⟨ad303,e303,hx303_0⟩:=Kd.at_int (Kd.R_reads' HO302.out).2.2 a1_0 p303 q303;cases e303;replace p303:=eq_true p303;replace q303:=eq_true q303;have p304:0≤(a1_1:Int):=bD_;have q304:a1_1 < (y300.length:Int):=bD_;obtain⟨ad304,e304,hx304_0⟩:=Kd.at_int (Kd.R_reads' HO302.out).2.2 a1_1 p304 q304;obtain rfl:ad303=ad304:=(by injection e304);replace p304:=eq_true p304;replace q304:=eq_true q304)|(go_at_call 155;(with_reducible refine(spec_l15Give.calls (fun k_=>some k_=(.slice (some ad303) y300.length co46:Value).ownBlock) (.slice (some ad303) y300.length co46) y300 a0_1 a0_2 a1_0 a1_1 t305 t308 t309 w _ ?side1 ?side2 A39.out).mono ?_);(case side1=>exact b46_);(case side2=>exact Kd.R_tight rfl HO302.out);rintro e w52 ⟨v306,rfl,ho0,hb,hkp⟩;have n0_:=am (blk_kept (bL BK294.out) hkp (fun hs_=>(fun e_=>(Kd.R_ne HO302.out BK294.out (b17_)) e_) hs_));have n1_:=am (blk_kept (bL BK295.out) hkp (fun hs_=>(fun e_=>(Kd.R_ne HO302.out BK295.out (b17_)) e_) hs_));have n2_:=am (blk_kept (bL BK296.out) hkp (fun hs_=>(fun e_=>(Kd.R_ne HO302.out BK296.out (b17_)) e_) hs_));have n3_:=am (Kd.R_mono (ok':=fun k_=>True) ho0 (fun k_ hk_=>trivial));have n4_:=am (hb);clear BK294 BK295 BK296 HB HO302;have BK294:=n0_;have BK295:=n1_;have BK296:=n2_;have HO307:=n3_;have HB:=n4_;clear n0_ n1_ n2_ n3_ n4_;(try clear hb);(try clear hkp);(try clear ho0);obtain⟨Ao53,co53,eo53⟩:=Kd.R_slice HO307.out;subst eo53;obtain⟨hcz54_0,hcz54_1,hcz54_2⟩:=cC3 BK296.out;obtain⟨hfz54_0,hfz54_1,hfz54_2⟩:=cF3 BK296.out)))
          refine bodyPost_ret (results_ct rfl _ _ gb296 62 #[.slice Ao53 t305.length co53,.int .i64 t308,.bool t309] (0,0) _ rfl (by(with_reducible repeat (first|refine blk_drewN ?_ _|refine blk_drew ?_|refine blk_alloc ?_ _));apply bU3;(with_reducible repeat (first|refine blk_drewN ?_ _|refine blk_drew ?_|refine blk_alloc ?_ _));exact BK296.out) Try.underlying62 rfl (b4_)) rfl ?_
          exact⟨_,by first|rfl|(simp[errW_none,errW_some]<;>rfl)|(simp[*,errW_none,errW_some]<;>rfl),by(with_reducible repeat (first|apply Kd.R_alloc|apply Kd.R_drewN|apply Kd.R_drew));exact Kd.R_mono (Kd.R_far (p:=⟨gb296,2,none⟩) (Kd.R_far (p:=⟨gb296,1,none⟩) (Kd.R_far (p:=⟨gb296,0,none⟩) (Kd.R_types HO307.out BK296.out (b17_)) (fun _ hk=>hk.2) (.slice Ao53 t305.length co53)) (fun _ hk=>hk.2) (.int .i64 t308)) (fun _ hk=>hk.2) (.bool t309)) (fun _ hk=>trivial),bS3 GE294.out GE295.out GE296.out⟩
         ·rw[if_neg c38] at H
          have c38b0:decide ((rd y300 a1_1)≤(rd y300 a1_0))=false:=decide_eq_false c38
          clear c38
          replace H:=bI_ H
          obtain⟨⟨t310,t313,t314⟩,A550,H⟩:=H
          replace H:(some (t310,t313,t314,true))=some (r1,r2,r3,r4):=H
          have A55:=am A550
          clear A550
          simp only[Option.some.injEq,Prod.mk.injEq] at H
          obtain⟨rfl,rfl,rfl,rfl⟩:=H
          go_wp2_with (first|((with_reducible refine gate_dst (N:=38) rfl ?_);refine Kd.R_lit (Kd.int .i64) _ 3 ?hg (N:=38) ?hd (xs:=([]:List Int)) (inner:=[]) (ok:=fun _=>True) (okp:=fun _=>True) ?hr ?hp (fun _ hk=>hk) trivial (Below.refl _ _) (Nat.le_refl _) (by simp) ?_;(case hd=>rfl);(case hg=>rfl);(case hr=>first|(go_simp;done)|(go_simp;rfl));(case hp=>exact(Reps.none _ _));intro v298 w56 ho57 hb hg_ hnew_;clear hg_ hnew_;(first|rw[← Ny297.out] at ho57|(simp only[Int.reduceToNat] at ho57;rw[← Ny297.out] at ho57));have n0_:=am (Kd.R_lower ho57 (below_size (bS3 GE294.out GE295.out GE296.out)));have n1_:=am (bM BK294.out hb);have n2_:=am (bM BK295.out hb);have n3_:=am (bM BK296.out hb);have n4_:=am (below_step (bS3 GE294.out GE295.out GE296.out) hb);clear BK294 BK295 BK296 HB;have HO299:=n0_;have BK294:=n1_;have BK295:=n2_;have BK296:=n3_;have HB:=n4_;clear n0_ n1_ n2_ n3_ n4_;clear hb ho57;have hnb58:=NB294_295.out;have hnc58:=NB295_294.out;have hnb59:=NB294_296.out;have hnc59:=NB296_294.out;obtain⟨hcz60_0,hcz60_1,hcz60_2⟩:=cC3 BK294.out;obtain⟨hfz60_0,hfz60_1,hfz60_2⟩:=cF3 BK294.out)|((with_reducible refine gate_builtin (b:=.append) (xs:=#[.tmp 38,.tmp 40]) rfl ?_);at_builtin;refine Kd.R_append_rows (Kd.int .i64) (w0:=w) w.heap.size rfl (.tmp 38) (.tmp 40) 37 3 (.int .i64 0) 8 rfl Try.underlying37 info3 rfl (b17_) (by omega) v298 y297 l0_0 _ _ _ (fun _=>True) (fun _=>False) rfl rfl ?aO ?aR (fun _ _ h=>h) (fun _ h=>h.elim) ?aF ?aB ?aS ?aL ?_;(case aR=>exact bC HR0_0.out);(case aB=>exact(bS3 GE294.out GE295.out GE296.out));(case aF=>exact(fun _ _=>trivial));(case aO=>exact(bK HO299.out));(case aS=>exact(below_size (bS3 GE294.out GE295.out GE296.out)));(case aL=>have:=LMc33.out;omega);intro v301 w61 ho hb hg hat;rw[← Ny300.out] at ho;have n0_:=am (blk_grown (g:=gb294) (o:=.cells #[.slice A0_0 l0_0.length c0_0,.int .i64 a0_1,.bool a0_2] 62 (0,0)) (bL BK294.out) hg (Kd.R_ne HO299.out BK294.out (b17_)));have n1_:=am (blk_grown (g:=gb295) (o:=.cells #[.int .i64 a1_0,.int .i64 a1_1] 72 (0,0)) (bL BK295.out) hg (Kd.R_ne HO299.out BK295.out (b17_)));have n2_:=am (blk_grown (g:=gb296) (o:=.cells #[.slice none 0 0,.int .i64 0,.bool false] 62 (0,0)) (bL BK296.out) hg (Kd.R_ne HO299.out BK296.out (b17_)));have n3_:=am (hb);have n4_:=am (ho);clear BK294 BK295 BK296 HB HO299;have BK294:=n0_;have BK295:=n1_;have BK296:=n2_;have HB:=n3_;have HO302:=n4_;clear n0_ n1_ n2_ n3_ n4_;clear ho hb hg hat;obtain⟨Ao62,co62,eo62⟩:=Kd.R_slice HO302.out;subst eo62;obtain⟨hcz63_0,hcz63_1,hcz63_2⟩:=cC3 BK294.out;obtain⟨hfz63_0,hfz63_1,hfz63_2⟩:=cF3 BK294.out)|((with_reducible refine gate_store (t:=37) (p:=42) rfl ?_);(try (rw[drewN_self w61];generalize hq_:World.drewN w61 _=w61;have n0_:=am (Kd.R_at hq_ HO302.out);have n1_:=am (blk_at hq_ BK294.out);have n2_:=am (blk_at hq_ BK295.out);have n3_:=am (blk_at hq_ BK296.out);have n4_:=am (below_at hq_ HB.out);clear hq_ HO302 BK294 BK295 BK296 HB;have HO302:=n0_;have BK294:=n1_;have BK295:=n2_;have BK296:=n3_;have HB:=n4_;clear n0_ n1_ n2_ n3_ n4_));refine store_event (t:=37) (p:=42) (v:=?vo_w64) (w1:=(w61.setCell ⟨gb294,0,none⟩ (.slice Ao62 y300.length co62))) ?hg ?ho ?hn ?hr ?_;(case ho=>rfl);(case hg=>rfl);(case hn=>rfl);(case hr=>first|(go_simp;done)|(go_simp;rfl));intro w64 hw;have n0_:Aside0 (Kd.R (Kd.int .i64) 3 w64 w.heap.size (fun _=>True) (.slice Ao62 y300.length co62) y300):=⟨(b33_)⟩;have n1_:Aside0 (w64.heap[gb294]?=some (.cells #[.slice Ao62 y300.length co62,.int .i64 a0_1,.bool a0_2] 62 (0,0))):=⟨(b6_)⟩;have n2_:Aside0 (w64.heap[gb295]?=some (.cells #[.int .i64 a1_0,.int .i64 a1_1] 72 (0,0))):=⟨(b10_)⟩;have n3_:Aside0 (w64.heap[gb296]?=some (.cells #[.slice none 0 0,.int .i64 0,.bool false] 62 (0,0))):=⟨(b11_)⟩;have n4_:Aside0 (Below w.heap.size w w64):=⟨(by rw[hw];exact(bS3 GE294.out GE295.out GE296.out))⟩;clear hw HO302 BK294 BK295 BK296 HB;have HO302:=n0_;have BK294:=n1_;have BK295:=n2_;have BK296:=n3_;have HB:=n4_;clear n0_ n1_ n2_ n3_ n4_;obtain⟨hcz65_0,hcz65_1,hcz65_2⟩:=cC3 BK294.out;obtain⟨hfz65_0,hfz65_1,hfz65_2⟩:=cF3 BK294.out;have hnb66:=NB295_296.out;have hnc66:=NB296_295.out;obtain⟨hcz67_0,hcz67_1⟩:=cC2 BK295.out;obtain⟨hfz67_0,hfz67_1⟩:=cF2 BK295.out;have p303:0≤(a1_0:Int):=bD_;have q303:a1_0 < (y300.length:Int):=bD_;obtain⟨ad303,e303,hx303_0⟩:=Kd.at_int (Kd.R_reads' HO302.out).2.2 a1_0 p303 q303;cases e303;replace p303:=eq_true p303;replace q303:=eq_true q303;have p304:0≤(a1_1:Int):=bD_;have q304:a1_1 < (y300.length:Int):=bD_;obtain⟨ad304,e304,hx304_0⟩:=Kd.at_int (Kd.R_reads' HO302.out).2.2 a1_1 p304 q304;obtain rfl:ad303=ad304:=(by injection e304);replace p304:=eq_true p304;replace q304:=eq_true q304)|(go_at_call 155;(with_reducible refine(spec_l15Give.calls (fun k_=>some k_=(.slice (some ad303) y300.length co62:Value).ownBlock) (.slice (some ad303) y300.length co62) y300 a0_1 a0_2 a1_1 a1_0 t310 t313 t314 w _ ?side1 ?side2 A55.out).mono ?_);(case side1=>exact b46_);(case side2=>exact Kd.R_tight rfl HO302.out);rintro e w68 ⟨v311,rfl,ho0,hb,hkp⟩;have n0_:=am (blk_kept (bL BK294.out) hkp (fun hs_=>(fun e_=>(Kd.R_ne HO302.out BK294.out (b17_)) e_) hs_));have n1_:=am (blk_kept (bL BK295.out) hkp (fun hs_=>(fun e_=>(Kd.R_ne HO302.out BK295.out (b17_)) e_) hs_));have n2_:=am (blk_kept (bL BK296.out) hkp (fun hs_=>(fun e_=>(Kd.R_ne HO302.out BK296.out (b17_)) e_) hs_));have n3_:=am (Kd.R_mono (ok':=fun k_=>True) ho0 (fun k_ hk_=>trivial));have n4_:=am (hb);clear BK294 BK295 BK296 HB HO302;have BK294:=n0_;have BK295:=n1_;have BK296:=n2_;have HO312:=n3_;have HB:=n4_;clear n0_ n1_ n2_ n3_ n4_;(try clear hb);(try clear hkp);(try clear ho0);obtain⟨Ao69,co69,eo69⟩:=Kd.R_slice HO312.out;subst eo69;obtain⟨hcz70_0,hcz70_1,hcz70_2⟩:=cC3 BK296.out;obtain⟨hfz70_0,hfz70_1,hfz70_2⟩:=cF3 BK296.out))
          repeat (go_quiet (first|((with_reducible refine gate_dst (N:=38) rfl ?_);refine Kd.R_lit (Kd.int .i64) _ 3 ?hg (N:=38) ?hd (xs:=([]:List Int)) (inner:=[]) (ok:=fun _=>True) (okp:=fun _=>True) ?hr ?hp (fun _ hk=>hk) trivial (Below.refl _ _) (Nat.le_refl _) (by simp) ?_;(case hd=>rfl);(case hg=>rfl);(case hr=>first|(go_simp;done)|(go_simp;rfl));(case hp=>exact(Reps.none _ _));intro v298 w56 ho57 hb hg_ hnew_;clear hg_ hnew_;(first|rw[← Ny297.out] at ho57|(simp only[Int.reduceToNat] at ho57;rw[← Ny297.out] at ho57));have n0_:=am (Kd.R_lower ho57 (below_size (bS3 GE294.out GE295.out GE296.out)));have n1_:=am (bM BK294.out hb);have n2_:=am (bM BK295.out hb);have n3_:=am (bM BK296.out hb);have n4_:=am (below_step (bS3 GE294.out GE295.out GE296.out) hb);clear BK294 BK295 BK296 HB;have HO299:=n0_;have BK294:=n1_;have BK295:=n2_;have BK296:=n3_;have HB:=n4_;clear n0_ n1_ n2_ n3_ n4_;clear hb ho57;have hnb58:=NB294_295.out;have hnc58:=NB295_294.out;have hnb59:=NB294_296.out;have hnc59:=NB296_294.out;obtain⟨hcz60_0,hcz60_1,hcz60_2⟩:=cC3 BK294.out;obtain⟨hfz60_0,hfz60_1,hfz60_2⟩:=cF3 BK294.out)|((with_reducible refine gate_builtin (b:=.append) (xs:=#[.tmp 38,.tmp 40]) rfl ?_);at_builtin;refine Kd.R_append_rows (Kd.int .i64) (w0:=w) w.heap.size rfl (.tmp 38) (.tmp 40) 37 3 (.int .i64 0) 8 rfl Try.underlying37 info3 rfl (b17_) (by omega) v298 y297 l0_0 _ _ _ (fun _=>True) (fun _=>False) rfl rfl ?aO ?aR (fun _ _ h=>h) (fun _ h=>h.elim) ?aF ?aB ?aS ?aL ?_;(case aR=>exact bC HR0_0.out);(case aB=>exact(bS3 GE294.out GE295.out GE296.out));(case aF=>exact(fun _ _=>trivial));(case aO=>exact(bK HO299.out));(case aS=>exact(below_size (bS3 GE294.out GE295.out GE296.out)));(case aL=>have:=LMc33.out;omega);intro v301 w61 ho hb hg hat;rw[← Ny300.out] at ho;have n0_:=am (blk_grown (g:=gb294) (o:=.cells #[.slice A0_0 l0_0.length c0_0,.int .i64 a0_1,.bool a0_2] 62 (0,0)) (bL BK294.out) hg (Kd.R_ne HO299.out BK294.out (b17_)));have n1_:=am (blk_grown (g:=gb295) (o:=.cells #[.int .i64 a1_0,.int .i64 a1_1] 72 (0,0)) (bL BK295.out) hg (Kd.R_ne HO299.out BK295.out (b17_)));have n2_:=am (blk_grown (g:=gb296) (o:=.cells #[.slice none 0 0,.int .i64 0,.bool false] 62 (0,0)) (bL BK296.out) hg (Kd.R_ne HO299.out BK296.out (b17_)));have n3_:=am (hb);have n4_:=am (ho);clear BK294 BK295 BK296 HB HO299;have BK294:=n0_;have BK295:=n1_;have BK296:=n2_;have HB:=n3_;have HO302:=n4_;clear n0_ n1_ n2_ n3_ n4_;clear ho hb hg hat;obtain⟨Ao62,co62,eo62⟩:=Kd.R_slice HO302.out;subst eo62;obtain⟨hcz63_0,hcz63_1,hcz63_2⟩:=cC3 BK294.out;obtain⟨hfz63_0,hfz63_1,hfz63_2⟩:=cF3 BK294.out)|((with_reducible refine gate_store (t:=37) (p:=42) rfl ?_);(try (rw[drewN_self w61];generalize hq_:World.drewN w61 _=w61;have n0_:=am (Kd.R_at hq_ HO302.out);have n1_:=am (blk_at hq_ BK294.out);have n2_:=am (blk_at hq_ BK295.out);have n3_:=am (blk_at hq_ BK296.out);have n4_:=am (below_at hq_ HB.out);clear hq_ HO302 BK294 BK295 BK296 HB;have HO302:=n0_;have BK294:=n1_;have BK295:=n2_;have BK296:=n3_;have HB:=n4_;clear n0_ n1_ n2_ n3_ n4_));refine store_event (t:=37) (p:=42) (v:=?vo_w64) (w1:=(w61.setCell ⟨gb294,0,none⟩ (.slice Ao62 y300.length co62))) ?hg ?ho ?hn ?hr ?_;(case ho=>rfl);(case hg=>rfl);(case hn=>rfl);(case hr=>first|(go_simp;done)|(go_simp;rfl));intro w64 hw;have n0_:Aside0 (Kd.R (Kd.int .i64) 3 w64 w.heap.size (fun _=>True) (.slice Ao62 y300.length co62) y300):=⟨(b33_)⟩;have n1_:Aside0 (w64.heap[gb294]?=some (.cells #[.slice Ao62 y300.length co62,.int .i64 a0_1,.bool a0_2] 62 (0,0))):=⟨(b6_)⟩;have n2_:Aside0 (w64.heap[gb295]?=some (.cells #[.int .i64 a1_0,.int .i64 a1_1] 72 (0,0))):=⟨(b10_)⟩;have n3_:Aside0 (w64.heap[gb296]?=some (.cells #[.slice none 0 0,.int .i64 0,.bool false] 62 (0,0))):=⟨(b11_)⟩;have n4_:Aside0 (Below w.heap.size w w64):=⟨(by rw[hw];exact(bS3 GE294.out GE295.out GE296.out))⟩;clear hw HO302 BK294 BK295 BK296 HB;have HO302:=n0_;have BK294:=n1_;have BK295:=n2_;have BK296:=n3_;have HB:=n4_;clear n0_ n1_ n2_ n3_ n4_;obtain⟨hcz65_0,hcz65_1,hcz65_2⟩:=cC3 BK294.out;obtain⟨hfz65_0,hfz65_1,hfz65_2⟩:=cF3 BK294.out;have hnb66:=NB295_296.out;have hnc66:=NB296_295.out;obtain⟨hcz67_0,hcz67_1⟩:=cC2 BK295.out;obtain⟨hfz67_0,hfz67_1⟩:=cF2 BK295.out;have p303:0≤(a1_0:Int):=bD_;have q303:a1_0 < (y300.length:Int):=bD_;obtain⟨ad303,e303,hx303_0⟩:=Kd.at_int (Kd.R_reads' HO302.out).2.2 a1_0 p303 q303;cases e303;replace p303:=eq_true p303;replace q303:=eq_true q303;have p304:0≤(a1_1:Int):=bD_;have q304:a1_1 < (y300.length:Int):=bD_;obtain⟨ad304,e304,hx304_0⟩:=Kd.at_int (Kd.R_reads' HO302.out).2.2 a1_1 p304 q304;obtain rfl:ad303=ad304:=(by injection e304);replace p304:=eq_true p304;replace q304:=eq_true q304)|(go_at_call 155;(with_reducible refine(spec_l15Give.calls (fun k_=>some k_=(.slice (some ad303) y300.length co62:Value).ownBlock) (.slice (some ad303) y300.length co62) y300 a0_1 a0_2 a1_1 a1_0 t310 t313 t314 w _ ?side1 ?side2 A55.out).mono ?_);(case side1=>exact b46_);(case side2=>exact Kd.R_tight rfl HO302.out);rintro e w68 ⟨v311,rfl,ho0,hb,hkp⟩;have n0_:=am (blk_kept (bL BK294.out) hkp (fun hs_=>(fun e_=>(Kd.R_ne HO302.out BK294.out (b17_)) e_) hs_));have n1_:=am (blk_kept (bL BK295.out) hkp (fun hs_=>(fun e_=>(Kd.R_ne HO302.out BK295.out (b17_)) e_) hs_));have n2_:=am (blk_kept (bL BK296.out) hkp (fun hs_=>(fun e_=>(Kd.R_ne HO302.out BK296.out (b17_)) e_) hs_));have n3_:=am (Kd.R_mono (ok':=fun k_=>True) ho0 (fun k_ hk_=>trivial));have n4_:=am (hb);clear BK294 BK295 BK296 HB HO302;have BK294:=n0_;have BK295:=n1_;have BK296:=n2_;have HO312:=n3_;have HB:=n4_;clear n0_ n1_ n2_ n3_ n4_;(try clear hb);(try clear hkp);(try clear ho0);obtain⟨Ao69,co69,eo69⟩:=Kd.R_slice HO312.out;subst eo69;obtain⟨hcz70_0,hcz70_1,hcz70_2⟩:=cC3 BK296.out;obtain⟨hfz70_0,hfz70_1,hfz70_2⟩:=cF3 BK296.out));try go_wp2_with (first|((with_reducible refine gate_dst (N:=38) rfl ?_);refine Kd.R_lit (Kd.int .i64) _ 3 ?hg (N:=38) ?hd (xs:=([]:List Int)) (inner:=[]) (ok:=fun _=>True) (okp:=fun _=>True) ?hr ?hp (fun _ hk=>hk) trivial (Below.refl _ _) (Nat.le_refl _) (by simp) ?_;(case hd=>rfl);(case hg=>rfl);(case hr=>first|(go_simp;done)|(go_simp;rfl));(case hp=>exact(Reps.none _ _));intro v298 w56 ho57 hb hg_ hnew_;clear hg_ hnew_;(first|rw[← Ny297.out] at ho57|(simp only[Int.reduceToNat] at ho57;rw[← Ny297.out] at ho57));have n0_:=am (Kd.R_lower ho57 (below_size (bS3 GE294.out GE295.out GE296.out)));have n1_:=am (bM BK294.out hb);have n2_:=am (bM BK295.out hb);have n3_:=am (bM BK296.out hb);have n4_:=am (below_step (bS3 GE294.out GE295.out GE296.out) hb);clear BK294 BK295 BK296 HB;have HO299:=n0_;have BK294:=n1_;have BK295:=n2_;have BK296:=n3_;have HB:=n4_;clear n0_ n1_ n2_ n3_ n4_;clear hb ho57;have hnb58:=NB294_295.out;have hnc58:=NB295_294.out;have hnb59:=NB294_296.out;have hnc59:=NB296_294.out;obtain⟨hcz60_0,hcz60_1,hcz60_2⟩:=cC3 BK294.out;obtain⟨hfz60_0,hfz60_1,hfz60_2⟩:=cF3 BK294.out)|((with_reducible refine gate_builtin (b:=.append) (xs:=#[.tmp 38,.tmp 40]) rfl ?_);at_builtin;refine Kd.R_append_rows (Kd.int .i64) (w0:=w) w.heap.size rfl (.tmp 38) (.tmp 40) 37 3 (.int .i64 0) 8 rfl Try.underlying37 info3 rfl (b17_) (by omega) v298 y297 l0_0 _ _ _ (fun _=>True) (fun _=>False) rfl rfl ?aO ?aR (fun _ _ h=>h) (fun _ h=>h.elim) ?aF ?aB ?aS ?aL ?_;(case aR=>exact bC HR0_0.out);(case aB=>exact(bS3 GE294.out GE295.out GE296.out));(case aF=>exact(fun _ _=>trivial));(case aO=>exact(bK HO299.out));(case aS=>exact(below_size (bS3 GE294.out GE295.out GE296.out)));(case aL=>have:=LMc33.out;omega);intro v301 w61 ho hb hg hat;rw[← Ny300.out] at ho;have n0_:=am (blk_grown (g:=gb294) (o:=.cells #[.slice A0_0 l0_0.length c0_0,.int .i64 a0_1,.bool a0_2] 62 (0,0)) (bL BK294.out) hg (Kd.R_ne HO299.out BK294.out (b17_)));have n1_:=am (blk_grown (g:=gb295) (o:=.cells #[.int .i64 a1_0,.int .i64 a1_1] 72 (0,0)) (bL BK295.out) hg (Kd.R_ne HO299.out BK295.out (b17_)));have n2_:=am (blk_grown (g:=gb296) (o:=.cells #[.slice none 0 0,.int .i64 0,.bool false] 62 (0,0)) (bL BK296.out) hg (Kd.R_ne HO299.out BK296.out (b17_)));have n3_:=am (hb);have n4_:=am (ho);clear BK294 BK295 BK296 HB HO299;have BK294:=n0_;have BK295:=n1_;have BK296:=n2_;have HB:=n3_;have HO302:=n4_;clear n0_ n1_ n2_ n3_ n4_;clear ho hb hg hat;obtain⟨Ao62,co62,eo62⟩:=Kd.R_slice HO302.out;subst eo62;obtain⟨hcz63_0,hcz63_1,hcz63_2⟩:=cC3 BK294.out;obtain⟨hfz63_0,hfz63_1,hfz63_2⟩:=cF3 BK294.out)|((with_reducible refine gate_store (t:=37) (p:=42) rfl ?_);(try (rw[drewN_self w61];generalize hq_:World.drewN w61 _=w61;have n0_:=am (Kd.R_at hq_ HO302.out);have n1_:=am (blk_at hq_ BK294.out);have n2_:=am (blk_at hq_ BK295.out);have n3_:=am (blk_at hq_ BK296.out);have n4_:=am (below_at hq_ HB.out);clear hq_ HO302 BK294 BK295 BK296 HB;have HO302:=n0_;have BK294:=n1_;have BK295:=n2_;have BK296:=n3_;have HB:=n4_;clear n0_ n1_ n2_ n3_ n4_));refine store_event (t:=37) (p:=42) (v:=?vo_w64) (w1:=(w61.setCell ⟨gb294,0,none⟩ (.slice Ao62 y300.length co62))) ?hg ?ho ?hn ?hr ?_;(case ho=>rfl);(case hg=>rfl);(case hn=>rfl);(case hr=>first|(go_simp;done)|(go_simp;rfl));intro w64 hw;have n0_:Aside0 (Kd.R (Kd.int .i64) 3 w64 w.heap.size (fun _=>True) (.slice Ao62 y300.length co62) y300):=⟨(b33_)⟩;have n1_:Aside0 (w64.heap[gb294]?=some (.cells #[.slice Ao62 y300.length co62,.int .i64 a0_1,.bool a0_2] 62 (0,0))):=⟨(b6_)⟩;have n2_:Aside0 (w64.heap[gb295]?=some (.cells #[.int .i64 a1_0,.int .i64 a1_1] 72 (0,0))):=⟨(b10_)⟩;have n3_:Aside0 (w64.heap[gb296]?=some (.cells #[.slice none 0 0,.int .i64 0,.bool false] 62 (0,0))):=⟨(b11_)⟩;have n4_:Aside0 (Below w.heap.size w w64):=⟨(by rw[hw];exact(bS3 GE294.out GE295.out GE296.out))⟩;clear hw HO302 BK294 BK295 BK296 HB;have HO302:=n0_;have BK294:=n1_;have BK295:=n2_;have BK296:=n3_;have HB:=n4_;clear n0_ n1_ n2_ n3_ n4_;obtain⟨hcz65_0,hcz65_1,hcz65_2⟩:=cC3 BK294.out;obtain⟨hfz65_0,hfz65_1,hfz65_2⟩:=cF3 BK294.out;have hnb66:=NB295_296.out;have hnc66:=NB296_295.out;obtain⟨hcz67_0,hcz67_1⟩:=cC2 BK295.out;obtain⟨hfz67_0,hfz67_1⟩:=cF2 BK295.out;have p303:0≤(a1_0:Int):=bD_;have q303:a1_0 < (y300.length:Int):=bD_;obtain⟨ad303,e303,hx303_0⟩:=Kd.at_int (Kd.R_reads' HO302.out).2.2 a1_0 p303 q303;cases e303;replace p303:=eq_true p303;replace q303:=eq_true q303;have p304:0≤(a1_1:Int):=bD_;have q304:a1_1 < (y300.length:Int):=bD_;obtain⟨ad304,e304,hx304_0⟩:=Kd.at_int (Kd.R_reads' HO302.out).2.2 a1_1 p304 q304;obtain rfl:ad303=ad304:=(by injection e304);replace p304:=eq_true p304;replace q304:=eq_true q304)|(go_at_call 155;(with_reducible refine(spec_l15Give.calls (fun k_=>some k_=(.slice (some ad303) y300.length co62:Value).ownBlock) (.slice (some ad303) y300.length co62) y300 a0_1 a0_2 a1_1 a1_0 t310 t313 t314 w _ ?side1 ?side2 A55.out).mono ?_);(case side1=>exact b46_);(case side2=>exact Kd.R_tight rfl HO302.out);rintro e w68 ⟨v311,rfl,ho0,hb,hkp⟩;have n0_:=am (blk_kept (bL BK294.out) hkp (fun hs_=>(fun e_=>(Kd.R_ne HO302.out BK294.out (b17_)) e_) hs_));have n1_:=am (blk_kept (bL BK295.out) hkp (fun hs_=>(fun e_=>(Kd.R_ne HO302.out BK295.out (b17_)) e_) hs_));have n2_:=am (blk_kept (bL BK296.out) hkp (fun hs_=>(fun e_=>(Kd.R_ne HO302.out BK296.out (b17_)) e_) hs_));have n3_:=am (Kd.R_mono (ok':=fun k_=>True) ho0 (fun k_ hk_=>trivial));have n4_:=am (hb);clear BK294 BK295 BK296 HB HO302;have BK294:=n0_;have BK295:=n1_;have BK296:=n2_;have HO312:=n3_;have HB:=n4_;clear n0_ n1_ n2_ n3_ n4_;(try clear hb);(try clear hkp);(try clear ho0);obtain⟨Ao69,co69,eo69⟩:=Kd.R_slice HO312.out;subst eo69;obtain⟨hcz70_0,hcz70_1,hcz70_2⟩:=cC3 BK296.out;obtain⟨hfz70_0,hfz70_1,hfz70_2⟩:=cF3 BK296.out)))
          refine bodyPost_ret (results_ct rfl _ _ gb296 62 #[.slice Ao69 t310.length co69,.int .i64 t313,.bool t314] (0,0) _ rfl (by(with_reducible repeat (first|refine blk_drewN ?_ _|refine blk_drew ?_|refine blk_alloc ?_ _));apply bU3;(with_reducible repeat (first|refine blk_drewN ?_ _|refine blk_drew ?_|refine blk_alloc ?_ _));exact BK296.out) Try.underlying62 rfl (b4_)) rfl ?_
          exact⟨_,by first|rfl|(simp[errW_none,errW_some]<;>rfl)|(simp[*,errW_none,errW_some]<;>rfl),by(with_reducible repeat (first|apply Kd.R_alloc|apply Kd.R_drewN|apply Kd.R_drew));exact Kd.R_mono (Kd.R_far (p:=⟨gb296,2,none⟩) (Kd.R_far (p:=⟨gb296,1,none⟩) (Kd.R_far (p:=⟨gb296,0,none⟩) (Kd.R_types HO312.out BK296.out (b17_)) (fun _ hk=>hk.2) (.slice Ao69 t310.length co69)) (fun _ hk=>hk.2) (.int .i64 t313)) (fun _ hk=>hk.2) (.bool t314)) (fun _ hk=>trivial),bS3 GE294.out GE295.out GE296.out⟩
        ·rw[if_neg c37] at H
         exact absurd H (by simp)
       ·rw[if_neg c36] at H
        exact absurd H (by simp)
      ·rw[if_neg c35] at H
       exact absurd H (by simp)
     ·rw[if_neg c34] at H
      exact absurd H (by simp)
    ·rw[if_neg c33] at H
     exact absurd H (by simp)

end Go.Proofs.Yteneeohaoplpbaa.XFnSpray
