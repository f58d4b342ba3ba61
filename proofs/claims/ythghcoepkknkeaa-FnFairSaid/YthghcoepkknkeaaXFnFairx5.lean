-- Written by this session's own program (wip/xprint.py) out of the translation; Lean checks it.
import Derived.Test.YthghcoepkknkeaaXFnFairx0
import Derived.Test.YthghcoepkknkeaaXFnFairx2
import Derived.Test.YthghcoepkknkeaaXFnFairx3
import Derived.Test.YthghcoepkknkeaaXFnFairx4
namespace Go.Proofs.Ythghcoepkknkeaa.XFnFair
open Go.RowKit Go.Proofs.YthghcoepkknkeaaW.PrintWords Go.Proofs.YthghcoepkknkeaaW.PrintLast Go.Proofs.YthghcoepkknkeaaW.PrintMore
open Go.Proofs.YthghcoepkknkeaaW.PrintWords.Aside0 renaming mk → am
open List renaming setIfInBounds_toArray → zA, set_cons_zero → zB, set_cons_succ → zC
attribute [local go_sem] max2_int min2_int max_two min_two max_three min_three max_four min_four   -- for this text's walks alone
set_option linter.unusedVariables false
set_option linter.unusedSimpArgs false

/-! ### spec_NextRound: function 7 -/
def spec_NextRound.f (k:Nat) (a0_0:Int) (l0_1:List (S34)) (a0_2:Int):Option (Int × (List (S34)) × Int × List Int × Bool):=(spec_GoodTurns.f k a0_0 l0_1 a0_2).bind fun t168=>(if t168=true then ((spec_l14Round.f k a0_0 l0_1 a0_2).bind fun bt169=>((spec_GoodTurns.f k bt169.1 bt169.2.1 bt169.2.2.1).bind fun t178=>(if t178=true then (some (bt169.1,bt169.2.1,bt169.2.2.1,bt169.2.2.2,true)) else (some (0,([]:List (S34)),0,([]:List Int),false))))) else (some (0,([]:List (S34)),0,([]:List Int),false)))
theorem spec_NextRound.mono : ∀ a0 a1 a2 k,LeO (spec_NextRound.f k a0 a1 a2) (spec_NextRound.f (k+1) a0 a1 a2):=by
 intro a0 a1 a2 k
 unfold spec_NextRound.f
 repeat' first
  | (with_reducible exact spec_GoodTurns.mono _ _ _ _)
  | (with_reducible exact spec_l14Round.mono _ _ _ _)
  | (with_reducible exact LeO.refl _)
  | (with_reducible exact LeO.none _)
  | (with_reducible refine LeO.ite ?_ ?_)
  | (with_reducible refine LeO.bind ?_ (fun _ => ?_))
set_option maxHeartbeats 8000000 in
set_option maxRecDepth 100000 in
theorem spec_NextRound.calls (k:Nat) (a0_0:Int) (A0_1:Option Addr) (c0_1:Nat) (l0_1:List (S34)) (a0_2:Int) (r1:Int) (r2:List (S34)) (r3:Int) (r4:List Int) (r5:Bool) (w:World) (hr0_1:Kd.C k34 w A0_1 l0_1.length l0_1) (hc0_1:l0_1.length≤c0_1) (h:spec_NextRound.f k a0_0 l0_1 a0_2=some (r1,r2,r3,r4,r5)) :
  Calls Try.prog 7 #[.agg #[.int .i64 a0_0,.slice A0_1 l0_1.length c0_1,.int .i64 a0_2]] w fun e w' => ∃ v1_ v3_:Value,e=.returned (.tuple #[.agg #[.int .i64 r1,v1_,.int .i64 r3],v3_,.bool r5])∧Kd.S k34 34 w' w.heap.size (fun k_=>some k_≠(v3_:Value).ownBlock) v1_ r2∧Kd.R (Kd.int .i64) 3 w' w.heap.size (fun _=>True) v3_ r4∧Below w.heap.size w w':=by
 have hu25:=Try.underlying25
 have HR0_1:=am hr0_1
 have HC0_1:=am hc0_1
 clear hr0_1 hc0_1
 have HB:=am (Below.refl w.heap.size w)
 have H:((spec_GoodTurns.f k a0_0 l0_1 a0_2).bind fun t168=>(if t168=true then ((spec_l14Round.f k a0_0 l0_1 a0_2).bind fun bt169=>((spec_GoodTurns.f k bt169.1 bt169.2.1 bt169.2.2.1).bind fun t178=>(if t178=true then (some (bt169.1,bt169.2.1,bt169.2.2.1,bt169.2.2.2,true)) else (some (0,([]:List (S34)),0,([]:List Int),false))))) else (some (0,([]:List (S34)),0,([]:List Int),false))))=some (r1,r2,r3,r4,r5):=h
 clear h
 replace H:=bI_ H
 obtain⟨t168,A20,H⟩:=H
 replace H:(if t168=true then ((spec_l14Round.f k a0_0 l0_1 a0_2).bind fun bt169=>((spec_GoodTurns.f k bt169.1 bt169.2.1 bt169.2.2.1).bind fun t178=>(if t178=true then (some (bt169.1,bt169.2.1,bt169.2.2.1,bt169.2.2.2,true)) else (some (0,([]:List (S34)),0,([]:List Int),false))))) else (some (0,([]:List (S34)),0,([]:List Int),false)))=some (r1,r2,r3,r4,r5):=H
 have A2:=am A20
 clear A20
 by_cases c3:t168=true
 ·subst c3
  have H1:((spec_l14Round.f k a0_0 l0_1 a0_2).bind fun bt169=>((spec_GoodTurns.f k bt169.1 bt169.2.1 bt169.2.2.1).bind fun t178=>(if t178=true then (some (bt169.1,bt169.2.1,bt169.2.2.1,bt169.2.2.2,true)) else (some (0,([]:List (S34)),0,([]:List Int),false)))))=some (r1,r2,r3,r4,r5):=by rw[if_pos rfl] at H;exact H
  clear H
  have H:=H1
  clear H1
  replace H:=bI_ H
  obtain⟨⟨t169,t170,t173,t174⟩,A40,H⟩:=H
  replace H:((spec_GoodTurns.f k t169 t170 t173).bind fun t178=>(if t178=true then (some (t169,t170,t173,t174,true)) else (some (0,([]:List (S34)),0,([]:List Int),false))))=some (r1,r2,r3,r4,r5):=H
  have A4:=am A40
  clear A40
  replace H:=bI_ H
  obtain⟨t178,A50,H⟩:=H
  replace H:(if t178=true then (some (t169,t170,t173,t174,true)) else (some (0,([]:List (S34)),0,([]:List Int),false)))=some (r1,r2,r3,r4,r5):=H
  have A5:=am A50
  clear A50
  by_cases c6:t178=true
  ·subst c6
   have H1:(some (t169,t170,t173,t174,true))=some (r1,r2,r3,r4,r5):=by rw[if_pos rfl] at H;exact H
   clear H
   have H:=H1
   clear H1
   simp only[Option.some.injEq,Prod.mk.injEq] at H
   obtain⟨rfl,rfl,rfl,rfl,rfl⟩:=H
   go_enter Try.func7,Try.ntmps7
   go_wp2_with (first|((with_reducible refine gate_dst (N:=1) rfl ?_);refine box_event ?hg (N:=1) ?hd (cs:=#[.int .i64 a0_0,.slice A0_1 l0_1.length c0_1,.int .i64 a0_2]) (t:=25) ?hr ?_;(case hd=>rfl);(case hg=>rfl);(case hr=>first|(go_simp;done)|(go_simp;rfl));intro gb166 hg w7 hbox hb;have n0_:=am (below_step (bB) hb);have n1_:=am (hbox);have n2_:=am ((bG:w.heap.size≤gb166));have n3_:=am ((bG:w.heap.size≤gb166));clear HB;have HB:=n0_;have BK166:=n1_;have GW166:=n2_;have GE166:=n3_;clear n0_ n1_ n2_ n3_;clear hb hbox hg)|((with_reducible refine gate_dst (N:=2) rfl ?_);refine box_event ?hg (N:=2) ?hd (cs:=#[.int .i64 0,.slice none 0 0,.int .i64 0]) (t:=25) ?hr ?_;(case hd=>rfl);(case hg=>rfl);(case hr=>first|(go_simp;done)|(go_simp;rfl));intro gb167 hg w8 hbox hb;have n0_:=am (bM BK166.out hb);have n1_:=am (below_step (bS GE166.out) hb);have n2_:=am (hbox);have n3_:=am ((by rw[hg];exact(below_size (bS GE166.out)):w.heap.size≤gb167));have n4_:=am ((by rw[hg];exact(below_size (bS GE166.out)):w.heap.size≤gb167));have n5_:=am ((bN BK166.out hg:gb166≠gb167));have n6_:=am ((bO BK166.out hg:gb167≠gb166));clear BK166 HB;have BK166:=n0_;have HB:=n1_;have BK167:=n2_;have GW167:=n3_;have GE167:=n4_;have NB166_167:=n5_;have NB167_166:=n6_;clear n0_ n1_ n2_ n3_ n4_ n5_ n6_;clear hb hbox hg;have hnb9:=NB166_167.out;have hnc9:=NB167_166.out;obtain⟨hcz10_0,hcz10_1,hcz10_2⟩:=cC3 BK166.out;obtain⟨hfz10_0,hfz10_1,hfz10_2⟩:=cF3 BK166.out)|((with_reducible refine gate_callee (f:=11) rfl ?_);refine goesA (some 8) rfl rfl Try.func11 #[.agg #[.int .i64 a0_0,.slice A0_1 l0_1.length c0_1,.int .i64 a0_2]] rfl ?_;(with_reducible refine(spec_GoodTurns.calls k a0_0 _ _ l0_1 a0_2 true _ ?side1 ?side2 A2.out).mono ?_);(case side1=>exact bC HR0_1.out);(case side2=>exact HC0_1.out);rintro e w11 ⟨rfl,hb⟩;refine⟨_,rfl,?_⟩;have n0_:=am (bM BK166.out hb);have n1_:=am (bM BK167.out hb);have n2_:=am (below_step (bS2 GE166.out GE167.out) hb);clear BK166 BK167 HB;have BK166:=n0_;have BK167:=n1_;have HB:=n2_;clear n0_ n1_ n2_;(try clear hb);(try clear hb2);(try clear hk);(try clear hi);obtain⟨hcz12_0,hcz12_1,hcz12_2⟩:=cC3 BK166.out;obtain⟨hfz12_0,hfz12_1,hfz12_2⟩:=cF3 BK166.out)|((with_reducible refine gate_callee (f:=21) rfl ?_);refine goesA (some 13) rfl rfl Try.func21 #[.agg #[.int .i64 a0_0,.slice A0_1 l0_1.length c0_1,.int .i64 a0_2]] rfl ?_;(with_reducible refine(spec_l14Round.calls k a0_0 _ _ l0_1 a0_2 t169 t170 t173 t174 _ ?side1 ?side2 A4.out).mono ?_);(case side1=>exact bC HR0_1.out);(case side2=>exact HC0_1.out);rintro e w13 ⟨v171,v175,rfl,ho0,ho1,hb⟩;refine⟨_,rfl,?_⟩;have n0_:=am (Kd.S_lower ho0 (below_size (bS2 GE166.out GE167.out)));have n1_:=am (Kd.R_lower ho1 (below_size (bS2 GE166.out GE167.out)));have n2_:=am (bM BK166.out hb);have n3_:=am (bM BK167.out hb);have n4_:=am (below_step (bS2 GE166.out GE167.out) hb);clear BK166 BK167 HB;have HO172:=n0_;have HO176:=n1_;have BK166:=n2_;have BK167:=n3_;have HB:=n4_;clear n0_ n1_ n2_ n3_ n4_;(try clear hb);(try clear hb2);(try clear hk);(try clear hi);(try clear ho0);(try clear ho1))|((with_reducible refine gate_dst (N:=5) rfl ?_);refine box_event ?hg (N:=5) ?hd (cs:=#[.int .i64 0,.slice none 0 0,.int .i64 0]) (t:=25) ?hr ?_;(case hd=>rfl);(case hg=>rfl);(case hr=>first|(go_simp;done)|(go_simp;rfl));intro gb177 hg w14 hbox hb;have n0_:=am (Kd.S_below (by(with_reducible repeat (first|apply Kd.S_alloc|apply Kd.S_drewN|apply Kd.S_drew));exact HO172.out) hb);have n1_:=am (Kd.R_below (bK HO176.out) hb);have n2_:=am (bM BK166.out hb);have n3_:=am (bM BK167.out hb);have n4_:=am (below_step (bS2 GE166.out GE167.out) hb);have n5_:=am (hbox);have n6_:=am ((by rw[hg];exact(below_size (bS2 GE166.out GE167.out)):w.heap.size≤gb177));have n7_:=am ((by rw[hg];exact(below_size (bS2 GE166.out GE167.out)):w.heap.size≤gb177));have n8_:=am ((bN BK166.out hg:gb166≠gb177));have n9_:=am ((bO BK166.out hg:gb177≠gb166));have n10_:=am ((bN BK167.out hg:gb167≠gb177));have n11_:=am ((bO BK167.out hg:gb177≠gb167));clear HO172 HO176 BK166 BK167 HB;have HO172:=n0_;have HO176:=n1_;have BK166:=n2_;have BK167:=n3_;have HB:=n4_;have BK177:=n5_;have GW177:=n6_;have GE177:=n7_;have NB166_177:=n8_;have NB177_166:=n9_;have NB167_177:=n10_;have NB177_167:=n11_;clear n0_ n1_ n2_ n3_ n4_ n5_ n6_ n7_ n8_ n9_ n10_ n11_;clear hb hbox hg;have hnb15:=NB177_166.out;have hnc15:=NB166_177.out;have hnb16:=NB177_167.out;have hnc16:=NB167_177.out;obtain⟨hcz17_0,hcz17_1,hcz17_2⟩:=cC3 BK177.out;obtain⟨hfz17_0,hfz17_1,hfz17_2⟩:=cF3 BK177.out;obtain⟨Ao18,co18,eo18⟩:=Kd.S_slice HO172.out;subst eo18)|((with_reducible refine gate_callee (f:=11) rfl ?_);refine goesA (some 17) rfl rfl Try.func11 #[.agg #[.int .i64 t169,.slice Ao18 t170.length co18,.int .i64 t173]] rfl ?_;(with_reducible refine(spec_GoodTurns.calls k t169 _ _ t170 t173 true _ ?side1 ?side2 A5.out).mono ?_);(case side1=>refine(Kd.S_reads' (e:=34) (base:=w.heap.size) (ok:=fun k_=>some k_≠(v175:Value).ownBlock) (n:=t170.length) (c:=co18) ?_).2.2;exact(by(with_reducible repeat (first|apply Kd.S_alloc|apply Kd.S_drewN|apply Kd.S_drew));exact(Kd.S_mono (Kd.S_far (p:=⟨gb177,2,none⟩) (Kd.S_far (p:=⟨gb177,1,none⟩) (Kd.S_far (p:=⟨gb177,0,none⟩) (Kd.S_types HO172.out BK177.out (by decide)) (fun _ hk=>hk.2) (.int .i64 t169)) (fun _ hk=>hk.2) (.slice Ao18 t170.length co18)) (fun _ hk=>hk.2) (.int .i64 t173)) (fun _ h_=>h_.1))));(case side2=>exact(Kd.S_reads' HO172.out).2.1);rintro e w19 ⟨rfl,hb⟩;refine⟨_,rfl,?_⟩;have n0_:=am (Kd.S_below (by(with_reducible repeat (first|apply Kd.S_alloc|apply Kd.S_drewN|apply Kd.S_drew));exact(Kd.S_mono (Kd.S_far (p:=⟨gb177,2,none⟩) (Kd.S_far (p:=⟨gb177,1,none⟩) (Kd.S_far (p:=⟨gb177,0,none⟩) (Kd.S_types HO172.out BK177.out (by decide)) (fun _ hk=>hk.2) (.int .i64 t169)) (fun _ hk=>hk.2) (.slice Ao18 t170.length co18)) (fun _ hk=>hk.2) (.int .i64 t173)) (fun _ h_=>h_.1))) hb);have n1_:=am (Kd.R_below (by(with_reducible repeat (first|apply Kd.R_alloc|apply Kd.R_drewN|apply Kd.R_drew));exact(Kd.R_mono (Kd.R_far (p:=⟨gb177,2,none⟩) (Kd.R_far (p:=⟨gb177,1,none⟩) (Kd.R_far (p:=⟨gb177,0,none⟩) (Kd.R_types HO176.out BK177.out (by decide)) (fun _ hk=>hk.2) (.int .i64 t169)) (fun _ hk=>hk.2) (.slice Ao18 t170.length co18)) (fun _ hk=>hk.2) (.int .i64 t173)) (fun _ h_=>h_.1))) hb);have n2_:=am (blk_below (g:=gb166) (o:=.cells #[.int .i64 a0_0,.slice A0_1 l0_1.length c0_1,.int .i64 a0_2] 25 (0,0)) (by(with_reducible repeat (first|refine blk_drewN ?_ _|refine blk_drew ?_|refine blk_alloc ?_ _));refine blk_far ?_ NB166_177.out _;(with_reducible repeat (first|refine blk_drewN ?_ _|refine blk_drew ?_|refine blk_alloc ?_ _));refine blk_far ?_ NB166_177.out _;(with_reducible repeat (first|refine blk_drewN ?_ _|refine blk_drew ?_|refine blk_alloc ?_ _));refine blk_far ?_ NB166_177.out _;(with_reducible repeat (first|refine blk_drewN ?_ _|refine blk_drew ?_|refine blk_alloc ?_ _));exact BK166.out) hb);have n3_:=am (blk_below (g:=gb167) (o:=.cells #[.int .i64 0,.slice none 0 0,.int .i64 0] 25 (0,0)) (by(with_reducible repeat (first|refine blk_drewN ?_ _|refine blk_drew ?_|refine blk_alloc ?_ _));refine blk_far ?_ NB167_177.out _;(with_reducible repeat (first|refine blk_drewN ?_ _|refine blk_drew ?_|refine blk_alloc ?_ _));refine blk_far ?_ NB167_177.out _;(with_reducible repeat (first|refine blk_drewN ?_ _|refine blk_drew ?_|refine blk_alloc ?_ _));refine blk_far ?_ NB167_177.out _;(with_reducible repeat (first|refine blk_drewN ?_ _|refine blk_drew ?_|refine blk_alloc ?_ _));exact BK167.out) hb);have n4_:=am (blk_below (g:=gb177) (o:=.cells #[.int .i64 t169,.slice Ao18 t170.length co18,.int .i64 t173] 25 (0,0)) (by(with_reducible repeat (first|refine blk_drewN ?_ _|refine blk_drew ?_|refine blk_alloc ?_ _));apply bU3;(with_reducible repeat (first|refine blk_drewN ?_ _|refine blk_drew ?_|refine blk_alloc ?_ _));exact BK177.out) hb);have n5_:=am (below_step (bS3 GE166.out GE167.out GE177.out) hb);clear HO172 HO176 BK166 BK167 BK177 HB;have HO172:=n0_;have HO176:=n1_;have BK166:=n2_;have BK167:=n3_;have BK177:=n4_;have HB:=n5_;clear n0_ n1_ n2_ n3_ n4_ n5_;(try clear hb);(try clear hb2);(try clear hk);(try clear hi);obtain⟨hcz20_0,hcz20_1,hcz20_2⟩:=cC3 BK177.out;obtain⟨hfz20_0,hfz20_1,hfz20_2⟩:=cF3 BK177.out;obtain⟨hcz21_0,hcz21_1,hcz21_2⟩:=cC3 BK167.out;obtain⟨hfz21_0,hfz21_1,hfz21_2⟩:=cF3 BK167.out))
   refine bodyPost_ret (results_ctt rfl _ _ gb167 25 #[.int .i64 t169,.slice Ao18 t170.length co18,.int .i64 t173] (0,0) _ rfl (by(with_reducible repeat (first|refine blk_drewN ?_ _|refine blk_drew ?_|refine blk_alloc ?_ _));apply bU3;(with_reducible repeat (first|refine blk_drewN ?_ _|refine blk_drew ?_|refine blk_alloc ?_ _));exact BK167.out) Try.underlying25 rfl (by kernel_rfl)) rfl ?_
   exact⟨_,_,by first|rfl|(simp[errW_none,errW_some]<;>rfl)|(simp[*,errW_none,errW_some]<;>rfl),by(with_reducible repeat (first|apply Kd.S_alloc|apply Kd.S_drewN|apply Kd.S_drew));exact Kd.S_mono (Kd.S_far (p:=⟨gb167,2,none⟩) (Kd.S_far (p:=⟨gb167,1,none⟩) (Kd.S_far (p:=⟨gb167,0,none⟩) (Kd.S_types HO172.out BK167.out (by decide)) (fun _ hk=>hk.2) (.int .i64 t169)) (fun _ hk=>hk.2) (.slice Ao18 t170.length co18)) (fun _ hk=>hk.2) (.int .i64 t173)) (fun _ hk=>hk.1),by(with_reducible repeat (first|apply Kd.R_alloc|apply Kd.R_drewN|apply Kd.R_drew));exact Kd.R_mono (Kd.R_far (p:=⟨gb167,2,none⟩) (Kd.R_far (p:=⟨gb167,1,none⟩) (Kd.R_far (p:=⟨gb167,0,none⟩) (Kd.R_types HO176.out BK167.out (by decide)) (fun _ hk=>hk.2) (.int .i64 t169)) (fun _ hk=>hk.2) (.slice Ao18 t170.length co18)) (fun _ hk=>hk.2) (.int .i64 t173)) (fun _ hk=>trivial),bS3 GE166.out GE167.out GE177.out⟩
  ·replace c6:=Bool.eq_false_iff.mpr c6
   subst c6
   have H1:(some (0,([]:List (S34)),0,([]:List Int),false))=some (r1,r2,r3,r4,r5):=by rw[if_neg (show ¬ (false=true) by decide)] at H;exact H
   clear H
   have H:=H1
   clear H1
   simp only[Option.some.injEq,Prod.mk.injEq] at H
   obtain⟨rfl,rfl,rfl,rfl,rfl⟩:=H
   go_enter Try.func7,Try.ntmps7
   go_wp2_with (first|((with_reducible refine gate_dst (N:=1) rfl ?_);refine box_event ?hg (N:=1) ?hd (cs:=#[.int .i64 a0_0,.slice A0_1 l0_1.length c0_1,.int .i64 a0_2]) (t:=25) ?hr ?_;(case hd=>rfl);(case hg=>rfl);(case hr=>first|(go_simp;done)|(go_simp;rfl));intro gb166 hg w22 hbox hb;have n0_:=am (below_step (bB) hb);have n1_:=am (hbox);have n2_:=am ((bG:w.heap.size≤gb166));have n3_:=am ((bG:w.heap.size≤gb166));clear HB;have HB:=n0_;have BK166:=n1_;have GW166:=n2_;have GE166:=n3_;clear n0_ n1_ n2_ n3_;clear hb hbox hg)|((with_reducible refine gate_dst (N:=2) rfl ?_);refine box_event ?hg (N:=2) ?hd (cs:=#[.int .i64 0,.slice none 0 0,.int .i64 0]) (t:=25) ?hr ?_;(case hd=>rfl);(case hg=>rfl);(case hr=>first|(go_simp;done)|(go_simp;rfl));intro gb167 hg w23 hbox hb;have n0_:=am (bM BK166.out hb);have n1_:=am (below_step (bS GE166.out) hb);have n2_:=am (hbox);have n3_:=am ((by rw[hg];exact(below_size (bS GE166.out)):w.heap.size≤gb167));have n4_:=am ((by rw[hg];exact(below_size (bS GE166.out)):w.heap.size≤gb167));have n5_:=am ((bN BK166.out hg:gb166≠gb167));have n6_:=am ((bO BK166.out hg:gb167≠gb166));clear BK166 HB;have BK166:=n0_;have HB:=n1_;have BK167:=n2_;have GW167:=n3_;have GE167:=n4_;have NB166_167:=n5_;have NB167_166:=n6_;clear n0_ n1_ n2_ n3_ n4_ n5_ n6_;clear hb hbox hg;have hnb24:=NB166_167.out;have hnc24:=NB167_166.out;obtain⟨hcz25_0,hcz25_1,hcz25_2⟩:=cC3 BK166.out;obtain⟨hfz25_0,hfz25_1,hfz25_2⟩:=cF3 BK166.out)|((with_reducible refine gate_callee (f:=11) rfl ?_);refine goesA (some 8) rfl rfl Try.func11 #[.agg #[.int .i64 a0_0,.slice A0_1 l0_1.length c0_1,.int .i64 a0_2]] rfl ?_;(with_reducible refine(spec_GoodTurns.calls k a0_0 _ _ l0_1 a0_2 true _ ?side1 ?side2 A2.out).mono ?_);(case side1=>exact bC HR0_1.out);(case side2=>exact HC0_1.out);rintro e w26 ⟨rfl,hb⟩;refine⟨_,rfl,?_⟩;have n0_:=am (bM BK166.out hb);have n1_:=am (bM BK167.out hb);have n2_:=am (below_step (bS2 GE166.out GE167.out) hb);clear BK166 BK167 HB;have BK166:=n0_;have BK167:=n1_;have HB:=n2_;clear n0_ n1_ n2_;(try clear hb);(try clear hb2);(try clear hk);(try clear hi);obtain⟨hcz27_0,hcz27_1,hcz27_2⟩:=cC3 BK166.out;obtain⟨hfz27_0,hfz27_1,hfz27_2⟩:=cF3 BK166.out)|((with_reducible refine gate_callee (f:=21) rfl ?_);refine goesA (some 13) rfl rfl Try.func21 #[.agg #[.int .i64 a0_0,.slice A0_1 l0_1.length c0_1,.int .i64 a0_2]] rfl ?_;(with_reducible refine(spec_l14Round.calls k a0_0 _ _ l0_1 a0_2 t169 t170 t173 t174 _ ?side1 ?side2 A4.out).mono ?_);(case side1=>exact bC HR0_1.out);(case side2=>exact HC0_1.out);rintro e w28 ⟨v171,v175,rfl,ho0,ho1,hb⟩;refine⟨_,rfl,?_⟩;have n0_:=am (Kd.S_lower ho0 (below_size (bS2 GE166.out GE167.out)));have n1_:=am (Kd.R_lower ho1 (below_size (bS2 GE166.out GE167.out)));have n2_:=am (bM BK166.out hb);have n3_:=am (bM BK167.out hb);have n4_:=am (below_step (bS2 GE166.out GE167.out) hb);clear BK166 BK167 HB;have HO172:=n0_;have HO176:=n1_;have BK166:=n2_;have BK167:=n3_;have HB:=n4_;clear n0_ n1_ n2_ n3_ n4_;(try clear hb);(try clear hb2);(try clear hk);(try clear hi);(try clear ho0);(try clear ho1))|((with_reducible refine gate_dst (N:=5) rfl ?_);refine box_event ?hg (N:=5) ?hd (cs:=#[.int .i64 0,.slice none 0 0,.int .i64 0]) (t:=25) ?hr ?_;(case hd=>rfl);(case hg=>rfl);(case hr=>first|(go_simp;done)|(go_simp;rfl));intro gb177 hg w29 hbox hb;have n0_:=am (Kd.S_below (by(with_reducible repeat (first|apply Kd.S_alloc|apply Kd.S_drewN|apply Kd.S_drew));exact HO172.out) hb);have n1_:=am (Kd.R_below (bK HO176.out) hb);have n2_:=am (bM BK166.out hb);have n3_:=am (bM BK167.out hb);have n4_:=am (below_step (bS2 GE166.out GE167.out) hb);have n5_:=am (hbox);have n6_:=am ((by rw[hg];exact(below_size (bS2 GE166.out GE167.out)):w.heap.size≤gb177));have n7_:=am ((by rw[hg];exact(below_size (bS2 GE166.out GE167.out)):w.heap.size≤gb177));have n8_:=am ((bN BK166.out hg:gb166≠gb177));have n9_:=am ((bO BK166.out hg:gb177≠gb166));have n10_:=am ((bN BK167.out hg:gb167≠gb177));have n11_:=am ((bO BK167.out hg:gb177≠gb167));clear HO172 HO176 BK166 BK167 HB;have HO172:=n0_;have HO176:=n1_;have BK166:=n2_;have BK167:=n3_;have HB:=n4_;have BK177:=n5_;have GW177:=n6_;have GE177:=n7_;have NB166_177:=n8_;have NB177_166:=n9_;have NB167_177:=n10_;have NB177_167:=n11_;clear n0_ n1_ n2_ n3_ n4_ n5_ n6_ n7_ n8_ n9_ n10_ n11_;clear hb hbox hg;have hnb30:=NB177_166.out;have hnc30:=NB166_177.out;have hnb31:=NB177_167.out;have hnc31:=NB167_177.out;obtain⟨hcz32_0,hcz32_1,hcz32_2⟩:=cC3 BK177.out;obtain⟨hfz32_0,hfz32_1,hfz32_2⟩:=cF3 BK177.out;obtain⟨Ao33,co33,eo33⟩:=Kd.S_slice HO172.out;subst eo33)|((with_reducible refine gate_callee (f:=11) rfl ?_);refine goesA (some 17) rfl rfl Try.func11 #[.agg #[.int .i64 t169,.slice Ao33 t170.length co33,.int .i64 t173]] rfl ?_;(with_reducible refine(spec_GoodTurns.calls k t169 _ _ t170 t173 false _ ?side1 ?side2 A5.out).mono ?_);(case side1=>refine(Kd.S_reads' (e:=34) (base:=w.heap.size) (ok:=fun k_=>some k_≠(v175:Value).ownBlock) (n:=t170.length) (c:=co33) ?_).2.2;exact(by(with_reducible repeat (first|apply Kd.S_alloc|apply Kd.S_drewN|apply Kd.S_drew));exact(Kd.S_mono (Kd.S_far (p:=⟨gb177,2,none⟩) (Kd.S_far (p:=⟨gb177,1,none⟩) (Kd.S_far (p:=⟨gb177,0,none⟩) (Kd.S_types HO172.out BK177.out (by decide)) (fun _ hk=>hk.2) (.int .i64 t169)) (fun _ hk=>hk.2) (.slice Ao33 t170.length co33)) (fun _ hk=>hk.2) (.int .i64 t173)) (fun _ h_=>h_.1))));(case side2=>exact(Kd.S_reads' HO172.out).2.1);rintro e w34 ⟨rfl,hb⟩;refine⟨_,rfl,?_⟩;have n0_:=am (Kd.S_below (by(with_reducible repeat (first|apply Kd.S_alloc|apply Kd.S_drewN|apply Kd.S_drew));exact(Kd.S_mono (Kd.S_far (p:=⟨gb177,2,none⟩) (Kd.S_far (p:=⟨gb177,1,none⟩) (Kd.S_far (p:=⟨gb177,0,none⟩) (Kd.S_types HO172.out BK177.out (by decide)) (fun _ hk=>hk.2) (.int .i64 t169)) (fun _ hk=>hk.2) (.slice Ao33 t170.length co33)) (fun _ hk=>hk.2) (.int .i64 t173)) (fun _ h_=>h_.1))) hb);have n1_:=am (Kd.R_below (by(with_reducible repeat (first|apply Kd.R_alloc|apply Kd.R_drewN|apply Kd.R_drew));exact(Kd.R_mono (Kd.R_far (p:=⟨gb177,2,none⟩) (Kd.R_far (p:=⟨gb177,1,none⟩) (Kd.R_far (p:=⟨gb177,0,none⟩) (Kd.R_types HO176.out BK177.out (by decide)) (fun _ hk=>hk.2) (.int .i64 t169)) (fun _ hk=>hk.2) (.slice Ao33 t170.length co33)) (fun _ hk=>hk.2) (.int .i64 t173)) (fun _ h_=>h_.1))) hb);have n2_:=am (blk_below (g:=gb166) (o:=.cells #[.int .i64 a0_0,.slice A0_1 l0_1.length c0_1,.int .i64 a0_2] 25 (0,0)) (by(with_reducible repeat (first|refine blk_drewN ?_ _|refine blk_drew ?_|refine blk_alloc ?_ _));refine blk_far ?_ NB166_177.out _;(with_reducible repeat (first|refine blk_drewN ?_ _|refine blk_drew ?_|refine blk_alloc ?_ _));refine blk_far ?_ NB166_177.out _;(with_reducible repeat (first|refine blk_drewN ?_ _|refine blk_drew ?_|refine blk_alloc ?_ _));refine blk_far ?_ NB166_177.out _;(with_reducible repeat (first|refine blk_drewN ?_ _|refine blk_drew ?_|refine blk_alloc ?_ _));exact BK166.out) hb);have n3_:=am (blk_below (g:=gb167) (o:=.cells #[.int .i64 0,.slice none 0 0,.int .i64 0] 25 (0,0)) (by(with_reducible repeat (first|refine blk_drewN ?_ _|refine blk_drew ?_|refine blk_alloc ?_ _));refine blk_far ?_ NB167_177.out _;(with_reducible repeat (first|refine blk_drewN ?_ _|refine blk_drew ?_|refine blk_alloc ?_ _));refine blk_far ?_ NB167_177.out _;(with_reducible repeat (first|refine blk_drewN ?_ _|refine blk_drew ?_|refine blk_alloc ?_ _));refine blk_far ?_ NB167_177.out _;(with_reducible repeat (first|refine blk_drewN ?_ _|refine blk_drew ?_|refine blk_alloc ?_ _));exact BK167.out) hb);have n4_:=am (blk_below (g:=gb177) (o:=.cells #[.int .i64 t169,.slice Ao33 t170.length co33,.int .i64 t173] 25 (0,0)) (by(with_reducible repeat (first|refine blk_drewN ?_ _|refine blk_drew ?_|refine blk_alloc ?_ _));apply bU3;(with_reducible repeat (first|refine blk_drewN ?_ _|refine blk_drew ?_|refine blk_alloc ?_ _));exact BK177.out) hb);have n5_:=am (below_step (bS3 GE166.out GE167.out GE177.out) hb);clear HO172 HO176 BK166 BK167 BK177 HB;have HO172:=n0_;have HO176:=n1_;have BK166:=n2_;have BK167:=n3_;have BK177:=n4_;have HB:=n5_;clear n0_ n1_ n2_ n3_ n4_ n5_;(try clear hb);(try clear hb2);(try clear hk);(try clear hi);obtain⟨hcz35_0,hcz35_1,hcz35_2⟩:=cC3 BK167.out;obtain⟨hfz35_0,hfz35_1,hfz35_2⟩:=cF3 BK167.out))
   refine bodyPost_ret (results_ctt rfl _ _ gb167 25 #[.int .i64 0,.slice none 0 0,.int .i64 0] (0,0) _ rfl (by(with_reducible repeat (first|refine blk_drewN ?_ _|refine blk_drew ?_|refine blk_alloc ?_ _));apply bU3;(with_reducible repeat (first|refine blk_drewN ?_ _|refine blk_drew ?_|refine blk_alloc ?_ _));exact BK167.out) Try.underlying25 rfl (by kernel_rfl)) rfl ?_
   exact⟨_,_,by first|rfl|(simp[errW_none,errW_some]<;>rfl)|(simp[*,errW_none,errW_some]<;>rfl),by first|exact Kd.S_nil _ _ _ _ _|exact Kd.N_nil _ _ _ _ _|exact Kd.V_nil _ _ _ _ _|exact Kd.Q_nil _ _ _ _ _|exact Kd.R_nil _ _ _ _ _,by first|exact Kd.R_nil _ _ _ _ _|exact Kd.N_nil _ _ _ _ _|exact Kd.V_nil _ _ _ _ _|exact Kd.Q_nil _ _ _ _ _|exact Kd.S_nil _ _ _ _ _,bS3 GE166.out GE167.out GE177.out⟩
 ·replace c3:=Bool.eq_false_iff.mpr c3
  subst c3
  have H1:(some (0,([]:List (S34)),0,([]:List Int),false))=some (r1,r2,r3,r4,r5):=by rw[if_neg (show ¬ (false=true) by decide)] at H;exact H
  clear H
  have H:=H1
  clear H1
  simp only[Option.some.injEq,Prod.mk.injEq] at H
  obtain⟨rfl,rfl,rfl,rfl,rfl⟩:=H
  go_enter Try.func7,Try.ntmps7
  go_wp2_with (first|((with_reducible refine gate_dst (N:=1) rfl ?_);refine box_event ?hg (N:=1) ?hd (cs:=#[.int .i64 a0_0,.slice A0_1 l0_1.length c0_1,.int .i64 a0_2]) (t:=25) ?hr ?_;(case hd=>rfl);(case hg=>rfl);(case hr=>first|(go_simp;done)|(go_simp;rfl));intro gb166 hg w36 hbox hb;have n0_:=am (below_step (bB) hb);have n1_:=am (hbox);have n2_:=am ((bG:w.heap.size≤gb166));have n3_:=am ((bG:w.heap.size≤gb166));clear HB;have HB:=n0_;have BK166:=n1_;have GW166:=n2_;have GE166:=n3_;clear n0_ n1_ n2_ n3_;clear hb hbox hg)|((with_reducible refine gate_dst (N:=2) rfl ?_);refine box_event ?hg (N:=2) ?hd (cs:=#[.int .i64 0,.slice none 0 0,.int .i64 0]) (t:=25) ?hr ?_;(case hd=>rfl);(case hg=>rfl);(case hr=>first|(go_simp;done)|(go_simp;rfl));intro gb167 hg w37 hbox hb;have n0_:=am (bM BK166.out hb);have n1_:=am (below_step (bS GE166.out) hb);have n2_:=am (hbox);have n3_:=am ((by rw[hg];exact(below_size (bS GE166.out)):w.heap.size≤gb167));have n4_:=am ((by rw[hg];exact(below_size (bS GE166.out)):w.heap.size≤gb167));have n5_:=am ((bN BK166.out hg:gb166≠gb167));have n6_:=am ((bO BK166.out hg:gb167≠gb166));clear BK166 HB;have BK166:=n0_;have HB:=n1_;have BK167:=n2_;have GW167:=n3_;have GE167:=n4_;have NB166_167:=n5_;have NB167_166:=n6_;clear n0_ n1_ n2_ n3_ n4_ n5_ n6_;clear hb hbox hg;have hnb38:=NB166_167.out;have hnc38:=NB167_166.out;obtain⟨hcz39_0,hcz39_1,hcz39_2⟩:=cC3 BK166.out;obtain⟨hfz39_0,hfz39_1,hfz39_2⟩:=cF3 BK166.out)|((with_reducible refine gate_callee (f:=11) rfl ?_);refine goesA (some 8) rfl rfl Try.func11 #[.agg #[.int .i64 a0_0,.slice A0_1 l0_1.length c0_1,.int .i64 a0_2]] rfl ?_;(with_reducible refine(spec_GoodTurns.calls k a0_0 _ _ l0_1 a0_2 false _ ?side1 ?side2 A2.out).mono ?_);(case side1=>exact bC HR0_1.out);(case side2=>exact HC0_1.out);rintro e w40 ⟨rfl,hb⟩;refine⟨_,rfl,?_⟩;have n0_:=am (bM BK166.out hb);have n1_:=am (bM BK167.out hb);have n2_:=am (below_step (bS2 GE166.out GE167.out) hb);clear BK166 BK167 HB;have BK166:=n0_;have BK167:=n1_;have HB:=n2_;clear n0_ n1_ n2_;(try clear hb);(try clear hb2);(try clear hk);(try clear hi);obtain⟨hcz41_0,hcz41_1,hcz41_2⟩:=cC3 BK167.out;obtain⟨hfz41_0,hfz41_1,hfz41_2⟩:=cF3 BK167.out))
  refine bodyPost_ret (results_ctt rfl _ _ gb167 25 #[.int .i64 0,.slice none 0 0,.int .i64 0] (0,0) _ rfl (by(with_reducible repeat (first|refine blk_drewN ?_ _|refine blk_drew ?_|refine blk_alloc ?_ _));apply bU3;(with_reducible repeat (first|refine blk_drewN ?_ _|refine blk_drew ?_|refine blk_alloc ?_ _));exact BK167.out) Try.underlying25 rfl (by kernel_rfl)) rfl ?_
  exact⟨_,_,by first|rfl|(simp[errW_none,errW_some]<;>rfl)|(simp[*,errW_none,errW_some]<;>rfl),by first|exact Kd.S_nil _ _ _ _ _|exact Kd.N_nil _ _ _ _ _|exact Kd.V_nil _ _ _ _ _|exact Kd.Q_nil _ _ _ _ _|exact Kd.R_nil _ _ _ _ _,by first|exact Kd.R_nil _ _ _ _ _|exact Kd.N_nil _ _ _ _ _|exact Kd.V_nil _ _ _ _ _|exact Kd.Q_nil _ _ _ _ _|exact Kd.S_nil _ _ _ _ _,bS2 GE166.out GE167.out⟩

/-! ### spec_PutLong: function 14 -/
def spec_PutLong.f (k:Nat) (a0_0:Int) (l0_1:List (S34)) (a0_2:Int) (a1:Int) (a2:Int):Option (Int × (List (S34)) × Int × Bool):=(spec_GoodTurns.f k a0_0 l0_1 a0_2).bind fun t181=>(if t181=true then (if a1 < 0 then (some (0,([]:List (S34)),0,false)) else (if a1 ≥ (l0_1.length:Int) then (some (0,([]:List (S34)),0,false)) else ((spec_l1In.f a2 1 50).bind fun t182=>(if t182=true then (if 0≤a1 then (if a1 < (l0_1.length:Int) then (if (((rd_T34 l0_1 a1).f0).length:Int)=40 then (some (0,([]:List (S34)),0,false)) else ((spec_l14Own.f k a0_0 l0_1 a0_2).bind fun bt184=>(if a1 < (bt184.2.1.length:Int) then (if ((rd_T34 bt184.2.1 a1).f0).length < 17592186044416 then (some (bt184.1,(bt184.2.1.set (a1:Int).toNat (⟨(((rd_T34 bt184.2.1 a1).f0)++[a2]),(rd_T34 bt184.2.1 a1).f1,(rd_T34 bt184.2.1 a1).f2⟩:S34)),bt184.2.2,true)) else (none)) else (none)))) else (none)) else (none)) else (some (0,([]:List (S34)),0,false)))))) else (some (0,([]:List (S34)),0,false)))
theorem spec_PutLong.mono : ∀ a0 a1 a2 a3 a4 k,LeO (spec_PutLong.f k a0 a1 a2 a3 a4) (spec_PutLong.f (k+1) a0 a1 a2 a3 a4):=by
 intro a0 a1 a2 a3 a4 k
 unfold spec_PutLong.f
 repeat' first
  | (with_reducible exact spec_GoodTurns.mono _ _ _ _)
  | (with_reducible exact spec_l14Own.mono _ _ _ _)
  | (with_reducible exact LeO.refl _)
  | (with_reducible exact LeO.none _)
  | (with_reducible refine LeO.ite ?_ ?_)
  | (with_reducible refine LeO.bind ?_ (fun _ => ?_))
def spec_PutLong.T4:Bool × List (List Nat × List Nat):=(true,[([],[]),([0],[0]),([],[]),([],[]),([3],[3]),([],[]),([4,5],[4,5]),([6],[6]),([7],[7]),([],[]),([9],[9]),([8,10],[8,10]),([1,2,0,1,2,3,4,5,6,7,8,9,10,11],[1,2]),([12,0,1,2,3,4,5,6,7,8,9,10,11],[12]),([13,11,11,0,1,2,3,4,5,6,7,8,9,10,11],[11,13])])
def spec_PutLong.B4:List Nat:=[0,1,0,0,8,0,56,120,248,0,512,2040,4095,8191,16383]
theorem spec_PutLong.tab4:rtab .any (opsOf Try.f14 4)=spec_PutLong.T4:=by kernel_rfl
theorem spec_PutLong.bits4:waitsOk spec_PutLong.T4.2 spec_PutLong.B4=true:=by kernel_rfl
set_option maxHeartbeats 8000000 in
set_option maxRecDepth 100000 in
theorem spec_PutLong.calls (k:Nat) (a0_0:Int) (A0_1:Option Addr) (c0_1:Nat) (l0_1:List (S34)) (a0_2:Int) (a1:Int) (a2:Int) (r1:Int) (r2:List (S34)) (r3:Int) (r4:Bool) (w:World) (hr0_1:Kd.C k34 w A0_1 l0_1.length l0_1) (hc0_1:l0_1.length≤c0_1) (h:spec_PutLong.f k a0_0 l0_1 a0_2 a1 a2=some (r1,r2,r3,r4)) :
  Calls Try.prog 14 #[.agg #[.int .i64 a0_0,.slice A0_1 l0_1.length c0_1,.int .i64 a0_2],.int .i64 a1,.int .i64 a2] w fun e w' => ∃ v1_:Value,e=.returned (.tuple #[.agg #[.int .i64 r1,v1_,.int .i64 r3],.bool r4])∧Kd.S k34 34 w' w.heap.size (fun _=>True) v1_ r2∧Below w.heap.size w w':=by
 have hu25:=Try.underlying25
 have HR0_1:=am hr0_1
 have HC0_1:=am hc0_1
 clear hr0_1 hc0_1
 have HB:=am (Below.refl w.heap.size w)
 have H:((spec_GoodTurns.f k a0_0 l0_1 a0_2).bind fun t181=>(if t181=true then (if a1 < 0 then (some (0,([]:List (S34)),0,false)) else (if a1 ≥ (l0_1.length:Int) then (some (0,([]:List (S34)),0,false)) else ((spec_l1In.f a2 1 50).bind fun t182=>(if t182=true then (if 0≤a1 then (if a1 < (l0_1.length:Int) then (if (((rd_T34 l0_1 a1).f0).length:Int)=40 then (some (0,([]:List (S34)),0,false)) else ((spec_l14Own.f k a0_0 l0_1 a0_2).bind fun bt184=>(if a1 < (bt184.2.1.length:Int) then (if ((rd_T34 bt184.2.1 a1).f0).length < 17592186044416 then (some (bt184.1,(bt184.2.1.set (a1:Int).toNat (⟨(((rd_T34 bt184.2.1 a1).f0)++[a2]),(rd_T34 bt184.2.1 a1).f1,(rd_T34 bt184.2.1 a1).f2⟩:S34)),bt184.2.2,true)) else (none)) else (none)))) else (none)) else (none)) else (some (0,([]:List (S34)),0,false)))))) else (some (0,([]:List (S34)),0,false))))=some (r1,r2,r3,r4):=h
 clear h
 replace H:=bI_ H
 obtain⟨t181,A40,H⟩:=H
 replace H:(if t181=true then (if a1 < 0 then (some (0,([]:List (S34)),0,false)) else (if a1 ≥ (l0_1.length:Int) then (some (0,([]:List (S34)),0,false)) else ((spec_l1In.f a2 1 50).bind fun t182=>(if t182=true then (if 0≤a1 then (if a1 < (l0_1.length:Int) then (if (((rd_T34 l0_1 a1).f0).length:Int)=40 then (some (0,([]:List (S34)),0,false)) else ((spec_l14Own.f k a0_0 l0_1 a0_2).bind fun bt184=>(if a1 < (bt184.2.1.length:Int) then (if ((rd_T34 bt184.2.1 a1).f0).length < 17592186044416 then (some (bt184.1,(bt184.2.1.set (a1:Int).toNat (⟨(((rd_T34 bt184.2.1 a1).f0)++[a2]),(rd_T34 bt184.2.1 a1).f1,(rd_T34 bt184.2.1 a1).f2⟩:S34)),bt184.2.2,true)) else (none)) else (none)))) else (none)) else (none)) else (some (0,([]:List (S34)),0,false)))))) else (some (0,([]:List (S34)),0,false)))=some (r1,r2,r3,r4):=H
 have A4:=am A40
 clear A40
 by_cases c5:t181=true
 ·subst c5
  have H1:(if a1 < 0 then (some (0,([]:List (S34)),0,false)) else (if a1 ≥ (l0_1.length:Int) then (some (0,([]:List (S34)),0,false)) else ((spec_l1In.f a2 1 50).bind fun t182=>(if t182=true then (if 0≤a1 then (if a1 < (l0_1.length:Int) then (if (((rd_T34 l0_1 a1).f0).length:Int)=40 then (some (0,([]:List (S34)),0,false)) else ((spec_l14Own.f k a0_0 l0_1 a0_2).bind fun bt184=>(if a1 < (bt184.2.1.length:Int) then (if ((rd_T34 bt184.2.1 a1).f0).length < 17592186044416 then (some (bt184.1,(bt184.2.1.set (a1:Int).toNat (⟨(((rd_T34 bt184.2.1 a1).f0)++[a2]),(rd_T34 bt184.2.1 a1).f1,(rd_T34 bt184.2.1 a1).f2⟩:S34)),bt184.2.2,true)) else (none)) else (none)))) else (none)) else (none)) else (some (0,([]:List (S34)),0,false))))))=some (r1,r2,r3,r4):=by rw[if_pos rfl] at H;exact H
  clear H
  have H:=H1
  clear H1
  by_cases c6:a1 < 0
  ·rw[if_pos c6] at H
   have c6b0:decide (a1 < 0)=true:=decide_eq_true c6
   clear c6
   simp only[Option.some.injEq,Prod.mk.injEq] at H
   obtain⟨rfl,rfl,rfl,rfl⟩:=H
   go_enter Try.func14,Try.ntmps14
   go_wp2_with (first|((with_reducible refine gate_dst (N:=3) rfl ?_);(try (refine gate_guard (by rfl) ?_;dsimp only));refine box_event ?hg (N:=3) ?hd (cs:=#[.int .i64 a0_0,.slice A0_1 l0_1.length c0_1,.int .i64 a0_2]) (t:=25) ?hr ?_;(case hd=>rfl);(case hg=>rfl);(case hr=>first|(go_simp;done)|(go_simp;rfl));intro gb179 hg w7 hbox hb;have n0_:=am (below_step (bB) hb);have n1_:=am (hbox);have n2_:=am ((bG:w.heap.size≤gb179));have n3_:=am ((bG:w.heap.size≤gb179));clear HB;have HB:=n0_;have BK179:=n1_;have GW179:=n2_;have GE179:=n3_;clear n0_ n1_ n2_ n3_;clear hb hbox hg)|((with_reducible refine gate_dst (N:=6) rfl ?_);(try (refine gate_guard (by rfl) ?_;dsimp only));refine box_event ?hg (N:=6) ?hd (cs:=#[.int .i64 0,.slice none 0 0,.int .i64 0]) (t:=25) ?hr ?_;(case hd=>rfl);(case hg=>rfl);(case hr=>first|(go_simp;done)|(go_simp;rfl));intro gb180 hg w8 hbox hb;have n0_:=am (bM BK179.out hb);have n1_:=am (below_step (bS GE179.out) hb);have n2_:=am (hbox);have n3_:=am ((by rw[hg];exact(below_size (bS GE179.out)):w.heap.size≤gb180));have n4_:=am ((by rw[hg];exact(below_size (bS GE179.out)):w.heap.size≤gb180));have n5_:=am ((bN BK179.out hg:gb179≠gb180));have n6_:=am ((bO BK179.out hg:gb180≠gb179));clear BK179 HB;have BK179:=n0_;have HB:=n1_;have BK180:=n2_;have GW180:=n3_;have GE180:=n4_;have NB179_180:=n5_;have NB180_179:=n6_;clear n0_ n1_ n2_ n3_ n4_ n5_ n6_;clear hb hbox hg;have hnb9:=NB179_180.out;have hnc9:=NB180_179.out;obtain⟨hcz10_0,hcz10_1,hcz10_2⟩:=cC3 BK179.out;obtain⟨hfz10_0,hfz10_1,hfz10_2⟩:=cF3 BK179.out)|((with_reducible refine gate_callee (f:=11) rfl ?_);refine goesA (some 9) rfl rfl Try.func11 #[.agg #[.int .i64 a0_0,.slice A0_1 l0_1.length c0_1,.int .i64 a0_2]] rfl ?_;(with_reducible refine(spec_GoodTurns.calls k a0_0 _ _ l0_1 a0_2 true _ ?side1 ?side2 A4.out).mono ?_);(case side1=>exact bC HR0_1.out);(case side2=>exact HC0_1.out);rintro e w11 ⟨rfl,hb⟩;refine⟨_,rfl,?_⟩;have n0_:=am (bM BK179.out hb);have n1_:=am (bM BK180.out hb);have n2_:=am (below_step (bS2 GE179.out GE180.out) hb);clear BK179 BK180 HB;have BK179:=n0_;have BK180:=n1_;have HB:=n2_;clear n0_ n1_ n2_;(try clear hb);(try clear hb2);(try clear hk);(try clear hi);obtain⟨hcz12_0,hcz12_1,hcz12_2⟩:=cC3 BK180.out;obtain⟨hfz12_0,hfz12_1,hfz12_2⟩:=cF3 BK180.out))
   refine bodyPost_ret (results_ct rfl _ _ gb180 25 #[.int .i64 0,.slice none 0 0,.int .i64 0] (0,0) _ rfl (by(with_reducible repeat (first|refine blk_drewN ?_ _|refine blk_drew ?_|refine blk_alloc ?_ _));apply bU3;(with_reducible repeat (first|refine blk_drewN ?_ _|refine blk_drew ?_|refine blk_alloc ?_ _));exact BK180.out) Try.underlying25 rfl (by kernel_rfl)) rfl ?_
   exact⟨_,by first|rfl|(simp[errW_none,errW_some]<;>rfl)|(simp[*,errW_none,errW_some]<;>rfl),by first|exact Kd.S_nil _ _ _ _ _|exact Kd.N_nil _ _ _ _ _|exact Kd.V_nil _ _ _ _ _|exact Kd.Q_nil _ _ _ _ _|exact Kd.R_nil _ _ _ _ _,bS2 GE179.out GE180.out⟩
  ·rw[if_neg c6] at H
   have c6b0:decide (a1 < 0)=false:=decide_eq_false c6
   clear c6
   by_cases c13:a1 ≥ (l0_1.length:Int)
   ·rw[if_pos c13] at H
    have c13b0:decide ((l0_1.length:Int)≤a1)=true:=decide_eq_true c13
    clear c13
    simp only[Option.some.injEq,Prod.mk.injEq] at H
    obtain⟨rfl,rfl,rfl,rfl⟩:=H
    go_enter Try.func14,Try.ntmps14
    go_wp2_with (first|((with_reducible refine gate_dst (N:=3) rfl ?_);(try (refine gate_guard (by rfl) ?_;dsimp only));refine box_event ?hg (N:=3) ?hd (cs:=#[.int .i64 a0_0,.slice A0_1 l0_1.length c0_1,.int .i64 a0_2]) (t:=25) ?hr ?_;(case hd=>rfl);(case hg=>rfl);(case hr=>first|(go_simp;done)|(go_simp;rfl));intro gb179 hg w14 hbox hb;have n0_:=am (below_step (bB) hb);have n1_:=am (hbox);have n2_:=am ((bG:w.heap.size≤gb179));have n3_:=am ((bG:w.heap.size≤gb179));clear HB;have HB:=n0_;have BK179:=n1_;have GW179:=n2_;have GE179:=n3_;clear n0_ n1_ n2_ n3_;clear hb hbox hg)|((with_reducible refine gate_dst (N:=6) rfl ?_);(try (refine gate_guard (by rfl) ?_;dsimp only));refine box_event ?hg (N:=6) ?hd (cs:=#[.int .i64 0,.slice none 0 0,.int .i64 0]) (t:=25) ?hr ?_;(case hd=>rfl);(case hg=>rfl);(case hr=>first|(go_simp;done)|(go_simp;rfl));intro gb180 hg w15 hbox hb;have n0_:=am (bM BK179.out hb);have n1_:=am (below_step (bS GE179.out) hb);have n2_:=am (hbox);have n3_:=am ((by rw[hg];exact(below_size (bS GE179.out)):w.heap.size≤gb180));have n4_:=am ((by rw[hg];exact(below_size (bS GE179.out)):w.heap.size≤gb180));have n5_:=am ((bN BK179.out hg:gb179≠gb180));have n6_:=am ((bO BK179.out hg:gb180≠gb179));clear BK179 HB;have BK179:=n0_;have HB:=n1_;have BK180:=n2_;have GW180:=n3_;have GE180:=n4_;have NB179_180:=n5_;have NB180_179:=n6_;clear n0_ n1_ n2_ n3_ n4_ n5_ n6_;clear hb hbox hg;have hnb16:=NB179_180.out;have hnc16:=NB180_179.out;obtain⟨hcz17_0,hcz17_1,hcz17_2⟩:=cC3 BK179.out;obtain⟨hfz17_0,hfz17_1,hfz17_2⟩:=cF3 BK179.out)|((with_reducible refine gate_callee (f:=11) rfl ?_);refine goesA (some 9) rfl rfl Try.func11 #[.agg #[.int .i64 a0_0,.slice A0_1 l0_1.length c0_1,.int .i64 a0_2]] rfl ?_;(with_reducible refine(spec_GoodTurns.calls k a0_0 _ _ l0_1 a0_2 true _ ?side1 ?side2 A4.out).mono ?_);(case side1=>exact bC HR0_1.out);(case side2=>exact HC0_1.out);rintro e w18 ⟨rfl,hb⟩;refine⟨_,rfl,?_⟩;have n0_:=am (bM BK179.out hb);have n1_:=am (bM BK180.out hb);have n2_:=am (below_step (bS2 GE179.out GE180.out) hb);clear BK179 BK180 HB;have BK179:=n0_;have BK180:=n1_;have HB:=n2_;clear n0_ n1_ n2_;(try clear hb);(try clear hb2);(try clear hk);(try clear hi);obtain⟨hcz19_0,hcz19_1,hcz19_2⟩:=cC3 BK179.out;obtain⟨hfz19_0,hfz19_1,hfz19_2⟩:=cF3 BK179.out;obtain⟨hcz20_0,hcz20_1,hcz20_2⟩:=cC3 BK180.out;obtain⟨hfz20_0,hfz20_1,hfz20_2⟩:=cF3 BK180.out))
    refine bodyPost_ret (results_ct rfl _ _ gb180 25 #[.int .i64 0,.slice none 0 0,.int .i64 0] (0,0) _ rfl (by(with_reducible repeat (first|refine blk_drewN ?_ _|refine blk_drew ?_|refine blk_alloc ?_ _));apply bU3;(with_reducible repeat (first|refine blk_drewN ?_ _|refine blk_drew ?_|refine blk_alloc ?_ _));exact BK180.out) Try.underlying25 rfl (by kernel_rfl)) rfl ?_
    exact⟨_,by first|rfl|(simp[errW_none,errW_some]<;>rfl)|(simp[*,errW_none,errW_some]<;>rfl),by first|exact Kd.S_nil _ _ _ _ _|exact Kd.N_nil _ _ _ _ _|exact Kd.V_nil _ _ _ _ _|exact Kd.Q_nil _ _ _ _ _|exact Kd.R_nil _ _ _ _ _,bS2 GE179.out GE180.out⟩
   ·rw[if_neg c13] at H
    have c13b0:decide ((l0_1.length:Int)≤a1)=false:=decide_eq_false c13
    clear c13
    replace H:=bI_ H
    obtain⟨t182,A210,H⟩:=H
    replace H:(if t182=true then (if 0≤a1 then (if a1 < (l0_1.length:Int) then (if (((rd_T34 l0_1 a1).f0).length:Int)=40 then (some (0,([]:List (S34)),0,false)) else ((spec_l14Own.f k a0_0 l0_1 a0_2).bind fun bt184=>(if a1 < (bt184.2.1.length:Int) then (if ((rd_T34 bt184.2.1 a1).f0).length < 17592186044416 then (some (bt184.1,(bt184.2.1.set (a1:Int).toNat (⟨(((rd_T34 bt184.2.1 a1).f0)++[a2]),(rd_T34 bt184.2.1 a1).f1,(rd_T34 bt184.2.1 a1).f2⟩:S34)),bt184.2.2,true)) else (none)) else (none)))) else (none)) else (none)) else (some (0,([]:List (S34)),0,false)))=some (r1,r2,r3,r4):=H
    have A21:=am A210
    clear A210
    by_cases c22:t182=true
    ·subst c22
     have H1:(if 0≤a1 then (if a1 < (l0_1.length:Int) then (if (((rd_T34 l0_1 a1).f0).length:Int)=40 then (some (0,([]:List (S34)),0,false)) else ((spec_l14Own.f k a0_0 l0_1 a0_2).bind fun bt184=>(if a1 < (bt184.2.1.length:Int) then (if ((rd_T34 bt184.2.1 a1).f0).length < 17592186044416 then (some (bt184.1,(bt184.2.1.set (a1:Int).toNat (⟨(((rd_T34 bt184.2.1 a1).f0)++[a2]),(rd_T34 bt184.2.1 a1).f1,(rd_T34 bt184.2.1 a1).f2⟩:S34)),bt184.2.2,true)) else (none)) else (none)))) else (none)) else (none))=some (r1,r2,r3,r4):=by rw[if_pos rfl] at H;exact H
     clear H
     have H:=H1
     clear H1
     by_cases c23:0≤a1
     ·rw[if_pos c23] at H
      have c23b0:decide (0≤a1)=true:=decide_eq_true c23
      clear c23
      by_cases c24:a1 < (l0_1.length:Int)
      ·rw[if_pos c24] at H
       have c24b0:decide (a1 < (l0_1.length:Int))=true:=decide_eq_true c24
       clear c24
       by_cases c25:(((rd_T34 l0_1 a1).f0).length:Int)=40
       ·rw[if_pos c25] at H
        have c25b0:((((rd_T34 l0_1 a1).f0).length:Int) == 40)=true:=beq_iff_eq.mpr c25
        have c25b1:((((rd_T34 l0_1 a1).f0).length:Int) != 40)=false:=bne_eq_false_iff_eq.mpr c25
        clear c25
        simp only[Option.some.injEq,Prod.mk.injEq] at H
        obtain⟨rfl,rfl,rfl,rfl⟩:=H
        go_enter Try.func14,Try.ntmps14
        go_wp2_with (first|((with_reducible refine gate_dst (N:=3) rfl ?_);(try (refine gate_guard (by rfl) ?_;dsimp only));refine box_event ?hg (N:=3) ?hd (cs:=#[.int .i64 a0_0,.slice A0_1 l0_1.length c0_1,.int .i64 a0_2]) (t:=25) ?hr ?_;(case hd=>rfl);(case hg=>rfl);(case hr=>first|(go_simp;done)|(go_simp;rfl));intro gb179 hg w26 hbox hb;have n0_:=am (below_step (bB) hb);have n1_:=am (hbox);have n2_:=am ((bG:w.heap.size≤gb179));have n3_:=am ((bG:w.heap.size≤gb179));clear HB;have HB:=n0_;have BK179:=n1_;have GW179:=n2_;have GE179:=n3_;clear n0_ n1_ n2_ n3_;clear hb hbox hg)|((with_reducible refine gate_dst (N:=6) rfl ?_);(try (refine gate_guard (by rfl) ?_;dsimp only));refine box_event ?hg (N:=6) ?hd (cs:=#[.int .i64 0,.slice none 0 0,.int .i64 0]) (t:=25) ?hr ?_;(case hd=>rfl);(case hg=>rfl);(case hr=>first|(go_simp;done)|(go_simp;rfl));intro gb180 hg w27 hbox hb;have n0_:=am (bM BK179.out hb);have n1_:=am (below_step (bS GE179.out) hb);have n2_:=am (hbox);have n3_:=am ((by rw[hg];exact(below_size (bS GE179.out)):w.heap.size≤gb180));have n4_:=am ((by rw[hg];exact(below_size (bS GE179.out)):w.heap.size≤gb180));have n5_:=am ((bN BK179.out hg:gb179≠gb180));have n6_:=am ((bO BK179.out hg:gb180≠gb179));clear BK179 HB;have BK179:=n0_;have HB:=n1_;have BK180:=n2_;have GW180:=n3_;have GE180:=n4_;have NB179_180:=n5_;have NB180_179:=n6_;clear n0_ n1_ n2_ n3_ n4_ n5_ n6_;clear hb hbox hg;have hnb28:=NB179_180.out;have hnc28:=NB180_179.out;obtain⟨hcz29_0,hcz29_1,hcz29_2⟩:=cC3 BK179.out;obtain⟨hfz29_0,hfz29_1,hfz29_2⟩:=cF3 BK179.out)|((with_reducible refine gate_callee (f:=11) rfl ?_);refine goesA (some 9) rfl rfl Try.func11 #[.agg #[.int .i64 a0_0,.slice A0_1 l0_1.length c0_1,.int .i64 a0_2]] rfl ?_;(with_reducible refine(spec_GoodTurns.calls k a0_0 _ _ l0_1 a0_2 true _ ?side1 ?side2 A4.out).mono ?_);(case side1=>exact bC HR0_1.out);(case side2=>exact HC0_1.out);rintro e w30 ⟨rfl,hb⟩;refine⟨_,rfl,?_⟩;have n0_:=am (bM BK179.out hb);have n1_:=am (bM BK180.out hb);have n2_:=am (below_step (bS2 GE179.out GE180.out) hb);clear BK179 BK180 HB;have BK179:=n0_;have BK180:=n1_;have HB:=n2_;clear n0_ n1_ n2_;(try clear hb);(try clear hb2);(try clear hk);(try clear hi);obtain⟨hcz31_0,hcz31_1,hcz31_2⟩:=cC3 BK179.out;obtain⟨hfz31_0,hfz31_1,hfz31_2⟩:=cF3 BK179.out)|(go_at_call 27;(with_reducible refine(spec_l1In.calls a2 1 50 true _ A21.out).mono ?_);rintro e w' ⟨rfl,⟨nd,rfl⟩⟩;(try (rw[drewN_self w30];generalize hq_:World.drewN w30 _=w30;have n0_:Aside0 (w30.heap[gb179]?=some (.cells #[.int .i64 a0_0,.slice A0_1 l0_1.length c0_1,.int .i64 a0_2] 25 (0,0))):=⟨by rw[← hq_];exact(bL BK179.out)⟩;have n1_:Aside0 (w30.heap[gb180]?=some (.cells #[.int .i64 0,.slice none 0 0,.int .i64 0] 25 (0,0))):=⟨by rw[← hq_];exact(bL BK180.out)⟩;have n2_:Aside0 (Below w.heap.size w w30):=⟨by rw[← hq_];exact(bS2 GE179.out GE180.out)⟩;clear BK179 BK180 HB hq_;have BK179:=n0_;have BK180:=n1_;have HB:=n2_;clear n0_ n1_ n2_));obtain⟨hcy179_0,hcy179_1,hcy179_2⟩:=cC3 BK179.out;obtain⟨hcy180_0,hcy180_1,hcy180_2⟩:=cC3 BK180.out;have p183:0≤(a1:Int):=bD_;have q183:a1 < (l0_1.length:Int):=bD_;obtain⟨ad183,A183_0,c183_0,e183,hx183_0,hx183_1,hx183_2,hl183_0,hi183_0⟩:=at_T34 HR0_1.out a1 p183 q183;cases e183;replace hx183_0:=bQ_ HB.out hx183_0;replace hx183_1:=bQ_ HB.out hx183_1;replace hx183_2:=bQ_ HB.out hx183_2;have HR183_0:=am hi183_0;have HC183_0:=am hl183_0;clear hi183_0 hl183_0;replace p183:=eq_true p183;replace q183:=eq_true q183;obtain⟨hcz32_0,hcz32_1,hcz32_2⟩:=cC3 BK180.out;obtain⟨hfz32_0,hfz32_1,hfz32_2⟩:=cF3 BK180.out))
        refine bodyPost_ret (results_ct rfl _ _ gb180 25 #[.int .i64 0,.slice none 0 0,.int .i64 0] (0,0) _ rfl (by(with_reducible repeat (first|refine blk_drewN ?_ _|refine blk_drew ?_|refine blk_alloc ?_ _));apply bU3;(with_reducible repeat (first|refine blk_drewN ?_ _|refine blk_drew ?_|refine blk_alloc ?_ _));exact BK180.out) Try.underlying25 rfl (by kernel_rfl)) rfl ?_
        exact⟨_,by first|rfl|(simp[errW_none,errW_some]<;>rfl)|(simp[*,errW_none,errW_some]<;>rfl),by first|exact Kd.S_nil _ _ _ _ _|exact Kd.N_nil _ _ _ _ _|exact Kd.V_nil _ _ _ _ _|exact Kd.Q_nil _ _ _ _ _|exact Kd.R_nil _ _ _ _ _,bS2 GE179.out GE180.out⟩
       ·rw[if_neg c25] at H
        have c25b0:((((rd_T34 l0_1 a1).f0).length:Int) == 40)=false:=beq_eq_false_iff_ne.mpr c25
        have c25b1:((((rd_T34 l0_1 a1).f0).length:Int) != 40)=true:=bne_iff_ne.mpr c25
        replace H:=bI_ H
        obtain⟨⟨t184,t185,t188⟩,A330,H⟩:=H
        replace H:(if a1 < (t185.length:Int) then (if ((rd_T34 t185 a1).f0).length < 17592186044416 then (some (t184,(t185.set (a1:Int).toNat (⟨(((rd_T34 t185 a1).f0)++[a2]),(rd_T34 t185 a1).f1,(rd_T34 t185 a1).f2⟩:S34)),t188,true)) else (none)) else (none))=some (r1,r2,r3,r4):=H
        have A33:=am A330
        clear A330
        by_cases c34:a1 < (t185.length:Int)
        ·rw[if_pos c34] at H
         have c34b0:decide (a1 < (t185.length:Int))=true:=decide_eq_true c34
         clear c34
         by_cases c35:((rd_T34 t185 a1).f0).length < 17592186044416
         ·rw[if_pos c35] at H
          have LMc35:=am c35
          clear c35
          obtain⟨y190,hy190⟩ : ∃ y_:List Int,y_=(((rd_T34 t185 a1).f0)++[a2]):=⟨_,rfl⟩
          replace H:(some (t184,(t185.set (a1:Int).toNat (⟨y190,(rd_T34 t185 a1).f1,(rd_T34 t185 a1).f2⟩:S34)),t188,true))=some (r1,r2,r3,r4):=by first|(rw[hy190];with_reducible exact H)|(have H2_:=(Option.bind_some _ _).symm.trans H;rw[hy190];with_reducible exact H2_)|(have H2_:=(Option.bind_some _ _).symm.trans H;with_reducible exact H2_)|with_reducible exact H|(rw[hy190];exact H)|exact H
          have Ny190:=am hy190
          clear hy190
          obtain⟨y193,hy193⟩ : ∃ y_:List (S34),y_=(t185.set (a1:Int).toNat (⟨y190,(rd_T34 t185 a1).f1,(rd_T34 t185 a1).f2⟩:S34)):=⟨_,rfl⟩
          replace H:(some (t184,y193,t188,true))=some (r1,r2,r3,r4):=by first|(rw[hy193];with_reducible exact H)|(have H2_:=(Option.bind_some _ _).symm.trans H;rw[hy193];with_reducible exact H2_)|(have H2_:=(Option.bind_some _ _).symm.trans H;with_reducible exact H2_)|with_reducible exact H|(rw[hy193];exact H)|exact H
          have Ny193:=am hy193
          clear hy193
          simp only[Option.some.injEq,Prod.mk.injEq] at H
          obtain⟨rfl,rfl,rfl,rfl⟩:=H
          go_enter Try.func14,Try.ntmps14
          try go_wp2_with (first|((with_reducible refine gate_dst (N:=3) rfl ?_);(try (refine gate_guard (by rfl) ?_;dsimp only));refine box_event ?hg (N:=3) ?hd (cs:=#[.int .i64 a0_0,.slice A0_1 l0_1.length c0_1,.int .i64 a0_2]) (t:=25) ?hr ?_;(case hd=>rfl);(case hg=>rfl);(case hr=>first|(go_simp;done)|(go_simp;rfl));intro gb179 hg w37 hbox hb;have n0_:=am (below_step (bB) hb);have n1_:=am (hbox);have n2_:=am ((bG:w.heap.size≤gb179));have n3_:=am ((bG:w.heap.size≤gb179));clear HB;have HB:=n0_;have BK179:=n1_;have GW179:=n2_;have GE179:=n3_;clear n0_ n1_ n2_ n3_;clear hb hbox hg)|((with_reducible refine gate_dst (N:=6) rfl ?_);(try (refine gate_guard (by rfl) ?_;dsimp only));refine box_event ?hg (N:=6) ?hd (cs:=#[.int .i64 0,.slice none 0 0,.int .i64 0]) (t:=25) ?hr ?_;(case hd=>rfl);(case hg=>rfl);(case hr=>first|(go_simp;done)|(go_simp;rfl));intro gb180 hg w38 hbox hb;have n0_:=am (bM BK179.out hb);have n1_:=am (below_step (bS GE179.out) hb);have n2_:=am (hbox);have n3_:=am ((by rw[hg];exact(below_size (bS GE179.out)):w.heap.size≤gb180));have n4_:=am ((by rw[hg];exact(below_size (bS GE179.out)):w.heap.size≤gb180));have n5_:=am ((bN BK179.out hg:gb179≠gb180));have n6_:=am ((bO BK179.out hg:gb180≠gb179));clear BK179 HB;have BK179:=n0_;have HB:=n1_;have BK180:=n2_;have GW180:=n3_;have GE180:=n4_;have NB179_180:=n5_;have NB180_179:=n6_;clear n0_ n1_ n2_ n3_ n4_ n5_ n6_;clear hb hbox hg;have hnb39:=NB179_180.out;have hnc39:=NB180_179.out;obtain⟨hcz40_0,hcz40_1,hcz40_2⟩:=cC3 BK179.out;obtain⟨hfz40_0,hfz40_1,hfz40_2⟩:=cF3 BK179.out)|((with_reducible refine gate_callee (f:=11) rfl ?_);refine goesA (some 9) rfl rfl Try.func11 #[.agg #[.int .i64 a0_0,.slice A0_1 l0_1.length c0_1,.int .i64 a0_2]] rfl ?_;(with_reducible refine(spec_GoodTurns.calls k a0_0 _ _ l0_1 a0_2 true _ ?side1 ?side2 A4.out).mono ?_);(case side1=>exact bC HR0_1.out);(case side2=>exact HC0_1.out);rintro e w41 ⟨rfl,hb⟩;refine⟨_,rfl,?_⟩;have n0_:=am (bM BK179.out hb);have n1_:=am (bM BK180.out hb);have n2_:=am (below_step (bS2 GE179.out GE180.out) hb);clear BK179 BK180 HB;have BK179:=n0_;have BK180:=n1_;have HB:=n2_;clear n0_ n1_ n2_;(try clear hb);(try clear hb2);(try clear hk);(try clear hi);obtain⟨hcz42_0,hcz42_1,hcz42_2⟩:=cC3 BK179.out;obtain⟨hfz42_0,hfz42_1,hfz42_2⟩:=cF3 BK179.out)|(go_at_call 27;(with_reducible refine(spec_l1In.calls a2 1 50 true _ A21.out).mono ?_);rintro e w' ⟨rfl,⟨nd,rfl⟩⟩;(try (rw[drewN_self w41];generalize hq_:World.drewN w41 _=w41;have n0_:Aside0 (w41.heap[gb179]?=some (.cells #[.int .i64 a0_0,.slice A0_1 l0_1.length c0_1,.int .i64 a0_2] 25 (0,0))):=⟨by rw[← hq_];exact(bL BK179.out)⟩;have n1_:Aside0 (w41.heap[gb180]?=some (.cells #[.int .i64 0,.slice none 0 0,.int .i64 0] 25 (0,0))):=⟨by rw[← hq_];exact(bL BK180.out)⟩;have n2_:Aside0 (Below w.heap.size w w41):=⟨by rw[← hq_];exact(bS2 GE179.out GE180.out)⟩;clear BK179 BK180 HB hq_;have BK179:=n0_;have BK180:=n1_;have HB:=n2_;clear n0_ n1_ n2_));obtain⟨hcy179_0,hcy179_1,hcy179_2⟩:=cC3 BK179.out;obtain⟨hcy180_0,hcy180_1,hcy180_2⟩:=cC3 BK180.out;have p183:0≤(a1:Int):=bD_;have q183:a1 < (l0_1.length:Int):=bD_;obtain⟨ad183,A183_0,c183_0,e183,hx183_0,hx183_1,hx183_2,hl183_0,hi183_0⟩:=at_T34 HR0_1.out a1 p183 q183;cases e183;replace hx183_0:=bQ_ HB.out hx183_0;replace hx183_1:=bQ_ HB.out hx183_1;replace hx183_2:=bQ_ HB.out hx183_2;have HR183_0:=am hi183_0;have HC183_0:=am hl183_0;clear hi183_0 hl183_0;replace p183:=eq_true p183;replace q183:=eq_true q183)|((with_reducible refine gate_callee (f:=31) rfl ?_);refine goesA (some 39) rfl rfl Try.func31 #[.agg #[.int .i64 a0_0,.slice (some ad183) l0_1.length c0_1,.int .i64 a0_2]] rfl ?_;(with_reducible refine(spec_l14Own.calls k a0_0 _ _ l0_1 a0_2 t184 t185 t188 _ ?side1 ?side2 A33.out).mono ?_);(case side1=>exact bC HR0_1.out);(case side2=>exact HC0_1.out);rintro e w43 ⟨v186,rfl,ho0,hb⟩;refine⟨_,rfl,?_⟩;have n0_:=am (Kd.S_lower ho0 (below_size (bS2 GE179.out GE180.out)));have n1_:=am (bM BK179.out hb);have n2_:=am (bM BK180.out hb);have n3_:=am (below_step (bS2 GE179.out GE180.out) hb);clear BK179 BK180 HB;have HO187:=n0_;have BK179:=n1_;have BK180:=n2_;have HB:=n3_;clear n0_ n1_ n2_ n3_;(try clear hb);(try clear hb2);(try clear hk);(try clear hi);(try clear ho0);obtain⟨hcz44_0,hcz44_1,hcz44_2⟩:=cC3 BK179.out;obtain⟨hfz44_0,hfz44_1,hfz44_2⟩:=cF3 BK179.out;obtain⟨Ao45,co45,eo45⟩:=Kd.S_slice HO187.out;subst eo45))
          have n0_:Aside0 (Kd.S k34 34 (((w43.setCell ⟨gb179,0,none⟩ (.int .i64 t184)).setCell ⟨gb179,1,none⟩ (.slice Ao45 t185.length co45)).setCell ⟨gb179,2,none⟩ (.int .i64 t188)) w.heap.size (fun _=>True) (.slice Ao45 t185.length co45) t185):=⟨by(with_reducible repeat (first|apply Kd.S_alloc|apply Kd.S_drewN|apply Kd.S_drew));exact Kd.S_mono (Kd.S_far (p:=⟨gb179,2,none⟩) (Kd.S_far (p:=⟨gb179,1,none⟩) (Kd.S_far (p:=⟨gb179,0,none⟩) (Kd.S_types HO187.out BK179.out (by decide)) (fun _ hk=>hk.2) (.int .i64 t184)) (fun _ hk=>hk.2) (.slice Ao45 t185.length co45)) (fun _ hk=>hk.2) (.int .i64 t188)) (fun _ hk=>trivial)⟩
          have n1_:Aside0 ((((w43.setCell ⟨gb179,0,none⟩ (.int .i64 t184)).setCell ⟨gb179,1,none⟩ (.slice Ao45 t185.length co45)).setCell ⟨gb179,2,none⟩ (.int .i64 t188)).heap[gb179]?=some (.cells #[.int .i64 t184,.slice Ao45 t185.length co45,.int .i64 t188] 25 (0,0))):=⟨by(with_reducible repeat (first|refine blk_drewN ?_ _|refine blk_drew ?_|refine blk_alloc ?_ _));apply bU3;(with_reducible repeat (first|refine blk_drewN ?_ _|refine blk_drew ?_|refine blk_alloc ?_ _));exact BK179.out⟩
          have n2_:Aside0 ((((w43.setCell ⟨gb179,0,none⟩ (.int .i64 t184)).setCell ⟨gb179,1,none⟩ (.slice Ao45 t185.length co45)).setCell ⟨gb179,2,none⟩ (.int .i64 t188)).heap[gb180]?=some (.cells #[.int .i64 0,.slice none 0 0,.int .i64 0] 25 (0,0))):=⟨by(with_reducible repeat (first|refine blk_drewN ?_ _|refine blk_drew ?_|refine blk_alloc ?_ _));refine blk_far ?_ NB180_179.out _;(with_reducible repeat (first|refine blk_drewN ?_ _|refine blk_drew ?_|refine blk_alloc ?_ _));refine blk_far ?_ NB180_179.out _;(with_reducible repeat (first|refine blk_drewN ?_ _|refine blk_drew ?_|refine blk_alloc ?_ _));refine blk_far ?_ NB180_179.out _;(with_reducible repeat (first|refine blk_drewN ?_ _|refine blk_drew ?_|refine blk_alloc ?_ _));exact BK180.out⟩
          have n3_:Aside0 (Below w.heap.size w (((w43.setCell ⟨gb179,0,none⟩ (.int .i64 t184)).setCell ⟨gb179,1,none⟩ (.slice Ao45 t185.length co45)).setCell ⟨gb179,2,none⟩ (.int .i64 t188))):=⟨bS2 GE179.out GE180.out⟩
          (try clear HO187)
          (try clear BK179)
          (try clear BK180)
          (try clear HB)
          generalize (((w43.setCell ⟨gb179,0,none⟩ (.int .i64 t184)).setCell ⟨gb179,1,none⟩ (.slice Ao45 t185.length co45)).setCell ⟨gb179,2,none⟩ (.int .i64 t188))=w46 at n0_ n1_ n2_ n3_ ⊢
          have HO187:=n0_
          have BK179:=n1_
          have BK180:=n2_
          have HB:=n3_
          clear n0_ n1_ n2_ n3_
          (try (rw[drewN_self w46];generalize hq_:World.drewN w46 _=w46;have n0_:=am (Kd.S_at hq_ HO187.out);have n1_:=am (blk_at hq_ BK179.out);have n2_:=am (blk_at hq_ BK180.out);have n3_:=am (below_at hq_ HB.out);clear hq_ HO187 BK179 BK180 HB;have HO187:=n0_;have BK179:=n1_;have BK180:=n2_;have HB:=n3_;clear n0_ n1_ n2_ n3_))
          have n0_:=am (Kd.S_drew HO187.out)
          have n1_:=am (blk_drew BK179.out)
          have n2_:=am (blk_drew BK180.out)
          have n3_:=am (below_drew1 HB.out)
          clear HO187 BK179 BK180 HB
          have HO187:=n0_
          have BK179:=n1_
          have BK180:=n2_
          have HB:=n3_
          clear n0_ n1_ n2_ n3_
          have p189:0≤(a1:Int):=bD_
          have q189:a1 < (t185.length:Int):=bD_
          obtain⟨ad189,A189_0,c189_0,e189,hx189_0,hx189_1,hx189_2,hl189_0,hi189_0⟩:=at_T34 (Kd.S_reads' HO187.out).2.2 a1 p189 q189
          cases e189
          obtain⟨ce189,hce189,hMe189,hcc189⟩:=Kd.S_get HO187.out z34 a1 p189 (by first|exact q189|exact bD_|(have e_:=(Kd.S_reads' HO187.out).1;omega))
          obtain⟨ve189_0,rfl,ge189_0⟩:=k34_openM hMe189
          have hv189_0:=hcc189 0 _ rfl
          rw[Nat.add_zero] at hv189_0
          replace hv189_0:=Option.some.inj (hv189_0.symm.trans hx189_0)
          rw[hv189_0] at ge189_0
          have HL189_0:=am (show Kd.R (Kd.int .i64) 3 _ _ _ _ ((rd_T34 t185 a1).f0) from ge189_0)
          clear hv189_0 ge189_0
          have HX189_0:=am hx189_0
          clear hcc189 hce189
          have HR189_0:=am hi189_0
          have HC189_0:=am hl189_0
          clear hi189_0 hl189_0
          replace p189:=eq_true p189
          replace q189:=eq_true q189
          obtain⟨go48,co48,eo48,gb48,gl48,cl48,HG48⟩:=Kd.S_form HO187.out (by have h_:(a1:Int) < ((t185.length:Int):Int):=bD_;have h2_:0≤(a1:Int):=(bD_);omega)
          (first|cases eo48|(injection eo48 with ea_ en_ ec_;(first|subst ea_|(injection ea_ with ea_;subst ea_));subst ec_;clear en_))
          have GB48:=am gb48
          have GG48:=am HG48
          clear gb48 gl48 HG48
          (first|simp only[add_plain] at hx189_0|skip)
          (first|simp only[add_plain] at hx189_1|skip)
          (first|simp only[add_plain] at hx189_2|skip)
          obtain⟨oki48,ce48,hcl48,hM48,hcc48,_,_,hH48⟩:=Kd.S_elem HO187.out z34 (a1:Int) (bD_) (by have h_:(a1:Int) < ((t185.length:Int):Int):=bD_;first|exact h_|(have e_:=(Kd.S_reads' HO187.out).1;omega)|simpa using h_)
          obtain⟨ve48_0,rfl,ge48_0⟩:=k34_openM hM48
          have hv48:=hcc48 0 _ rfl
          have hX48:=HX189_0.out
          (try simp only[add_plain] at hX48)
          (try simp only[Nat.add_zero] at hv48)
          replace hv48:=Option.some.inj (hv48.symm.trans hX48)
          subst hv48
          clear hX48 hcc48 hcl48
          have UU48:=am (show Kd.R (Kd.int .i64) 3 _ w.heap.size oki48 (.slice A189_0 ((rd_T34 t185 a1).f0).length c189_0) ((rd_T34 t185 a1).f0) from ge48_0)
          have HH48:=am hH48
          have HN48:=am (Kd.S_reads' HO187.out).1
          clear hH48 ge48_0
          refine start_ (n:=15) (S:=fun w'=>w'.cell? ⟨gb179,0,none⟩=some (.int .i64 t184)∧w'.cell? ⟨gb179,1,none⟩=some (.slice (some ⟨go48,0,none⟩) t185.length co45)∧w'.cell? ⟨gb179,2,none⟩=some (.int .i64 t188)∧w'.cell? ⟨go48,((a1).toNat * 3),none⟩=some (.slice A189_0 ((rd_T34 t185 a1).f0).length c189_0)∧w'.cell? ⟨go48,((a1).toNat * 3)+1,none⟩=some (.int .i64 ((rd_T34 t185 a1).f1))∧w'.cell? ⟨go48,((a1).toNat * 3)+2,none⟩=some (.int .i64 ((rd_T34 t185 a1).f2))) (ds:=[14]) #[false,false,false,false,false,false,false,false,false,false,false,false,false,false,false] (by kernel_rfl) rfl rfl ⟨(blk_cell BK179.out 0).trans rfl,(blk_cell BK179.out 1).trans rfl,(blk_cell BK179.out 2).trans rfl,hx189_0,hx189_1,hx189_2⟩ (fun hHeld => ?_);refine with_tabW spec_PutLong.tab4 spec_PutLong.bits4 (fun HT_ HW_ => ?_)
          generalize w46.drew=w47 at HO187 BK179 BK180 HB GG48 HH48 HL189_0 HR189_0 HX189_0 UU48 hx189_0 hx189_1 hx189_2 hHeld ⊢
          refine pS HT_ 0 40 ?_;refine pS HT_ 2 42 ?_;refine pS HT_ 3 43 ?_;refine pS HT_ 5 45 ?_;refine pS HT_ 9 49 ?_;refine tS HT_ HW_ hHeld 1 41 ?_;refine tS HT_ HW_ hHeld 4 44 ?_;refine pS HT_ 6 46 ?_;refine pS HT_ 7 47 ?_;refine tS HT_ HW_ hHeld 8 48 ?_
          refine one_ (i:=10) (N:=some 50) #[true,true,true,true,true,true,true,true,true,true,true,false,false,false,false] rfl rfl (one_of HT_.out (by kernel_rfl)) (by decide) (fun K hK => ?_)
          refine value_ (w1:=?_) (v:=?_) (by rfl) rfl ?_ ?_
          rotate_left 2
          ·go_simp
           constructor
           ·rfl
           ·rfl
          refine hK.out _ _ ⟨(blk_cell (blk_alloc BK179.out _) 0).trans rfl,(blk_cell (blk_alloc BK179.out _) 1).trans rfl,(blk_cell (blk_alloc BK179.out _) 2).trans rfl,(World.cell?_alloc_lt _ _ _ (World.block_lt_of_cell? _ _ (hHeld.2.2.2.1))).trans (hHeld.2.2.2.1),(World.cell?_alloc_lt _ _ _ (World.block_lt_of_cell? _ _ (hHeld.2.2.2.2.1))).trans (hHeld.2.2.2.2.1),(World.cell?_alloc_lt _ _ _ (World.block_lt_of_cell? _ _ (hHeld.2.2.2.2.2))).trans (hHeld.2.2.2.2.2)⟩ (fun hHeld => ?_)
          clear hK K
          refine norm_ (a':=?_) ?_ ?_
          rotate_left
          ·show Act.put _ (some 50) _=_
           simp only[Act.put,zA,zB,zC,i64_w,i32_w]
           rfl
          refine one_ (i:=11) (N:=some 51) #[true,true,true,true,true,true,true,true,true,true,true,true,false,false,false] rfl rfl (one_of HT_.out (by kernel_rfl)) (by decide) (fun K hK => ?_)
          refine Kd.R_append_step (Kd.int .i64) (w0:=w) w.heap.size (by rfl) (.tmp 48) (.tmp 50) 27 3 (.int .i64 0) 8 rfl Try.underlying27 info3 rfl (by decide) (by omega) (.slice A189_0 ((rd_T34 t185 a1).f0).length c189_0) ((rd_T34 t185 a1).f0) a2 [.int .i64 a2] (fun k_=>oki48 k_∨((fun _=>True)) k_∧w47.heap.size≤k_) (fun _=>False) rfl rfl ?aP (fun _ hk=>hk.elim) ?aF ?aO ?aB ?aS ?aL ?_
          (case aP=>exact rfl)
          (case aB=>exact(bS2 GE179.out GE180.out))
          (case aF=>exact(fun k_ hk=>.inr ⟨trivial,hk⟩))
          (case aO=>exact(by(with_reducible repeat (first|apply Kd.R_alloc|apply Kd.R_drewN|apply Kd.R_drew));exact Kd.R_mono UU48.out (fun _ hk=>.inl hk)))
          (case aS=>exact(below_size (bS2 GE179.out GE180.out)))
          (case aL=>have:=LMc35.out;omega)
          intro v191 w49 ho hb hg hat
          (first|have HS3_:=cell_grown hg (hHeld.2.2.2.1) (by first|(rw[add_block];exact(fun e_=>((HL189_0.out.1 _ e_.symm).2) rfl))|(show some (Addr.add _ _).block≠_;rw[add_block];exact(fun e_=>((HL189_0.out.1 _ e_.symm).2) rfl))|exact(fun e_=>((HL189_0.out.1 _ e_.symm).2) rfl))|have HS3_:=cell_grown hg (cell_unalloc (hHeld.2.2.2.1) (by first|(rw[add_block];exact Kd.S_lt HO187.out _ rfl)|(show(Addr.add _ _).block < _;rw[add_block];exact Kd.S_lt HO187.out _ rfl)|exact Kd.S_lt HO187.out _ rfl)) (by first|(rw[add_block];exact(fun e_=>((HL189_0.out.1 _ e_.symm).2) rfl))|(show some (Addr.add _ _).block≠_;rw[add_block];exact(fun e_=>((HL189_0.out.1 _ e_.symm).2) rfl))|exact(fun e_=>((HL189_0.out.1 _ e_.symm).2) rfl)))
          (first|have HS4_:=cell_grown hg (hHeld.2.2.2.2.1) (by first|(rw[add_block];exact(fun e_=>((HL189_0.out.1 _ e_.symm).2) rfl))|(show some (Addr.add _ _).block≠_;rw[add_block];exact(fun e_=>((HL189_0.out.1 _ e_.symm).2) rfl))|exact(fun e_=>((HL189_0.out.1 _ e_.symm).2) rfl))|have HS4_:=cell_grown hg (cell_unalloc (hHeld.2.2.2.2.1) (by first|(rw[add_block];exact Kd.S_lt HO187.out _ rfl)|(show(Addr.add _ _).block < _;rw[add_block];exact Kd.S_lt HO187.out _ rfl)|exact Kd.S_lt HO187.out _ rfl)) (by first|(rw[add_block];exact(fun e_=>((HL189_0.out.1 _ e_.symm).2) rfl))|(show some (Addr.add _ _).block≠_;rw[add_block];exact(fun e_=>((HL189_0.out.1 _ e_.symm).2) rfl))|exact(fun e_=>((HL189_0.out.1 _ e_.symm).2) rfl)))
          (first|have HS5_:=cell_grown hg (hHeld.2.2.2.2.2) (by first|(rw[add_block];exact(fun e_=>((HL189_0.out.1 _ e_.symm).2) rfl))|(show some (Addr.add _ _).block≠_;rw[add_block];exact(fun e_=>((HL189_0.out.1 _ e_.symm).2) rfl))|exact(fun e_=>((HL189_0.out.1 _ e_.symm).2) rfl))|have HS5_:=cell_grown hg (cell_unalloc (hHeld.2.2.2.2.2) (by first|(rw[add_block];exact Kd.S_lt HO187.out _ rfl)|(show(Addr.add _ _).block < _;rw[add_block];exact Kd.S_lt HO187.out _ rfl)|exact Kd.S_lt HO187.out _ rfl)) (by first|(rw[add_block];exact(fun e_=>((HL189_0.out.1 _ e_.symm).2) rfl))|(show some (Addr.add _ _).block≠_;rw[add_block];exact(fun e_=>((HL189_0.out.1 _ e_.symm).2) rfl))|exact(fun e_=>((HL189_0.out.1 _ e_.symm).2) rfl)))
          rw[← Ny190.out] at ho
          have n0_:=am (blk_grown (g:=gb179) (o:=.cells #[.int .i64 t184,.slice (some ⟨go48,0,none⟩) t185.length co45,.int .i64 t188] 25 (0,0)) (bL BK179.out) hg (Kd.R_ne HL189_0.out BK179.out (by decide)))
          have n1_:=am (blk_grown (g:=gb180) (o:=.cells #[.int .i64 0,.slice none 0 0,.int .i64 0] 25 (0,0)) (bL BK180.out) hg (Kd.R_ne HL189_0.out BK180.out (by decide)))
          have n2_:=am (hb)
          have n3_:=am (Kd.H_grown (Kd.H_widen (by repeat (first|exact HH48.out|refine Kd.H_alloc ?_ _|refine Kd.H_drewN ?_ _|refine Kd.H_drew ?_))) hg (fun k_ e_=>.inl (UU48.out.1 k_ e_)))
          have n4_:=am (ho)
          clear BK179 BK180 HB HH48 HO187 UU48 HL189_0
          have BK179:=n0_
          have BK180:=n1_
          have HB:=n2_
          have HH48:=n3_
          have HO192:=n4_
          clear n0_ n1_ n2_ n3_ n4_ ho hb hg hat
          have p36:0≤(a1:Int):=bD_
          have q36:(a1:Int) < ((t185.length:Int):Int):=bD_
          replace p36:=eq_true p36
          replace q36:=eq_true q36
          obtain⟨Ao52,co52,eo52⟩:=Kd.R_slice HO192.out
          (first|subst eo52|(injection eo52 with f1_ f2_ f3_;have f4_:=f1_.symm;have f5_:=f3_.symm;clear f1_ f2_ f3_;subst f4_;subst f5_))
          obtain⟨_,_,hraw50,_,_,hcc50,_⟩:=Kd.H_raw HH48.out (bD_) (by have h_:(a1:Int) < ((t185.length:Int):Int):=bD_;first|exact h_|(have e_:=(HN48.out);omega)|simpa using h_)
          obtain⟨_,hfr50⟩:=Kd.H_at HH48.out (bD_) (by have h_:(a1:Int) < ((t185.length:Int):Int):=bD_;first|exact h_|(have e_:=(HN48.out);omega)|simpa using h_)
          have hx50_0:=hcc50 0 _ rfl
          have hf50_0:=hfr50 0
          (try simp only[Nat.add_zero] at hx50_0 hf50_0)
          (try rw[show(k34).sz=3 from rfl] at hx50_0)
          (try rw[show(k34).sz=3 from rfl] at hf50_0)
          have HP50:=Kd.S_seg0 HH48.out (bD_) (by have h_:(a1:Int) < ((t185.length:Int):Int):=bD_;first|exact h_|(have e_:=(HN48.out);omega)|simpa using h_) (seg:=[.slice Ao52 y190.length co52]) (j:=0) (show 1≤3 from by decide) (x':=(⟨y190,(rd_T34 t185 a1).f1,(rd_T34 t185 a1).f2⟩:S34)) (k34_mkM _ _ _ (⟨y190,(rd_T34 t185 a1).f1,(rd_T34 t185 a1).f2⟩:S34) HO192.out) (fun _ hk=>hk)
          clear hcc50 hfr50
          have HNB179_go48:=am (show gb179≠go48 from by have h_:=Kd.R_ne hraw50 BK179.out (by decide);intro e_;exact h_ (by rw[e_];rfl))
          have HNB180_go48:=am (show gb180≠go48 from by have h_:=Kd.R_ne hraw50 BK180.out (by decide);intro e_;exact h_ (by rw[e_];rfl))
          have HS50:=HP50.1
          rw[← Ny193.out] at HS50
          have HQ50:=am HS50
          obtain⟨_,hgg50⟩:=Kd.R_typed hraw50 go48 rfl
          have GG50_:=am hgg50
          clear HP50 HS50 hgg50
          refine hK.out _ _ ⟨(blk_cell BK179.out 0).trans rfl,(blk_cell BK179.out 1).trans rfl,(blk_cell BK179.out 2).trans rfl,HS3_,HS4_,HS5_⟩ (fun hHeld => ?_)
          clear hK K
          refine norm_ (a':=?_) ?_ ?_
          rotate_left
          ·show Act.put _ (some 51) _=_
           simp only[Act.put,zA,zB,zC,i64_w,i32_w]
           rfl
          refine pS HT_ 12 52 ?_;refine pS HT_ 13 53 ?_
          refine last_ (i:=14) (N:=none) #[true,true,true,true,true,true,true,true,true,true,true,true,true,true,true] rfl rfl (one_of HT_.out (by kernel_rfl)) (by decide) (fun K hK => ?_)
          refine skip_ (w1:=?_) (by rfl) rfl ?_ ?_
          rotate_left
          ·go_simp
           rfl
          refine hK.out _ _ ?_
          clear hK K
          refine done_ (done_of HT_.out (by kernel_rfl)) ?_
          have n0_:Aside0 (Kd.S k34 34 (w49.setCell ⟨go48,(a1:Int).toNat * 3,none⟩ (.slice Ao52 y190.length co52)) w.heap.size (fun _=>True) (.slice (some ⟨go48,0,none⟩) t185.length co45) y193):=⟨by(with_reducible repeat (first|apply Kd.S_alloc|apply Kd.S_drewN|apply Kd.S_drew));exact HQ50.out⟩
          have n1_:Aside0 ((w49.setCell ⟨go48,(a1:Int).toNat * 3,none⟩ (.slice Ao52 y190.length co52)).heap[gb179]?=some (.cells #[.int .i64 t184,.slice (some ⟨go48,0,none⟩) t185.length co45,.int .i64 t188] 25 (0,0))):=⟨by(with_reducible repeat (first|refine blk_drewN ?_ _|refine blk_drew ?_|refine blk_alloc ?_ _));refine blk_far ?_ HNB179_go48.out _;(with_reducible repeat (first|refine blk_drewN ?_ _|refine blk_drew ?_|refine blk_alloc ?_ _));exact BK179.out⟩
          have n2_:Aside0 ((w49.setCell ⟨go48,(a1:Int).toNat * 3,none⟩ (.slice Ao52 y190.length co52)).heap[gb180]?=some (.cells #[.int .i64 0,.slice none 0 0,.int .i64 0] 25 (0,0))):=⟨by(with_reducible repeat (first|refine blk_drewN ?_ _|refine blk_drew ?_|refine blk_alloc ?_ _));refine blk_far ?_ HNB180_go48.out _;(with_reducible repeat (first|refine blk_drewN ?_ _|refine blk_drew ?_|refine blk_alloc ?_ _));exact BK180.out⟩
          have n3_:Aside0 (Below w.heap.size w (w49.setCell ⟨go48,(a1:Int).toNat * 3,none⟩ (.slice Ao52 y190.length co52))):=⟨bS3 GB48.out GE179.out GE180.out⟩
          (try clear HO187)
          (try clear BK179)
          (try clear BK180)
          (try clear HB)
          generalize (w49.setCell ⟨go48,(a1:Int).toNat * 3,none⟩ (.slice Ao52 y190.length co52))=w53 at n0_ n1_ n2_ n3_ ⊢
          have HO187:=n0_
          have BK179:=n1_
          have BK180:=n2_
          have HB:=n3_
          clear n0_ n1_ n2_ n3_
          obtain⟨hcz54_0,hcz54_1,hcz54_2⟩:=cC3 BK179.out
          obtain⟨hfz54_0,hfz54_1,hfz54_2⟩:=cF3 BK179.out
          obtain⟨hcz55_0,hcz55_1,hcz55_2⟩:=cC3 BK180.out
          obtain⟨hfz55_0,hfz55_1,hfz55_2⟩:=cF3 BK180.out
          try go_wp2
          refine bodyPost_ret (results_ct rfl _ _ gb180 25 #[.int .i64 t184,.slice (some ⟨go48,0,none⟩) t185.length co45,.int .i64 t188] (0,0) _ rfl (by(with_reducible repeat (first|refine blk_drewN ?_ _|refine blk_drew ?_|refine blk_alloc ?_ _));apply bU3;(with_reducible repeat (first|refine blk_drewN ?_ _|refine blk_drew ?_|refine blk_alloc ?_ _));exact BK180.out) Try.underlying25 rfl (by kernel_rfl)) rfl ?_
          exact⟨_,by first|rfl|(simp[errW_none,errW_some]<;>rfl)|(simp[*,errW_none,errW_some]<;>rfl),by(with_reducible repeat (first|apply Kd.S_alloc|apply Kd.S_drewN|apply Kd.S_drew));exact Kd.S_mono (Kd.S_far (p:=⟨gb180,2,none⟩) (Kd.S_far (p:=⟨gb180,1,none⟩) (Kd.S_far (p:=⟨gb180,0,none⟩) (Kd.S_types HO187.out BK180.out (by decide)) (fun _ hk=>hk.2) (.int .i64 t184)) (fun _ hk=>hk.2) (.slice (some ⟨go48,0,none⟩) t185.length co45)) (fun _ hk=>hk.2) (.int .i64 t188)) (fun _ hk=>trivial),bS2 GE179.out GE180.out⟩
         ·rw[if_neg c35] at H
          exact absurd H (by simp)
        ·rw[if_neg c34] at H
         exact absurd H (by simp)
      ·rw[if_neg c24] at H
       exact absurd H (by simp)
     ·rw[if_neg c23] at H
      exact absurd H (by simp)
    ·replace c22:=Bool.eq_false_iff.mpr c22
     subst c22
     have H1:(some (0,([]:List (S34)),0,false))=some (r1,r2,r3,r4):=by rw[if_neg (show ¬ (false=true) by decide)] at H;exact H
     clear H
     have H:=H1
     clear H1
     simp only[Option.some.injEq,Prod.mk.injEq] at H
     obtain⟨rfl,rfl,rfl,rfl⟩:=H
     go_enter Try.func14,Try.ntmps14
     go_wp2_with (first|((with_reducible refine gate_dst (N:=3) rfl ?_);(try (refine gate_guard (by rfl) ?_;dsimp only));refine box_event ?hg (N:=3) ?hd (cs:=#[.int .i64 a0_0,.slice A0_1 l0_1.length c0_1,.int .i64 a0_2]) (t:=25) ?hr ?_;(case hd=>rfl);(case hg=>rfl);(case hr=>first|(go_simp;done)|(go_simp;rfl));intro gb179 hg w56 hbox hb;have n0_:=am (below_step (bB) hb);have n1_:=am (hbox);have n2_:=am ((bG:w.heap.size≤gb179));have n3_:=am ((bG:w.heap.size≤gb179));clear HB;have HB:=n0_;have BK179:=n1_;have GW179:=n2_;have GE179:=n3_;clear n0_ n1_ n2_ n3_;clear hb hbox hg)|((with_reducible refine gate_dst (N:=6) rfl ?_);(try (refine gate_guard (by rfl) ?_;dsimp only));refine box_event ?hg (N:=6) ?hd (cs:=#[.int .i64 0,.slice none 0 0,.int .i64 0]) (t:=25) ?hr ?_;(case hd=>rfl);(case hg=>rfl);(case hr=>first|(go_simp;done)|(go_simp;rfl));intro gb180 hg w57 hbox hb;have n0_:=am (bM BK179.out hb);have n1_:=am (below_step (bS GE179.out) hb);have n2_:=am (hbox);have n3_:=am ((by rw[hg];exact(below_size (bS GE179.out)):w.heap.size≤gb180));have n4_:=am ((by rw[hg];exact(below_size (bS GE179.out)):w.heap.size≤gb180));have n5_:=am ((bN BK179.out hg:gb179≠gb180));have n6_:=am ((bO BK179.out hg:gb180≠gb179));clear BK179 HB;have BK179:=n0_;have HB:=n1_;have BK180:=n2_;have GW180:=n3_;have GE180:=n4_;have NB179_180:=n5_;have NB180_179:=n6_;clear n0_ n1_ n2_ n3_ n4_ n5_ n6_;clear hb hbox hg;have hnb58:=NB179_180.out;have hnc58:=NB180_179.out;obtain⟨hcz59_0,hcz59_1,hcz59_2⟩:=cC3 BK179.out;obtain⟨hfz59_0,hfz59_1,hfz59_2⟩:=cF3 BK179.out)|((with_reducible refine gate_callee (f:=11) rfl ?_);refine goesA (some 9) rfl rfl Try.func11 #[.agg #[.int .i64 a0_0,.slice A0_1 l0_1.length c0_1,.int .i64 a0_2]] rfl ?_;(with_reducible refine(spec_GoodTurns.calls k a0_0 _ _ l0_1 a0_2 true _ ?side1 ?side2 A4.out).mono ?_);(case side1=>exact bC HR0_1.out);(case side2=>exact HC0_1.out);rintro e w60 ⟨rfl,hb⟩;refine⟨_,rfl,?_⟩;have n0_:=am (bM BK179.out hb);have n1_:=am (bM BK180.out hb);have n2_:=am (below_step (bS2 GE179.out GE180.out) hb);clear BK179 BK180 HB;have BK179:=n0_;have BK180:=n1_;have HB:=n2_;clear n0_ n1_ n2_;(try clear hb);(try clear hb2);(try clear hk);(try clear hi);obtain⟨hcz61_0,hcz61_1,hcz61_2⟩:=cC3 BK179.out;obtain⟨hfz61_0,hfz61_1,hfz61_2⟩:=cF3 BK179.out)|(go_at_call 27;(with_reducible refine(spec_l1In.calls a2 1 50 false _ A21.out).mono ?_);rintro e w' ⟨rfl,⟨nd,rfl⟩⟩;(try (rw[drewN_self w60];generalize hq_:World.drewN w60 _=w60;have n0_:Aside0 (w60.heap[gb179]?=some (.cells #[.int .i64 a0_0,.slice A0_1 l0_1.length c0_1,.int .i64 a0_2] 25 (0,0))):=⟨by rw[← hq_];exact(bL BK179.out)⟩;have n1_:Aside0 (w60.heap[gb180]?=some (.cells #[.int .i64 0,.slice none 0 0,.int .i64 0] 25 (0,0))):=⟨by rw[← hq_];exact(bL BK180.out)⟩;have n2_:Aside0 (Below w.heap.size w w60):=⟨by rw[← hq_];exact(bS2 GE179.out GE180.out)⟩;clear BK179 BK180 HB hq_;have BK179:=n0_;have BK180:=n1_;have HB:=n2_;clear n0_ n1_ n2_));obtain⟨hcy179_0,hcy179_1,hcy179_2⟩:=cC3 BK179.out;obtain⟨hcy180_0,hcy180_1,hcy180_2⟩:=cC3 BK180.out;obtain⟨hcz62_0,hcz62_1,hcz62_2⟩:=cC3 BK180.out;obtain⟨hfz62_0,hfz62_1,hfz62_2⟩:=cF3 BK180.out))
     refine bodyPost_ret (results_ct rfl _ _ gb180 25 #[.int .i64 0,.slice none 0 0,.int .i64 0] (0,0) _ rfl (by(with_reducible repeat (first|refine blk_drewN ?_ _|refine blk_drew ?_|refine blk_alloc ?_ _));apply bU3;(with_reducible repeat (first|refine blk_drewN ?_ _|refine blk_drew ?_|refine blk_alloc ?_ _));exact BK180.out) Try.underlying25 rfl (by kernel_rfl)) rfl ?_
     exact⟨_,by first|rfl|(simp[errW_none,errW_some]<;>rfl)|(simp[*,errW_none,errW_some]<;>rfl),by first|exact Kd.S_nil _ _ _ _ _|exact Kd.N_nil _ _ _ _ _|exact Kd.V_nil _ _ _ _ _|exact Kd.Q_nil _ _ _ _ _|exact Kd.R_nil _ _ _ _ _,bS2 GE179.out GE180.out⟩
 ·replace c5:=Bool.eq_false_iff.mpr c5
  subst c5
  have H1:(some (0,([]:List (S34)),0,false))=some (r1,r2,r3,r4):=by rw[if_neg (show ¬ (false=true) by decide)] at H;exact H
  clear H
  have H:=H1
  clear H1
  simp only[Option.some.injEq,Prod.mk.injEq] at H
  obtain⟨rfl,rfl,rfl,rfl⟩:=H
  go_enter Try.func14,Try.ntmps14
  go_wp2_with (first|((with_reducible refine gate_dst (N:=3) rfl ?_);(try (refine gate_guard (by rfl) ?_;dsimp only));refine box_event ?hg (N:=3) ?hd (cs:=#[.int .i64 a0_0,.slice A0_1 l0_1.length c0_1,.int .i64 a0_2]) (t:=25) ?hr ?_;(case hd=>rfl);(case hg=>rfl);(case hr=>first|(go_simp;done)|(go_simp;rfl));intro gb179 hg w63 hbox hb;have n0_:=am (below_step (bB) hb);have n1_:=am (hbox);have n2_:=am ((bG:w.heap.size≤gb179));have n3_:=am ((bG:w.heap.size≤gb179));clear HB;have HB:=n0_;have BK179:=n1_;have GW179:=n2_;have GE179:=n3_;clear n0_ n1_ n2_ n3_;clear hb hbox hg)|((with_reducible refine gate_dst (N:=6) rfl ?_);(try (refine gate_guard (by rfl) ?_;dsimp only));refine box_event ?hg (N:=6) ?hd (cs:=#[.int .i64 0,.slice none 0 0,.int .i64 0]) (t:=25) ?hr ?_;(case hd=>rfl);(case hg=>rfl);(case hr=>first|(go_simp;done)|(go_simp;rfl));intro gb180 hg w64 hbox hb;have n0_:=am (bM BK179.out hb);have n1_:=am (below_step (bS GE179.out) hb);have n2_:=am (hbox);have n3_:=am ((by rw[hg];exact(below_size (bS GE179.out)):w.heap.size≤gb180));have n4_:=am ((by rw[hg];exact(below_size (bS GE179.out)):w.heap.size≤gb180));have n5_:=am ((bN BK179.out hg:gb179≠gb180));have n6_:=am ((bO BK179.out hg:gb180≠gb179));clear BK179 HB;have BK179:=n0_;have HB:=n1_;have BK180:=n2_;have GW180:=n3_;have GE180:=n4_;have NB179_180:=n5_;have NB180_179:=n6_;clear n0_ n1_ n2_ n3_ n4_ n5_ n6_;clear hb hbox hg;have hnb65:=NB179_180.out;have hnc65:=NB180_179.out;obtain⟨hcz66_0,hcz66_1,hcz66_2⟩:=cC3 BK179.out;obtain⟨hfz66_0,hfz66_1,hfz66_2⟩:=cF3 BK179.out)|((with_reducible refine gate_callee (f:=11) rfl ?_);refine goesA (some 9) rfl rfl Try.func11 #[.agg #[.int .i64 a0_0,.slice A0_1 l0_1.length c0_1,.int .i64 a0_2]] rfl ?_;(with_reducible refine(spec_GoodTurns.calls k a0_0 _ _ l0_1 a0_2 false _ ?side1 ?side2 A4.out).mono ?_);(case side1=>exact bC HR0_1.out);(case side2=>exact HC0_1.out);rintro e w67 ⟨rfl,hb⟩;refine⟨_,rfl,?_⟩;have n0_:=am (bM BK179.out hb);have n1_:=am (bM BK180.out hb);have n2_:=am (below_step (bS2 GE179.out GE180.out) hb);clear BK179 BK180 HB;have BK179:=n0_;have BK180:=n1_;have HB:=n2_;clear n0_ n1_ n2_;(try clear hb);(try clear hb2);(try clear hk);(try clear hi);obtain⟨hcz68_0,hcz68_1,hcz68_2⟩:=cC3 BK180.out;obtain⟨hfz68_0,hfz68_1,hfz68_2⟩:=cF3 BK180.out))
  refine bodyPost_ret (results_ct rfl _ _ gb180 25 #[.int .i64 0,.slice none 0 0,.int .i64 0] (0,0) _ rfl (by(with_reducible repeat (first|refine blk_drewN ?_ _|refine blk_drew ?_|refine blk_alloc ?_ _));apply bU3;(with_reducible repeat (first|refine blk_drewN ?_ _|refine blk_drew ?_|refine blk_alloc ?_ _));exact BK180.out) Try.underlying25 rfl (by kernel_rfl)) rfl ?_
  exact⟨_,by first|rfl|(simp[errW_none,errW_some]<;>rfl)|(simp[*,errW_none,errW_some]<;>rfl),by first|exact Kd.S_nil _ _ _ _ _|exact Kd.N_nil _ _ _ _ _|exact Kd.V_nil _ _ _ _ _|exact Kd.Q_nil _ _ _ _ _|exact Kd.R_nil _ _ _ _ _,bS2 GE179.out GE180.out⟩

/-- A state of type 58 at block g of W; what its slices lead to came in by w0. -/
def IsS58 (w0 W:World) (g:Nat) (f0:List Int) (f1:Int) (f2:Int):Prop:=∃ A0 c0,W.heap[g]?=some (.cells #[.slice A0 f0.length c0,.int .i64 f1,.int .u64 f2] 58 (0,0))∧w0.heap.size≤g∧Kd.C (Kd.int .u8) w0 A0 f0.length f0
theorem IsS58.grown {w0 W:World} {g:Nat} {f0:List Int} {f1:Int} {f2:Int} {W1:World} {row:Option Nat} (h:IsS58 w0 W g f0 f1 f2) (hw:W.grownBy W1 row) (hne:some g≠row):IsS58 w0 W1 g f0 f1 f2:=by
 obtain⟨A0,c0,hb,hg,hr0⟩:=h
 exact⟨A0,c0,blk_grown hb hw hne,hg,hr0⟩
theorem IsS58.own_neN {w0 W:World} {g:Nat} {f0:List Int} {f1:Int} {f2:Int} {α:Type} {d:Kd α} {e:Nat} {base:Nat} {ok:Nat→Prop} {v:Value} {xs:List α} (h:IsS58 w0 W g f0 f1 f2) (ho:Kd.N d e W base ok v xs) (ht:e≠58):some g≠v.ownBlock:=by
 obtain⟨A0,c0,hb,hg,hr0⟩:=h
 exact Kd.N_ne ho hb ht
theorem IsS58.fresh {w0 W:World} {g:Nat} {f0:List Int} {f1:Int} {f2:Int} (h:IsS58 w0 W g f0 f1 f2) : ∀ k,W.heap.size≤k→k≠g:=by
 obtain⟨A0,c0,hb,hg,hr0⟩:=h
 exact Kd.freshB hb
theorem IsS58.kept {w0 W:World} {g:Nat} {f0:List Int} {f1:Int} {f2:Int} {W1:World} {S:Nat→Prop} (h:IsS58 w0 W g f0 f1 f2) (hk:Kept W W1 S) (hne : ¬ S g):IsS58 w0 W1 g f0 f1 f2:=by
 obtain⟨A0,c0,hb,hg,hr0⟩:=h
 exact⟨A0,c0,blk_kept hb hk hne,hg,hr0⟩
theorem IsS58.below {w0 W:World} {g:Nat} {f0:List Int} {f1:Int} {f2:Int} {W1:World} (h:IsS58 w0 W g f0 f1 f2) (hw:Below W.heap.size W W1):IsS58 w0 W1 g f0 f1 f2:=h.grown (grown_of_below hw none) (by simp)
theorem IsS58.alloc {w0 W:World} {g:Nat} {f0:List Int} {f1:Int} {f2:Int} (h:IsS58 w0 W g f0 f1 f2) (o:Obj):IsS58 w0 (W.alloc o) g f0 f1 f2:=h.below (below_alloc (Below.refl _ _) o)
theorem IsS58.drewN {w0 W:World} {g:Nat} {f0:List Int} {f1:Int} {f2:Int} (h:IsS58 w0 W g f0 f1 f2) (m:Nat):IsS58 w0 (W.drewN m) g f0 f1 f2:=h
theorem IsS58.drew {w0 W:World} {g:Nat} {f0:List Int} {f1:Int} {f2:Int} (h:IsS58 w0 W g f0 f1 f2):IsS58 w0 W.drew g f0 f1 f2:=h
theorem IsS58.at_ {w0 W:World} {g:Nat} {f0:List Int} {f1:Int} {f2:Int} {w':World} {m:Nat} (hq:W.drewN m=w') (h:IsS58 w0 W g f0 f1 f2):IsS58 w0 w' g f0 f1 f2:=by subst hq;exact IsS58.drewN h m
theorem IsS58.apart {w0 W:World} {g:Nat} {f0:List Int} {f1:Int} {f2:Int} {α:Type} {d:Kd α} {e:Nat} {base:Nat} {ok:Nat→Prop} {v:Value} {xs:List α} (h:IsS58 w0 W g f0 f1 f2) (ho:d.R e W base ok v xs) (ht : ∀ q,q ∈ e::d.E→q≠58):d.R e W base (fun k=>ok k∧k≠g) v xs:=by
 obtain⟨A0,c0,hb,hg,hr0⟩:=h
 exact Kd.R_types ho hb ht
theorem IsS58.own_ne {w0 W:World} {g:Nat} {f0:List Int} {f1:Int} {f2:Int} {α:Type} {d:Kd α} {e:Nat} {base:Nat} {ok:Nat→Prop} {v:Value} {xs:List α} (h:IsS58 w0 W g f0 f1 f2) (ho:d.R e W base ok v xs) (ht:e≠58):some g≠v.ownBlock:=by
 obtain⟨A0,c0,hb,hg,hr0⟩:=h
 exact Kd.R_ne ho hb ht
theorem IsS58.apartQ {w0 W:World} {g:Nat} {f0:List Int} {f1:Int} {f2:Int} {α:Type} {d:Kd α} {e:Nat} {base:Nat} {ok:Nat→Prop} {v:Value} {xs:List α} (h:IsS58 w0 W g f0 f1 f2) (ho:d.Q e W base ok v xs) (ht : ∀ q,q ∈ e::d.E→q≠58):d.Q e W base (fun k=>ok k∧k≠g) v xs:=by
 obtain⟨A0,c0,hb,hg,hr0⟩:=h
 exact Kd.Q_types ho hb ht
theorem IsS58.own_neQ {w0 W:World} {g:Nat} {f0:List Int} {f1:Int} {f2:Int} {α:Type} {d:Kd α} {e:Nat} {base:Nat} {ok:Nat→Prop} {v:Value} {xs:List α} (h:IsS58 w0 W g f0 f1 f2) (ho:d.Q e W base ok v xs) (ht:e≠58):some g≠v.ownBlock:=by
 obtain⟨A0,c0,hb,hg,hr0⟩:=h
 exact Kd.Q_ne ho hb ht
theorem IsS58.apartS {w0 W:World} {g:Nat} {f0:List Int} {f1:Int} {f2:Int} {α:Type} {d:Kd α} {e:Nat} {base:Nat} {ok:Nat→Prop} {v:Value} {xs:List α} (h:IsS58 w0 W g f0 f1 f2) (ho:d.S e W base ok v xs) (ht : ∀ q,q ∈ e::d.E→q≠58):d.S e W base (fun k=>ok k∧k≠g) v xs:=by
 obtain⟨A0,c0,hb,hg,hr0⟩:=h
 exact Kd.S_types ho hb ht
theorem IsS58.own_neS {w0 W:World} {g:Nat} {f0:List Int} {f1:Int} {f2:Int} {α:Type} {d:Kd α} {e:Nat} {base:Nat} {ok:Nat→Prop} {v:Value} {xs:List α} (h:IsS58 w0 W g f0 f1 f2) (ho:d.S e W base ok v xs) (ht:e≠58):some g≠v.ownBlock:=by
 obtain⟨A0,c0,hb,hg,hr0⟩:=h
 exact Kd.S_ne ho hb ht
theorem IsS58.lt {w0 W:World} {g:Nat} {f0:List Int} {f1:Int} {f2:Int} (h:IsS58 w0 W g f0 f1 f2):g < W.heap.size:=by
 obtain⟨A0,c0,hb,hg,hr0⟩:=h
 exact blk_lt hb
theorem IsS58.ge {w0 W:World} {g:Nat} {f0:List Int} {f1:Int} {f2:Int} (h:IsS58 w0 W g f0 f1 f2):w0.heap.size≤g:=by
 obtain⟨A0,c0,hb,hg,hr0⟩:=h
 exact hg
theorem IsS58.ne_blk {w0 W:World} {g:Nat} {f0:List Int} {f1:Int} {f2:Int} {a:Nat} {cs:Array Value} {t:TypeId} {fr:Nat × Nat} (h:IsS58 w0 W g f0 f1 f2) (hb2:W.heap[a]?=some (.cells cs t fr)) (ht:t≠58):g≠a:=by
 obtain⟨A0,c0,hb,hg,hr0⟩:=h
 rintro rfl
 rw[hb] at hb2
 injection hb2 with hb2
 injection hb2 with _ ht2
 exact ht ht2.symm
theorem IsS58.far {w0 W:World} {g:Nat} {f0:List Int} {f1:Int} {f2:Int} {p:Addr} (h:IsS58 w0 W g f0 f1 f2) (hne:g≠p.block) (u:Value):IsS58 w0 (W.setCell p u) g f0 f1 f2:=by
 obtain⟨A0,c0,hb,hg,hr0⟩:=h
 exact⟨A0,c0,blk_far hb hne u,hg,hr0⟩
theorem cellS58_0 {W:World} {g:Nat} {A0:Option Addr} {c0:Nat} {f0:List Int} {f1:Int} {f2:Int} (h:W.heap[g]?=some (.cells #[.slice A0 f0.length c0,.int .i64 f1,.int .u64 f2] 58 (0,0))):W.cell? ⟨g,0,none⟩=some (.slice A0 f0.length c0):=(blk_cell h 0).trans rfl
theorem cellS58_1 {W:World} {g:Nat} {A0:Option Addr} {c0:Nat} {f0:List Int} {f1:Int} {f2:Int} (h:W.heap[g]?=some (.cells #[.slice A0 f0.length c0,.int .i64 f1,.int .u64 f2] 58 (0,0))):W.cell? ⟨g,1,none⟩=some (.int .i64 f1):=(blk_cell h 1).trans rfl
theorem IsS58.set_1 {w0 W:World} {g:Nat} {f0:List Int} {f1:Int} {f2:Int} (h:IsS58 w0 W g f0 f1 f2) (x:Int):IsS58 w0 (W.setCell ⟨g,1,none⟩ (.int .i64 x)) g f0 x f2:=by
 obtain⟨A0,c0,hb,hg,hr0⟩:=h
 exact⟨A0,c0,by simpa using blk_set hb 1 (.int .i64 x),hg,hr0⟩
theorem cellS58_2 {W:World} {g:Nat} {A0:Option Addr} {c0:Nat} {f0:List Int} {f1:Int} {f2:Int} (h:W.heap[g]?=some (.cells #[.slice A0 f0.length c0,.int .i64 f1,.int .u64 f2] 58 (0,0))):W.cell? ⟨g,2,none⟩=some (.int .u64 f2):=(blk_cell h 2).trans rfl
theorem IsS58.set_2 {w0 W:World} {g:Nat} {f0:List Int} {f1:Int} {f2:Int} (h:IsS58 w0 W g f0 f1 f2) (x:Int):IsS58 w0 (W.setCell ⟨g,2,none⟩ (.int .u64 x)) g f0 f1 x:=by
 obtain⟨A0,c0,hb,hg,hr0⟩:=h
 exact⟨A0,c0,by simpa using blk_set hb 2 (.int .u64 x),hg,hr0⟩
theorem IsS58.new (w0 W:World) (A0:Option Addr) (c0:Nat) (f0:List Int) (f1:Int) (f2:Int) (hB:Below w0.heap.size w0 W) (hr0:Kd.C (Kd.int .u8) w0 A0 f0.length f0):IsS58 w0 (W.alloc (.cells #[.slice A0 f0.length c0,.int .i64 f1,.int .u64 f2] 58)) W.heap.size f0 f1 f2:=⟨A0,c0,by simpa using heap_alloc_new W _,hB.size,hr0⟩

/-! ### spec_l1Cur_next: function 37 -/
def spec_l1Cur_next.f (s0_0:List Int) (s0_1:Int) (s0_2:Int):Option (Int × Int × Int):=if s0_1 < (s0_0.length:Int) then (if 0≤s0_1 then (if (wrap64 (s0_1+1))≤(s0_0.length:Int) then (some (wrap64 (rd s0_0 s0_1),wrap64 (s0_1+1),IntKind.u64.wrap ((IntKind.u64.wrap ((IntKind.u64.wrap (s0_2 * 6364136223846793005))+(IntKind.u64.wrap (wrap64 (rd s0_0 s0_1)))))+1442695040888963407))) else (some (wrap64 (Go.bits .and .u64 ((IntKind.u64.wrap ((IntKind.u64.wrap ((IntKind.u64.wrap (s0_2 * 6364136223846793005))+(IntKind.u64.wrap (wrap64 (rd s0_0 s0_1)))))+1442695040888963407)) / 1099511627776) 255),wrap64 (s0_1+1),IntKind.u64.wrap ((IntKind.u64.wrap ((IntKind.u64.wrap (s0_2 * 6364136223846793005))+(IntKind.u64.wrap (wrap64 (rd s0_0 s0_1)))))+1442695040888963407)))) else (none)) else (if (wrap64 (s0_1+1))≤(s0_0.length:Int) then (some (0,wrap64 (s0_1+1),IntKind.u64.wrap ((IntKind.u64.wrap ((IntKind.u64.wrap (s0_2 * 6364136223846793005))))+1442695040888963407))) else (some (wrap64 (Go.bits .and .u64 ((IntKind.u64.wrap ((IntKind.u64.wrap ((IntKind.u64.wrap (s0_2 * 6364136223846793005))))+1442695040888963407)) / 1099511627776) 255),wrap64 (s0_1+1),IntKind.u64.wrap ((IntKind.u64.wrap ((IntKind.u64.wrap (s0_2 * 6364136223846793005))))+1442695040888963407))))
set_option maxHeartbeats 8000000 in
set_option maxRecDepth 100000 in
theorem spec_l1Cur_next.calls (g:Nat) (s0_0:List Int) (s0_1:Int) (s0_2:Int) (r1:Int) (r2:Int) (r3:Int) (w0 w:World) (hI:IsS58 w0 w g s0_0 s0_1 s0_2) (hB:Below w0.heap.size w0 w) (h:spec_l1Cur_next.f s0_0 s0_1 s0_2=some (r1,r2,r3)) :
  Calls Try.prog 37 #[.pointer (some ⟨g,0,none⟩)] w fun e w'=>e=.returned (.int .i64 r1)∧IsS58 w0 w' g s0_0 r2 r3∧Below w0.heap.size w0 w'∧KeepBut w w' g none:=by
 have HI0:=am hI
 have HK:=am (KeepBut.refl w g none)
 have HL:=am hB.size
 clear hI
 have HW0:=am hB.size
 have HB:=am hB
 clear hB
 have H:(if s0_1 < (s0_0.length:Int) then (if 0≤s0_1 then (if (wrap64 (s0_1+1))≤(s0_0.length:Int) then (some (wrap64 (rd s0_0 s0_1),wrap64 (s0_1+1),IntKind.u64.wrap ((IntKind.u64.wrap ((IntKind.u64.wrap (s0_2 * 6364136223846793005))+(IntKind.u64.wrap (wrap64 (rd s0_0 s0_1)))))+1442695040888963407))) else (some (wrap64 (Go.bits .and .u64 ((IntKind.u64.wrap ((IntKind.u64.wrap ((IntKind.u64.wrap (s0_2 * 6364136223846793005))+(IntKind.u64.wrap (wrap64 (rd s0_0 s0_1)))))+1442695040888963407)) / 1099511627776) 255),wrap64 (s0_1+1),IntKind.u64.wrap ((IntKind.u64.wrap ((IntKind.u64.wrap (s0_2 * 6364136223846793005))+(IntKind.u64.wrap (wrap64 (rd s0_0 s0_1)))))+1442695040888963407)))) else (none)) else (if (wrap64 (s0_1+1))≤(s0_0.length:Int) then (some (0,wrap64 (s0_1+1),IntKind.u64.wrap ((IntKind.u64.wrap ((IntKind.u64.wrap (s0_2 * 6364136223846793005))))+1442695040888963407))) else (some (wrap64 (Go.bits .and .u64 ((IntKind.u64.wrap ((IntKind.u64.wrap ((IntKind.u64.wrap (s0_2 * 6364136223846793005))))+1442695040888963407)) / 1099511627776) 255),wrap64 (s0_1+1),IntKind.u64.wrap ((IntKind.u64.wrap ((IntKind.u64.wrap (s0_2 * 6364136223846793005))))+1442695040888963407)))))=some (r1,r2,r3):=h
 clear h
 by_cases c2:s0_1 < (s0_0.length:Int)
 ·rw[if_pos c2] at H
  have c2b0:decide (s0_1 < (s0_0.length:Int))=true:=decide_eq_true c2
  clear c2
  by_cases c3:0≤s0_1
  ·rw[if_pos c3] at H
   have c3b0:decide (0≤s0_1)=true:=decide_eq_true c3
   clear c3
   by_cases c4:(wrap64 (s0_1+1))≤(s0_0.length:Int)
   ·rw[if_pos c4] at H
    have c4b0:decide ((wrap64 (s0_1+1))≤(s0_0.length:Int))=true:=decide_eq_true c4
    clear c4
    simp only[Option.some.injEq,Prod.mk.injEq] at H
    obtain⟨rfl,rfl,rfl⟩:=H
    obtain⟨ASz5_0,cSz5_0,HGz5,hgz5,HSz5_0⟩:=HI0.out
    have hcz5_0:=cellS58_0 HGz5
    have hcz5_1:=cellS58_1 HGz5
    have hcz5_2:=cellS58_2 HGz5
    have hfz5_1:=blk_frozen HGz5 1
    have hfz5_2:=blk_frozen HGz5 2
    clear HGz5 hgz5
    have p194:0≤(s0_1:Int):=bD_
    have q194:s0_1 < (s0_0.length:Int):=bD_
    obtain⟨ad194,e194,hx194_0⟩:=Kd.at_int HSz5_0 s0_1 p194 q194
    cases e194
    replace hx194_0:=pw_cell_below HB.out hx194_0
    replace p194:=eq_true p194
    replace q194:=eq_true q194
    go_enter Try.func37,Try.ntmps37
    go_wp2
    repeat (go_quiet (fail);try go_wp2)
    go_ret
    exact⟨bE,by repeat (first|(with_reducible first|exact HI0.out|apply IsS58.alloc|apply IsS58.drewN|apply IsS58.drew|apply IsS58.set_1|apply IsS58.set_2)|exact HI0.out),by repeat (first|(with_reducible first|exact HB.out|apply below_alloc|apply pw_below_drewN|apply below_drew1|refine below_set ?_ (IsS58.ge HI0.out))|exact HB.out),by repeat (first|(with_reducible first|exact HK.out|apply KeepBut.set_|apply keep_drewN|apply keep_drew|apply keep_alloc)|exact HK.out)⟩
   ·rw[if_neg c4] at H
    have c4b0:decide ((wrap64 (s0_1+1))≤(s0_0.length:Int))=false:=decide_eq_false c4
    clear c4
    simp only[Option.some.injEq,Prod.mk.injEq] at H
    obtain⟨rfl,rfl,rfl⟩:=H
    obtain⟨ASz6_0,cSz6_0,HGz6,hgz6,HSz6_0⟩:=HI0.out
    have hcz6_0:=cellS58_0 HGz6
    have hcz6_1:=cellS58_1 HGz6
    have hcz6_2:=cellS58_2 HGz6
    have hfz6_1:=blk_frozen HGz6 1
    have hfz6_2:=blk_frozen HGz6 2
    clear HGz6 hgz6
    have p194:0≤(s0_1:Int):=bD_
    have q194:s0_1 < (s0_0.length:Int):=bD_
    obtain⟨ad194,e194,hx194_0⟩:=Kd.at_int HSz6_0 s0_1 p194 q194
    cases e194
    replace hx194_0:=pw_cell_below HB.out hx194_0
    replace p194:=eq_true p194
    replace q194:=eq_true q194
    go_enter Try.func37,Try.ntmps37
    go_wp2
    repeat (go_quiet (fail);try go_wp2)
    go_ret
    exact⟨bE,by repeat (first|(with_reducible first|exact HI0.out|apply IsS58.alloc|apply IsS58.drewN|apply IsS58.drew|apply IsS58.set_1|apply IsS58.set_2)|exact HI0.out),by repeat (first|(with_reducible first|exact HB.out|apply below_alloc|apply pw_below_drewN|apply below_drew1|refine below_set ?_ (IsS58.ge HI0.out))|exact HB.out),by repeat (first|(with_reducible first|exact HK.out|apply KeepBut.set_|apply keep_drewN|apply keep_drew|apply keep_alloc)|exact HK.out)⟩
  ·rw[if_neg c3] at H
   exact absurd H (by simp)
 ·rw[if_neg c2] at H
  have c2b0:decide (s0_1 < (s0_0.length:Int))=false:=decide_eq_false c2
  clear c2
  by_cases c7:(wrap64 (s0_1+1))≤(s0_0.length:Int)
  ·rw[if_pos c7] at H
   have c7b0:decide ((wrap64 (s0_1+1))≤(s0_0.length:Int))=true:=decide_eq_true c7
   clear c7
   simp only[Option.some.injEq,Prod.mk.injEq] at H
   obtain⟨rfl,rfl,rfl⟩:=H
   obtain⟨ASz8_0,cSz8_0,HGz8,hgz8,HSz8_0⟩:=HI0.out
   have hcz8_0:=cellS58_0 HGz8
   have hcz8_1:=cellS58_1 HGz8
   have hcz8_2:=cellS58_2 HGz8
   have hfz8_1:=blk_frozen HGz8 1
   have hfz8_2:=blk_frozen HGz8 2
   clear HGz8 hgz8
   go_enter Try.func37,Try.ntmps37
   go_wp2
   repeat (go_quiet (fail);try go_wp2)
   go_ret
   exact⟨bE,by repeat (first|(with_reducible first|exact HI0.out|apply IsS58.alloc|apply IsS58.drewN|apply IsS58.drew|apply IsS58.set_1|apply IsS58.set_2)|exact HI0.out),by repeat (first|(with_reducible first|exact HB.out|apply below_alloc|apply pw_below_drewN|apply below_drew1|refine below_set ?_ (IsS58.ge HI0.out))|exact HB.out),by repeat (first|(with_reducible first|exact HK.out|apply KeepBut.set_|apply keep_drewN|apply keep_drew|apply keep_alloc)|exact HK.out)⟩
  ·rw[if_neg c7] at H
   have c7b0:decide ((wrap64 (s0_1+1))≤(s0_0.length:Int))=false:=decide_eq_false c7
   clear c7
   simp only[Option.some.injEq,Prod.mk.injEq] at H
   obtain⟨rfl,rfl,rfl⟩:=H
   obtain⟨ASz9_0,cSz9_0,HGz9,hgz9,HSz9_0⟩:=HI0.out
   have hcz9_0:=cellS58_0 HGz9
   have hcz9_1:=cellS58_1 HGz9
   have hcz9_2:=cellS58_2 HGz9
   have hfz9_1:=blk_frozen HGz9 1
   have hfz9_2:=blk_frozen HGz9 2
   clear HGz9 hgz9
   go_enter Try.func37,Try.ntmps37
   go_wp2
   repeat (go_quiet (fail);try go_wp2)
   go_ret
   exact⟨bE,by repeat (first|(with_reducible first|exact HI0.out|apply IsS58.alloc|apply IsS58.drewN|apply IsS58.drew|apply IsS58.set_1|apply IsS58.set_2)|exact HI0.out),by repeat (first|(with_reducible first|exact HB.out|apply below_alloc|apply pw_below_drewN|apply below_drew1|refine below_set ?_ (IsS58.ge HI0.out))|exact HB.out),by repeat (first|(with_reducible first|exact HK.out|apply KeepBut.set_|apply keep_drewN|apply keep_drew|apply keep_alloc)|exact HK.out)⟩

/-! ### spec_l1Cur_pick: function 29 -/
def spec_l1Cur_pick.f (s0_0:List Int) (s0_1:Int) (s0_2:Int) (a1:Int):Option (Int × Int × Int):=if a1≤1 then (some (0,s0_1,s0_2)) else ((spec_l1Cur_next.f s0_0 s0_1 s0_2).bind fun bt195=>(if a1 > 200 then ((spec_l1Cur_next.f s0_0 bt195.2.1 bt195.2.2).bind fun bt198=>(if a1=0 then (none) else (some (Int.tmod (wrap64 ((wrap64 (bt195.1 * 256))+bt198.1)) a1,bt198.2.1,bt198.2.2)))) else (if a1=0 then (none) else (some (Int.tmod bt195.1 a1,bt195.2.1,bt195.2.2)))))
set_option maxHeartbeats 8000000 in
set_option maxRecDepth 100000 in
theorem spec_l1Cur_pick.calls (g:Nat) (s0_0:List Int) (s0_1:Int) (s0_2:Int) (a1:Int) (r1:Int) (r2:Int) (r3:Int) (w0 w:World) (hI:IsS58 w0 w g s0_0 s0_1 s0_2) (hB:Below w0.heap.size w0 w) (h:spec_l1Cur_pick.f s0_0 s0_1 s0_2 a1=some (r1,r2,r3)) :
  Calls Try.prog 29 #[.pointer (some ⟨g,0,none⟩),.int .i64 a1] w fun e w'=>e=.returned (.int .i64 r1)∧IsS58 w0 w' g s0_0 r2 r3∧Below w0.heap.size w0 w'∧KeepBut w w' g none:=by
 have HI0:=am hI
 have HK:=am (KeepBut.refl w g none)
 have HL:=am hB.size
 clear hI
 have HW0:=am hB.size
 have HB:=am hB
 clear hB
 have H:(if a1≤1 then (some (0,s0_1,s0_2)) else ((spec_l1Cur_next.f s0_0 s0_1 s0_2).bind fun bt195=>(if a1 > 200 then ((spec_l1Cur_next.f s0_0 bt195.2.1 bt195.2.2).bind fun bt198=>(if a1=0 then (none) else (some (Int.tmod (wrap64 ((wrap64 (bt195.1 * 256))+bt198.1)) a1,bt198.2.1,bt198.2.2)))) else (if a1=0 then (none) else (some (Int.tmod bt195.1 a1,bt195.2.1,bt195.2.2))))))=some (r1,r2,r3):=h
 clear h
 by_cases c3:a1≤1
 ·rw[if_pos c3] at H
  have c3b0:decide (a1≤1)=true:=decide_eq_true c3
  clear c3
  simp only[Option.some.injEq,Prod.mk.injEq] at H
  obtain⟨rfl,rfl,rfl⟩:=H
  go_enter Try.func29,Try.ntmps29
  go_wp2
  go_ret
  exact⟨bE,by repeat (first|(with_reducible first|exact HI0.out|apply IsS58.alloc|apply IsS58.drewN|apply IsS58.drew|apply IsS58.set_1|apply IsS58.set_2)|exact HI0.out),by repeat (first|(with_reducible first|exact HB.out|apply below_alloc|apply pw_below_drewN|apply below_drew1|refine below_set ?_ (IsS58.ge HI0.out))|exact HB.out),by repeat (first|(with_reducible first|exact HK.out|apply KeepBut.set_|apply keep_drewN|apply keep_drew|apply keep_alloc)|exact HK.out)⟩
 ·rw[if_neg c3] at H
  have c3b0:decide (a1≤1)=false:=decide_eq_false c3
  clear c3
  replace H:=bI_ H
  obtain⟨⟨t195,t196,t197⟩,A40,H⟩:=H
  replace H:(if a1 > 200 then ((spec_l1Cur_next.f s0_0 t196 t197).bind fun bt198=>(if a1=0 then (none) else (some (Int.tmod (wrap64 ((wrap64 (t195 * 256))+bt198.1)) a1,bt198.2.1,bt198.2.2)))) else (if a1=0 then (none) else (some (Int.tmod t195 a1,t196,t197))))=some (r1,r2,r3):=H
  have A4:=am A40
  clear A40
  by_cases c5:a1 > 200
  ·rw[if_pos c5] at H
   have c5b0:decide (200 < a1)=true:=decide_eq_true c5
   clear c5
   replace H:=bI_ H
   obtain⟨⟨t198,t199,t200⟩,A60,H⟩:=H
   replace H:(if a1=0 then (none) else (some (Int.tmod (wrap64 ((wrap64 (t195 * 256))+t198)) a1,t199,t200)))=some (r1,r2,r3):=H
   have A6:=am A60
   clear A60
   by_cases c7:a1=0
   ·rw[if_pos c7] at H
    exact absurd H (by simp)
   ·rw[if_neg c7] at H
    have c7b0:(a1 == 0)=false:=beq_eq_false_iff_ne.mpr c7
    have c7b1:(a1 != 0)=true:=bne_iff_ne.mpr c7
    simp only[Option.some.injEq,Prod.mk.injEq] at H
    obtain⟨rfl,rfl,rfl⟩:=H
    go_enter Try.func29,Try.ntmps29
    go_wp2_with (first|((with_reducible refine gate_callee (f:=37) rfl ?_);refine goesA (some 9) rfl rfl Try.func37 #[.pointer (some ⟨g,0,none⟩)] rfl ?_;(with_reducible refine(spec_l1Cur_next.calls g s0_0 s0_1 s0_2 t195 t196 t197 w0 _ ?side1 ?side2 A4.out).mono ?_);(case side1=>repeat (first|(with_reducible first|exact HI0.out|apply IsS58.alloc|apply IsS58.drewN|apply IsS58.drew|apply IsS58.set_1|apply IsS58.set_2)|exact HI0.out));(case side2=>repeat (first|(with_reducible first|exact HB.out|apply below_alloc|apply pw_below_drewN|apply below_drew1|refine below_set ?_ (IsS58.ge HI0.out))|exact HB.out));rintro e w8 ⟨rfl,hi,hb,hk⟩;refine⟨_,rfl,?_⟩;have n0_:=am (KeepBut.trans (by repeat (first|(with_reducible first|exact HK.out|apply KeepBut.set_|apply keep_drewN|apply keep_drew|apply keep_alloc)|exact HK.out)) hk (.inl rfl));have n1_:=am (hb);have n2_:=am (hi);clear HK HB;(try clear HI0);have HK:=n0_;have HB:=n1_;have HI0:=n2_;clear n0_ n1_ n2_;(try clear hb);(try clear hb2);(try clear hk);(try clear hi))|((with_reducible refine gate_callee (f:=37) rfl ?_);refine goesA (some 15) rfl rfl Try.func37 #[.pointer (some ⟨g,0,none⟩)] rfl ?_;(with_reducible refine(spec_l1Cur_next.calls g s0_0 t196 t197 t198 t199 t200 w0 _ ?side1 ?side2 A6.out).mono ?_);(case side1=>repeat (first|(with_reducible first|exact HI0.out|apply IsS58.alloc|apply IsS58.drewN|apply IsS58.drew|apply IsS58.set_1|apply IsS58.set_2)|exact HI0.out));(case side2=>repeat (first|(with_reducible first|exact HB.out|apply below_alloc|apply pw_below_drewN|apply below_drew1|refine below_set ?_ (IsS58.ge HI0.out))|exact HB.out));rintro e w9 ⟨rfl,hi,hb,hk⟩;refine⟨_,rfl,?_⟩;have n0_:=am (KeepBut.trans (by repeat (first|(with_reducible first|exact HK.out|apply KeepBut.set_|apply keep_drewN|apply keep_drew|apply keep_alloc)|exact HK.out)) hk (.inl rfl));have n1_:=am (hb);have n2_:=am (hi);clear HK HB;(try clear HI0);have HK:=n0_;have HB:=n1_;have HI0:=n2_;clear n0_ n1_ n2_;(try clear hb);(try clear hb2);(try clear hk);(try clear hi)))
    go_ret
    exact⟨bE,by repeat (first|(with_reducible first|exact HI0.out|apply IsS58.alloc|apply IsS58.drewN|apply IsS58.drew|apply IsS58.set_1|apply IsS58.set_2)|exact HI0.out),by repeat (first|(with_reducible first|exact HB.out|apply below_alloc|apply pw_below_drewN|apply below_drew1|refine below_set ?_ (IsS58.ge HI0.out))|exact HB.out),by repeat (first|(with_reducible first|exact HK.out|apply KeepBut.set_|apply keep_drewN|apply keep_drew|apply keep_alloc)|exact HK.out)⟩
  ·rw[if_neg c5] at H
   have c5b0:decide (200 < a1)=false:=decide_eq_false c5
   clear c5
   by_cases c10:a1=0
   ·rw[if_pos c10] at H
    exact absurd H (by simp)
   ·rw[if_neg c10] at H
    have c10b0:(a1 == 0)=false:=beq_eq_false_iff_ne.mpr c10
    have c10b1:(a1 != 0)=true:=bne_iff_ne.mpr c10
    simp only[Option.some.injEq,Prod.mk.injEq] at H
    obtain⟨rfl,rfl,rfl⟩:=H
    go_enter Try.func29,Try.ntmps29
    go_wp2_with (first|((with_reducible refine gate_callee (f:=37) rfl ?_);refine goesA (some 9) rfl rfl Try.func37 #[.pointer (some ⟨g,0,none⟩)] rfl ?_;(with_reducible refine(spec_l1Cur_next.calls g s0_0 s0_1 s0_2 t195 t196 t197 w0 _ ?side1 ?side2 A4.out).mono ?_);(case side1=>repeat (first|(with_reducible first|exact HI0.out|apply IsS58.alloc|apply IsS58.drewN|apply IsS58.drew|apply IsS58.set_1|apply IsS58.set_2)|exact HI0.out));(case side2=>repeat (first|(with_reducible first|exact HB.out|apply below_alloc|apply pw_below_drewN|apply below_drew1|refine below_set ?_ (IsS58.ge HI0.out))|exact HB.out));rintro e w11 ⟨rfl,hi,hb,hk⟩;refine⟨_,rfl,?_⟩;have n0_:=am (KeepBut.trans (by repeat (first|(with_reducible first|exact HK.out|apply KeepBut.set_|apply keep_drewN|apply keep_drew|apply keep_alloc)|exact HK.out)) hk (.inl rfl));have n1_:=am (hb);have n2_:=am (hi);clear HK HB;(try clear HI0);have HK:=n0_;have HB:=n1_;have HI0:=n2_;clear n0_ n1_ n2_;(try clear hb);(try clear hb2);(try clear hk);(try clear hi)))
    go_ret
    exact⟨bE,by repeat (first|(with_reducible first|exact HI0.out|apply IsS58.alloc|apply IsS58.drewN|apply IsS58.drew|apply IsS58.set_1|apply IsS58.set_2)|exact HI0.out),by repeat (first|(with_reducible first|exact HB.out|apply below_alloc|apply pw_below_drewN|apply below_drew1|refine below_set ?_ (IsS58.ge HI0.out))|exact HB.out),by repeat (first|(with_reducible first|exact HK.out|apply KeepBut.set_|apply keep_drewN|apply keep_drew|apply keep_alloc)|exact HK.out)⟩

/-! ### spec_l1Cur_among: function 30 -/
def spec_l1Cur_among.f (s0_0:List Int) (s0_1:Int) (s0_2:Int) (l1:List Int):Option (Int × Int × Int):=(spec_l1Cur_pick.f s0_0 s0_1 s0_2 (l1.length:Int)).bind fun bt201=>(if 0≤bt201.1 then (if bt201.1 < (l1.length:Int) then (some (rd l1 bt201.1,bt201.2.1,bt201.2.2)) else (none)) else (none))
set_option maxHeartbeats 8000000 in
set_option maxRecDepth 100000 in
theorem spec_l1Cur_among.calls (g:Nat) (s0_0:List Int) (s0_1:Int) (s0_2:Int) (A1:Option Addr) (c1:Nat) (l1:List Int) (r1:Int) (r2:Int) (r3:Int) (w0 w:World) (hI:IsS58 w0 w g s0_0 s0_1 s0_2) (hB:Below w0.heap.size w0 w) (hr1:Kd.C (Kd.int .i64) w A1 l1.length l1) (hc1:l1.length≤c1) (hf1 : ∀ ad,A1=some ad→0 < l1.length→ad.block≠g) (h:spec_l1Cur_among.f s0_0 s0_1 s0_2 l1=some (r1,r2,r3)) :
  Calls Try.prog 30 #[.pointer (some ⟨g,0,none⟩),.slice A1 l1.length c1] w fun e w'=>e=.returned (.int .i64 r1)∧IsS58 w0 w' g s0_0 r2 r3∧Below w0.heap.size w0 w'∧KeepBut w w' g none:=by
 have HR1:=am hr1
 have HC1:=am hc1
 clear hr1 hc1
 have HI0:=am hI
 have HK:=am (KeepBut.refl w g none)
 have HL:=am hB.size
 clear hI
 have HW0:=am hB.size
 have HB:=am hB
 clear hB
 have H:((spec_l1Cur_pick.f s0_0 s0_1 s0_2 (l1.length:Int)).bind fun bt201=>(if 0≤bt201.1 then (if bt201.1 < (l1.length:Int) then (some (rd l1 bt201.1,bt201.2.1,bt201.2.2)) else (none)) else (none)))=some (r1,r2,r3):=h
 clear h
 replace H:=bI_ H
 obtain⟨⟨t201,t202,t203⟩,A30,H⟩:=H
 replace H:(if 0≤t201 then (if t201 < (l1.length:Int) then (some (rd l1 t201,t202,t203)) else (none)) else (none))=some (r1,r2,r3):=H
 have A3:=am A30
 clear A30
 by_cases c4:0≤t201
 ·rw[if_pos c4] at H
  have c4b0:decide (0≤t201)=true:=decide_eq_true c4
  clear c4
  by_cases c5:t201 < (l1.length:Int)
  ·rw[if_pos c5] at H
   have c5b0:decide (t201 < (l1.length:Int))=true:=decide_eq_true c5
   clear c5
   simp only[Option.some.injEq,Prod.mk.injEq] at H
   obtain⟨rfl,rfl,rfl⟩:=H
   go_enter Try.func30,Try.ntmps30
   go_wp2_with (first|((with_reducible refine gate_callee (f:=29) rfl ?_);refine goesA (some 9) rfl rfl Try.func29 #[.pointer (some ⟨g,0,none⟩),.int .i64 (l1.length:Int)] rfl ?_;(with_reducible refine(spec_l1Cur_pick.calls g s0_0 s0_1 s0_2 (l1.length:Int) t201 t202 t203 w0 _ ?side1 ?side2 A3.out).mono ?_);(case side1=>repeat (first|(with_reducible first|exact HI0.out|apply IsS58.alloc|apply IsS58.drewN|apply IsS58.drew|apply IsS58.set_1|apply IsS58.set_2)|exact HI0.out));(case side2=>repeat (first|(with_reducible first|exact HB.out|apply below_alloc|apply pw_below_drewN|apply below_drew1|refine below_set ?_ (IsS58.ge HI0.out))|exact HB.out));rintro e w6 ⟨rfl,hi,hb,hk⟩;refine⟨_,rfl,?_⟩;have n0_:=am (KeepBut.trans (by repeat (first|(with_reducible first|exact HK.out|apply KeepBut.set_|apply keep_drewN|apply keep_drew|apply keep_alloc)|exact HK.out)) hk (.inl rfl));have n1_:=am (hb);have n2_:=am (hi);clear HK HB;(try clear HI0);have HK:=n0_;have HB:=n1_;have HI0:=n2_;clear n0_ n1_ n2_;(try clear hb);(try clear hb2);(try clear hk);(try clear hi);have p204:0≤(t201:Int):=bD_;have q204:t201 < (l1.length:Int):=bD_;obtain⟨ad204,e204,hx204_0⟩:=Kd.at_int HR1.out t201 p204 q204;cases e204;replace hx204_0:=keep_cell HK.out hx204_0 (by first|(rw[add_block];exact hf1 _ rfl (by omega))|exact hf1 _ rfl (by omega)|exact hf1 ad204 rfl (by omega));replace p204:=eq_true p204;replace q204:=eq_true q204))
   go_ret
   exact⟨bE,by repeat (first|(with_reducible first|exact HI0.out|apply IsS58.alloc|apply IsS58.drewN|apply IsS58.drew|apply IsS58.set_1|apply IsS58.set_2)|exact HI0.out),by repeat (first|(with_reducible first|exact HB.out|apply below_alloc|apply pw_below_drewN|apply below_drew1|refine below_set ?_ (IsS58.ge HI0.out))|exact HB.out),by repeat (first|(with_reducible first|exact HK.out|apply KeepBut.set_|apply keep_drewN|apply keep_drew|apply keep_alloc)|exact HK.out)⟩
  ·rw[if_neg c5] at H
   exact absurd H (by simp)
 ·rw[if_neg c4] at H
  exact absurd H (by simp)

/-! ### spec_NewTurns: function 35 -/
def spec_NewTurns.f (a0:Int) (a1:Int):Option (Int × (List (S34)) × Int × Bool):=(spec_l1In.f a0 1 50).bind fun t206=>(if t206=true then ((spec_l1In.f a1 1 6).bind fun t207=>(if t207=true then (if 0≤a1 then (if (a1:Int).toNat≤7036874417766 then (some (a0,(List.replicate (a1:Int).toNat z34),0,true)) else (none)) else (none)) else (some (0,([]:List (S34)),0,false)))) else (some (0,([]:List (S34)),0,false)))
set_option maxHeartbeats 8000000 in
set_option maxRecDepth 100000 in
theorem spec_NewTurns.calls (a0:Int) (a1:Int) (r1:Int) (r2:List (S34)) (r3:Int) (r4:Bool) (w:World) (h:spec_NewTurns.f a0 a1=some (r1,r2,r3,r4)) :
  Calls Try.prog 35 #[.int .i64 a0,.int .i64 a1] w fun e w' => ∃ v1_:Value,e=.returned (.tuple #[.agg #[.int .i64 r1,v1_,.int .i64 r3],.bool r4])∧Kd.S k34 34 w' w.heap.size (fun _=>True) v1_ r2∧Below w.heap.size w w':=by
 have hu25:=Try.underlying25
 have HB:=am (Below.refl w.heap.size w)
 have H:((spec_l1In.f a0 1 50).bind fun t206=>(if t206=true then ((spec_l1In.f a1 1 6).bind fun t207=>(if t207=true then (if 0≤a1 then (if (a1:Int).toNat≤7036874417766 then (some (a0,(List.replicate (a1:Int).toNat z34),0,true)) else (none)) else (none)) else (some (0,([]:List (S34)),0,false)))) else (some (0,([]:List (S34)),0,false))))=some (r1,r2,r3,r4):=h
 clear h
 replace H:=bI_ H
 obtain⟨t206,A30,H⟩:=H
 replace H:(if t206=true then ((spec_l1In.f a1 1 6).bind fun t207=>(if t207=true then (if 0≤a1 then (if (a1:Int).toNat≤7036874417766 then (some (a0,(List.replicate (a1:Int).toNat z34),0,true)) else (none)) else (none)) else (some (0,([]:List (S34)),0,false)))) else (some (0,([]:List (S34)),0,false)))=some (r1,r2,r3,r4):=H
 have A3:=am A30
 clear A30
 by_cases c4:t206=true
 ·subst c4
  have H1:((spec_l1In.f a1 1 6).bind fun t207=>(if t207=true then (if 0≤a1 then (if (a1:Int).toNat≤7036874417766 then (some (a0,(List.replicate (a1:Int).toNat z34),0,true)) else (none)) else (none)) else (some (0,([]:List (S34)),0,false))))=some (r1,r2,r3,r4):=by rw[if_pos rfl] at H;exact H
  clear H
  have H:=H1
  clear H1
  replace H:=bI_ H
  obtain⟨t207,A50,H⟩:=H
  replace H:(if t207=true then (if 0≤a1 then (if (a1:Int).toNat≤7036874417766 then (some (a0,(List.replicate (a1:Int).toNat z34),0,true)) else (none)) else (none)) else (some (0,([]:List (S34)),0,false)))=some (r1,r2,r3,r4):=H
  have A5:=am A50
  clear A50
  by_cases c6:t207=true
  ·subst c6
   have H1:(if 0≤a1 then (if (a1:Int).toNat≤7036874417766 then (some (a0,(List.replicate (a1:Int).toNat z34),0,true)) else (none)) else (none))=some (r1,r2,r3,r4):=by rw[if_pos rfl] at H;exact H
   clear H
   have H:=H1
   clear H1
   by_cases c7:0≤a1
   ·rw[if_pos c7] at H
    have c7b0:=eq_true c7
    have c7b1:decide (0≤a1)=true:=decide_eq_true c7
    clear c7
    by_cases c8:(a1:Int).toNat≤7036874417766
    ·rw[if_pos c8] at H
     have c8b0:=eq_true c8
     have c8b1:decide ((a1:Int).toNat≤7036874417766)=true:=decide_eq_true c8
     clear c8
     obtain⟨y208,hy208⟩ : ∃ y_:List (S34),y_=(List.replicate (a1:Int).toNat z34):=⟨_,rfl⟩
     replace H:(some (a0,y208,0,true))=some (r1,r2,r3,r4):=by first|(rw[hy208];with_reducible exact H)|(have H2_:=(Option.bind_some _ _).symm.trans H;rw[hy208];with_reducible exact H2_)|(have H2_:=(Option.bind_some _ _).symm.trans H;with_reducible exact H2_)|with_reducible exact H|(rw[hy208];exact H)|exact H
     have Ny208:=am hy208
     clear hy208
     simp only[Option.some.injEq,Prod.mk.injEq] at H
     obtain⟨rfl,rfl,rfl,rfl⟩:=H
     go_enter Try.func35,Try.ntmps35
     go_wp2_with (first|((with_reducible refine gate_dst (N:=4) rfl ?_);refine box_event ?hg (N:=4) ?hd (cs:=#[.int .i64 0,.slice none 0 0,.int .i64 0]) (t:=25) ?hr ?_;(case hd=>rfl);(case hg=>rfl);(case hr=>first|(go_simp;done)|(go_simp;rfl));intro gb205 hg w9 hbox hb;have n0_:=am (below_step (bB) hb);have n1_:=am (hbox);have n2_:=am ((bG:w.heap.size≤gb205));have n3_:=am ((bG:w.heap.size≤gb205));clear HB;have HB:=n0_;have BK205:=n1_;have GW205:=n2_;have GE205:=n3_;clear n0_ n1_ n2_ n3_;clear hb hbox hg)|((with_reducible refine gate_callee (f:=27) rfl ?_);refine goesA (some 7) rfl rfl Try.func27 #[.int .i64 a0,.int .i64 1,.int .i64 50] rfl ?_;(with_reducible refine(spec_l1In.calls a0 1 50 true _ A3.out).mono ?_);rintro e w' ⟨rfl,⟨nd,rfl⟩⟩;refine⟨_,rfl,?_⟩;(try (rw[drewN_self w9];generalize hq_:World.drewN w9 _=w9;have n0_:Aside0 (w9.heap[gb205]?=some (.cells #[.int .i64 0,.slice none 0 0,.int .i64 0] 25 (0,0))):=⟨by rw[← hq_];exact(bL BK205.out)⟩;have n1_:Aside0 (Below w.heap.size w w9):=⟨by rw[← hq_];exact(bS GE205.out)⟩;clear BK205 HB hq_;have BK205:=n0_;have HB:=n1_;clear n0_ n1_)))|(go_at_call 27;(with_reducible refine(spec_l1In.calls a1 1 6 true _ A5.out).mono ?_);rintro e w' ⟨rfl,⟨nd,rfl⟩⟩;(try (rw[drewN_self w9];generalize hq_:World.drewN w9 _=w9;have n0_:Aside0 (w9.heap[gb205]?=some (.cells #[.int .i64 0,.slice none 0 0,.int .i64 0] 25 (0,0))):=⟨by rw[← hq_];exact(bL BK205.out)⟩;have n1_:Aside0 (Below w.heap.size w w9):=⟨by rw[← hq_];exact(bS GE205.out)⟩;clear BK205 HB hq_;have BK205:=n0_;have HB:=n1_;clear n0_ n1_)))|((with_reducible refine gate_dst (N:=17) rfl ?_);refine Kd.S_make k34 _ 34 rfl (N:=17) rfl 23 _ _ rfl a1 rfl rfl Try.underlying23 (.agg #[(.slice none 0 0),(.int .i64 0),(.int .i64 0)]) 40 info34 rfl (by decide) (by omega) z34 (ok:=fun _=>True) (okp:=fun _=>True) (k34_mkM _ _ _ z34 (Kd.R_nil _ _ _ _ _)) (fun _ hk=>hk) trivial (bD_) (Nat.le_trans (Nat.mul_le_mul_right _ (bD_:a1.toNat≤7036874417766)) (by omega)) (Below.refl _ _) (Nat.le_refl _) ?_;intro v209 w10 ho11 hb hg_ hnew_;clear hg_ hnew_;(first|rw[← Ny208.out] at ho11|(simp only[Int.reduceToNat] at ho11;rw[← Ny208.out] at ho11));have n0_:=am (Kd.S_lower ho11 (below_size (bS GE205.out)));have n1_:=am (bM BK205.out hb);have n2_:=am (below_step (bS GE205.out) hb);clear BK205 HB;have HO210:=n0_;have BK205:=n1_;have HB:=n2_;clear n0_ n1_ n2_;clear hb ho11;obtain⟨Ao12,co12,eo12⟩:=Kd.S_slice HO210.out;subst eo12;obtain⟨hcz13_0,hcz13_1,hcz13_2⟩:=cC3 BK205.out;obtain⟨hfz13_0,hfz13_1,hfz13_2⟩:=cF3 BK205.out))
     refine bodyPost_ret (results_ct rfl _ _ gb205 25 #[.int .i64 a0,.slice Ao12 y208.length co12,.int .i64 0] (0,0) _ rfl (by(with_reducible repeat (first|refine blk_drewN ?_ _|refine blk_drew ?_|refine blk_alloc ?_ _));apply bU3;(with_reducible repeat (first|refine blk_drewN ?_ _|refine blk_drew ?_|refine blk_alloc ?_ _));exact BK205.out) Try.underlying25 rfl (by kernel_rfl)) rfl ?_
     exact⟨_,by first|rfl|(simp[errW_none,errW_some]<;>rfl)|(simp[*,errW_none,errW_some]<;>rfl),by(with_reducible repeat (first|apply Kd.S_alloc|apply Kd.S_drewN|apply Kd.S_drew));exact Kd.S_mono (Kd.S_far (p:=⟨gb205,2,none⟩) (Kd.S_far (p:=⟨gb205,1,none⟩) (Kd.S_far (p:=⟨gb205,0,none⟩) (Kd.S_types HO210.out BK205.out (by decide)) (fun _ hk=>hk.2) (.int .i64 a0)) (fun _ hk=>hk.2) (.slice Ao12 y208.length co12)) (fun _ hk=>hk.2) (.int .i64 0)) (fun _ hk=>trivial),bS GE205.out⟩
    ·rw[if_neg c8] at H
     exact absurd H (by simp)
   ·rw[if_neg c7] at H
    exact absurd H (by simp)
  ·replace c6:=Bool.eq_false_iff.mpr c6
   subst c6
   have H1:(some (0,([]:List (S34)),0,false))=some (r1,r2,r3,r4):=by rw[if_neg (show ¬ (false=true) by decide)] at H;exact H
   clear H
   have H:=H1
   clear H1
   simp only[Option.some.injEq,Prod.mk.injEq] at H
   obtain⟨rfl,rfl,rfl,rfl⟩:=H
   go_enter Try.func35,Try.ntmps35
   go_wp2_with (first|((with_reducible refine gate_dst (N:=4) rfl ?_);refine box_event ?hg (N:=4) ?hd (cs:=#[.int .i64 0,.slice none 0 0,.int .i64 0]) (t:=25) ?hr ?_;(case hd=>rfl);(case hg=>rfl);(case hr=>first|(go_simp;done)|(go_simp;rfl));intro gb205 hg w14 hbox hb;have n0_:=am (below_step (bB) hb);have n1_:=am (hbox);have n2_:=am ((bG:w.heap.size≤gb205));have n3_:=am ((bG:w.heap.size≤gb205));clear HB;have HB:=n0_;have BK205:=n1_;have GW205:=n2_;have GE205:=n3_;clear n0_ n1_ n2_ n3_;clear hb hbox hg)|((with_reducible refine gate_callee (f:=27) rfl ?_);refine goesA (some 7) rfl rfl Try.func27 #[.int .i64 a0,.int .i64 1,.int .i64 50] rfl ?_;(with_reducible refine(spec_l1In.calls a0 1 50 true _ A3.out).mono ?_);rintro e w' ⟨rfl,⟨nd,rfl⟩⟩;refine⟨_,rfl,?_⟩;(try (rw[drewN_self w14];generalize hq_:World.drewN w14 _=w14;have n0_:Aside0 (w14.heap[gb205]?=some (.cells #[.int .i64 0,.slice none 0 0,.int .i64 0] 25 (0,0))):=⟨by rw[← hq_];exact(bL BK205.out)⟩;have n1_:Aside0 (Below w.heap.size w w14):=⟨by rw[← hq_];exact(bS GE205.out)⟩;clear BK205 HB hq_;have BK205:=n0_;have HB:=n1_;clear n0_ n1_)))|(go_at_call 27;(with_reducible refine(spec_l1In.calls a1 1 6 false _ A5.out).mono ?_);rintro e w' ⟨rfl,⟨nd,rfl⟩⟩;(try (rw[drewN_self w14];generalize hq_:World.drewN w14 _=w14;have n0_:Aside0 (w14.heap[gb205]?=some (.cells #[.int .i64 0,.slice none 0 0,.int .i64 0] 25 (0,0))):=⟨by rw[← hq_];exact(bL BK205.out)⟩;have n1_:Aside0 (Below w.heap.size w w14):=⟨by rw[← hq_];exact(bS GE205.out)⟩;clear BK205 HB hq_;have BK205:=n0_;have HB:=n1_;clear n0_ n1_));obtain⟨hcy205_0,hcy205_1,hcy205_2⟩:=cC3 BK205.out;obtain⟨hcz15_0,hcz15_1,hcz15_2⟩:=cC3 BK205.out;obtain⟨hfz15_0,hfz15_1,hfz15_2⟩:=cF3 BK205.out))
   refine bodyPost_ret (results_ct rfl _ _ gb205 25 #[.int .i64 0,.slice none 0 0,.int .i64 0] (0,0) _ rfl (by(with_reducible repeat (first|refine blk_drewN ?_ _|refine blk_drew ?_|refine blk_alloc ?_ _));apply bU3;(with_reducible repeat (first|refine blk_drewN ?_ _|refine blk_drew ?_|refine blk_alloc ?_ _));exact BK205.out) Try.underlying25 rfl (by kernel_rfl)) rfl ?_
   exact⟨_,by first|rfl|(simp[errW_none,errW_some]<;>rfl)|(simp[*,errW_none,errW_some]<;>rfl),by first|exact Kd.S_nil _ _ _ _ _|exact Kd.N_nil _ _ _ _ _|exact Kd.V_nil _ _ _ _ _|exact Kd.Q_nil _ _ _ _ _|exact Kd.R_nil _ _ _ _ _,bS GE205.out⟩
 ·replace c4:=Bool.eq_false_iff.mpr c4
  subst c4
  have H1:(some (0,([]:List (S34)),0,false))=some (r1,r2,r3,r4):=by rw[if_neg (show ¬ (false=true) by decide)] at H;exact H
  clear H
  have H:=H1
  clear H1
  simp only[Option.some.injEq,Prod.mk.injEq] at H
  obtain⟨rfl,rfl,rfl,rfl⟩:=H
  go_enter Try.func35,Try.ntmps35
  go_wp2_with (first|((with_reducible refine gate_dst (N:=4) rfl ?_);refine box_event ?hg (N:=4) ?hd (cs:=#[.int .i64 0,.slice none 0 0,.int .i64 0]) (t:=25) ?hr ?_;(case hd=>rfl);(case hg=>rfl);(case hr=>first|(go_simp;done)|(go_simp;rfl));intro gb205 hg w16 hbox hb;have n0_:=am (below_step (bB) hb);have n1_:=am (hbox);have n2_:=am ((bG:w.heap.size≤gb205));have n3_:=am ((bG:w.heap.size≤gb205));clear HB;have HB:=n0_;have BK205:=n1_;have GW205:=n2_;have GE205:=n3_;clear n0_ n1_ n2_ n3_;clear hb hbox hg)|((with_reducible refine gate_callee (f:=27) rfl ?_);refine goesA (some 7) rfl rfl Try.func27 #[.int .i64 a0,.int .i64 1,.int .i64 50] rfl ?_;(with_reducible refine(spec_l1In.calls a0 1 50 false _ A3.out).mono ?_);rintro e w' ⟨rfl,⟨nd,rfl⟩⟩;refine⟨_,rfl,?_⟩;(try (rw[drewN_self w16];generalize hq_:World.drewN w16 _=w16;have n0_:Aside0 (w16.heap[gb205]?=some (.cells #[.int .i64 0,.slice none 0 0,.int .i64 0] 25 (0,0))):=⟨by rw[← hq_];exact(bL BK205.out)⟩;have n1_:Aside0 (Below w.heap.size w w16):=⟨by rw[← hq_];exact(bS GE205.out)⟩;clear BK205 HB hq_;have BK205:=n0_;have HB:=n1_;clear n0_ n1_));obtain⟨hcy205_0,hcy205_1,hcy205_2⟩:=cC3 BK205.out;obtain⟨hcz17_0,hcz17_1,hcz17_2⟩:=cC3 BK205.out;obtain⟨hfz17_0,hfz17_1,hfz17_2⟩:=cF3 BK205.out))
  refine bodyPost_ret (results_ct rfl _ _ gb205 25 #[.int .i64 0,.slice none 0 0,.int .i64 0] (0,0) _ rfl (by(with_reducible repeat (first|refine blk_drewN ?_ _|refine blk_drew ?_|refine blk_alloc ?_ _));apply bU3;(with_reducible repeat (first|refine blk_drewN ?_ _|refine blk_drew ?_|refine blk_alloc ?_ _));exact BK205.out) Try.underlying25 rfl (by kernel_rfl)) rfl ?_
  exact⟨_,by first|rfl|(simp[errW_none,errW_some]<;>rfl)|(simp[*,errW_none,errW_some]<;>rfl),by first|exact Kd.S_nil _ _ _ _ _|exact Kd.N_nil _ _ _ _ _|exact Kd.V_nil _ _ _ _ _|exact Kd.Q_nil _ _ _ _ _|exact Kd.R_nil _ _ _ _ _,bS GE205.out⟩

end Go.Proofs.Ythghcoepkknkeaa.XFnFair
