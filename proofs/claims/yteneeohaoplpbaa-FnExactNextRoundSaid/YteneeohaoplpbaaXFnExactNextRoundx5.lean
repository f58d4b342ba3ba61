-- Written by this session's own program (wip/xprint.py) out of the translation; Lean checks it.
import Derived.Test.YteneeohaoplpbaaXFnExactNextRoundx0
import Derived.Test.YteneeohaoplpbaaXFnExactNextRoundx3
import Derived.Test.YteneeohaoplpbaaXFnExactNextRoundx4
namespace Go.Proofs.Yteneeohaoplpbaa.XFnExactNextRound
open Go.RowKit Go.Proofs.YteneeohaoplpbaaW.PrintWords Go.Proofs.YteneeohaoplpbaaW.PrintLast Go.Proofs.YteneeohaoplpbaaW.PrintMore
attribute [local go_sem] max2_int min2_int max_two min_two max_three min_three max_four min_four   -- for this text's walks alone
set_option linter.unusedVariables false
set_option linter.unusedSimpArgs false

/-! ### spec_NextRound: function 49 -/
def spec_NextRound.f (k:Nat) (a0_0:Int) (l0_1:List (S116)) (a0_2:Int):Option (Int × (List (S116)) × Int × List Int × Bool):=(spec_GoodTurns.f k a0_0 l0_1 a0_2).bind fun t209=>(if t209=true then ((spec_l14Round.f k a0_0 l0_1 a0_2).bind fun bt210=>((spec_GoodTurns.f k bt210.1 bt210.2.1 bt210.2.2.1).bind fun t219=>(if t219=true then (some (bt210.1,bt210.2.1,bt210.2.2.1,bt210.2.2.2,true)) else (some (0,([]:List (S116)),0,([]:List Int),false))))) else (some (0,([]:List (S116)),0,([]:List Int),false)))
theorem spec_NextRound.mono : ∀ a0 a1 a2 k,LeO (spec_NextRound.f k a0 a1 a2) (spec_NextRound.f (k+1) a0 a1 a2):=by
 intro a0 a1 a2 k
 unfold spec_NextRound.f
 repeat' first
  | (with_reducible exact spec_GoodTurns.mono _ _ _ _)
  | (with_reducible exact spec_l14Round.mono _ _ _ _)
  | (with_reducible exact LeO.refl _)
  | (with_reducible exact LeO.none _)
  | (with_reducible refine LeO.ite ?_ ?_)
  | (with_reducible refine LeO.bind ?_ (fun _ => ?_))
  | exact spec_GoodTurns.mono _ _ _ _
  | exact spec_l14Round.mono _ _ _ _
  | exact LeO.none _
  | refine LeO.ite ?_ ?_
  | refine LeO.bind ?_ (fun _ => ?_)
set_option maxHeartbeats 8000000 in
set_option maxRecDepth 100000 in
theorem spec_NextRound.calls (k:Nat) (a0_0:Int) (A0_1:Option Addr) (c0_1:Nat) (l0_1:List (S116)) (a0_2:Int) (r1:Int) (r2:List (S116)) (r3:Int) (r4:List Int) (r5:Bool) (w:World) (hr0_1:Kd.C k116 w A0_1 l0_1.length l0_1) (hc0_1:l0_1.length≤c0_1) (h:spec_NextRound.f k a0_0 l0_1 a0_2=some (r1,r2,r3,r4,r5)) :
  Calls Try.prog 49 #[.agg #[.int .i64 a0_0,.slice A0_1 l0_1.length c0_1,.int .i64 a0_2]] w fun e w' => ∃ v1_ v3_:Value,e=.returned (.tuple #[.agg #[.int .i64 r1,v1_,.int .i64 r3],v3_,.bool r5])∧Kd.S k116 116 w' w.heap.size (fun k_=>some k_≠(v3_:Value).ownBlock) v1_ r2∧Kd.R (Kd.int .i64) 3 w' w.heap.size (fun _=>True) v3_ r4∧Below w.heap.size w w':=by
 have hu28:=Try.underlying28
 have HR0_1:=Aside0.mk hr0_1
 have HC0_1:=Aside0.mk hc0_1
 clear hr0_1 hc0_1
 have HB:=Aside0.mk (Below.refl w.heap.size w)
 have H:((spec_GoodTurns.f k a0_0 l0_1 a0_2).bind fun t209=>(if t209=true then ((spec_l14Round.f k a0_0 l0_1 a0_2).bind fun bt210=>((spec_GoodTurns.f k bt210.1 bt210.2.1 bt210.2.2.1).bind fun t219=>(if t219=true then (some (bt210.1,bt210.2.1,bt210.2.2.1,bt210.2.2.2,true)) else (some (0,([]:List (S116)),0,([]:List Int),false))))) else (some (0,([]:List (S116)),0,([]:List Int),false))))=some (r1,r2,r3,r4,r5):=h
 clear h
 replace H:=Option.bind_eq_some_iff.mp H
 obtain⟨t209,A20,H⟩:=H
 replace H:(if t209=true then ((spec_l14Round.f k a0_0 l0_1 a0_2).bind fun bt210=>((spec_GoodTurns.f k bt210.1 bt210.2.1 bt210.2.2.1).bind fun t219=>(if t219=true then (some (bt210.1,bt210.2.1,bt210.2.2.1,bt210.2.2.2,true)) else (some (0,([]:List (S116)),0,([]:List Int),false))))) else (some (0,([]:List (S116)),0,([]:List Int),false)))=some (r1,r2,r3,r4,r5):=H
 have A2:=Aside0.mk A20
 clear A20
 by_cases c3:t209=true
 ·subst c3
  have H1:((spec_l14Round.f k a0_0 l0_1 a0_2).bind fun bt210=>((spec_GoodTurns.f k bt210.1 bt210.2.1 bt210.2.2.1).bind fun t219=>(if t219=true then (some (bt210.1,bt210.2.1,bt210.2.2.1,bt210.2.2.2,true)) else (some (0,([]:List (S116)),0,([]:List Int),false)))))=some (r1,r2,r3,r4,r5):=by rw[if_pos rfl] at H;exact H
  clear H
  have H:=H1
  clear H1
  replace H:=Option.bind_eq_some_iff.mp H
  obtain⟨⟨t210,t211,t214,t215⟩,A40,H⟩:=H
  replace H:((spec_GoodTurns.f k t210 t211 t214).bind fun t219=>(if t219=true then (some (t210,t211,t214,t215,true)) else (some (0,([]:List (S116)),0,([]:List Int),false))))=some (r1,r2,r3,r4,r5):=H
  have A4:=Aside0.mk A40
  clear A40
  replace H:=Option.bind_eq_some_iff.mp H
  obtain⟨t219,A50,H⟩:=H
  replace H:(if t219=true then (some (t210,t211,t214,t215,true)) else (some (0,([]:List (S116)),0,([]:List Int),false)))=some (r1,r2,r3,r4,r5):=H
  have A5:=Aside0.mk A50
  clear A50
  by_cases c6:t219=true
  ·subst c6
   have H1:(some (t210,t211,t214,t215,true))=some (r1,r2,r3,r4,r5):=by rw[if_pos rfl] at H;exact H
   clear H
   have H:=H1
   clear H1
   simp only[Option.some.injEq,Prod.mk.injEq] at H
   obtain⟨rfl,rfl,rfl,rfl,rfl⟩:=H
   go_enter Try.func49,Try.ntmps49
   go_wp2_with (first|((with_reducible refine gate_dst (N:=1) rfl ?_);refine box_event ?hg (N:=1) ?hd (cs:=#[.int .i64 a0_0,.slice A0_1 l0_1.length c0_1,.int .i64 a0_2]) (t:=28) ?hr ?_;(case hd=>rfl);(case hg=>rfl);(case hr=>first|(go_simp;done)|(go_simp;rfl));intro gb207 hg w7 hbox hb;have n0_:=Aside0.mk (below_step (bB) hb);have n1_:=Aside0.mk (hbox);have n2_:=Aside0.mk ((bG:w.heap.size≤gb207));have n3_:=Aside0.mk ((bG:w.heap.size≤gb207));clear HB;have HB:=n0_;have BK207:=n1_;have GW207:=n2_;have GE207:=n3_;clear n0_ n1_ n2_ n3_;clear hb hbox hg)|((with_reducible refine gate_dst (N:=2) rfl ?_);refine box_event ?hg (N:=2) ?hd (cs:=#[.int .i64 0,.slice none 0 0,.int .i64 0]) (t:=28) ?hr ?_;(case hd=>rfl);(case hg=>rfl);(case hr=>first|(go_simp;done)|(go_simp;rfl));intro gb208 hg w8 hbox hb;have n0_:=Aside0.mk (bM BK207.out hb);have n1_:=Aside0.mk (below_step (bS GE207.out) hb);have n2_:=Aside0.mk (hbox);have n3_:=Aside0.mk ((by rw[hg];exact(below_size (bS GE207.out)):w.heap.size≤gb208));have n4_:=Aside0.mk ((by rw[hg];exact(below_size (bS GE207.out)):w.heap.size≤gb208));have n5_:=Aside0.mk ((bN BK207.out hg:gb207≠gb208));have n6_:=Aside0.mk ((bO BK207.out hg:gb208≠gb207));clear BK207 HB;have BK207:=n0_;have HB:=n1_;have BK208:=n2_;have GW208:=n3_;have GE208:=n4_;have NB207_208:=n5_;have NB208_207:=n6_;clear n0_ n1_ n2_ n3_ n4_ n5_ n6_;clear hb hbox hg;have hnb9:=NB207_208.out;have hnc9:=NB208_207.out;obtain⟨hcz10_0,hcz10_1,hcz10_2⟩:=cC3 BK207.out;obtain⟨hfz10_0,hfz10_1,hfz10_2⟩:=cF3 BK207.out)|((with_reducible refine gate_callee (f:=74) rfl ?_);refine goesA (some 8) rfl rfl Try.func74 #[.agg #[.int .i64 a0_0,.slice A0_1 l0_1.length c0_1,.int .i64 a0_2]] rfl ?_;(with_reducible refine(spec_GoodTurns.calls k a0_0 _ _ l0_1 a0_2 true _ ?side1 ?side2 A2.out).mono ?_);(case side1=>exact bC HR0_1.out);(case side2=>exact HC0_1.out);rintro e w11 ⟨rfl,hb⟩;refine⟨_,rfl,?_⟩;have n0_:=Aside0.mk (bM BK207.out hb);have n1_:=Aside0.mk (bM BK208.out hb);have n2_:=Aside0.mk (below_step (bS2 GE207.out GE208.out) hb);clear BK207 BK208 HB;have BK207:=n0_;have BK208:=n1_;have HB:=n2_;clear n0_ n1_ n2_;(try clear hb);(try clear hb2);(try clear hk);(try clear hi);obtain⟨hcz12_0,hcz12_1,hcz12_2⟩:=cC3 BK207.out;obtain⟨hfz12_0,hfz12_1,hfz12_2⟩:=cF3 BK207.out)|((with_reducible refine gate_callee (f:=117) rfl ?_);refine goesA (some 13) rfl rfl Try.func117 #[.agg #[.int .i64 a0_0,.slice A0_1 l0_1.length c0_1,.int .i64 a0_2]] rfl ?_;(with_reducible refine(spec_l14Round.calls k a0_0 _ _ l0_1 a0_2 t210 t211 t214 t215 _ ?side1 ?side2 A4.out).mono ?_);(case side1=>exact bC HR0_1.out);(case side2=>exact HC0_1.out);rintro e w13 ⟨v212,v216,rfl,ho0,ho1,hb⟩;refine⟨_,rfl,?_⟩;have n0_:=Aside0.mk (Kd.S_lower ho0 (below_size (bS2 GE207.out GE208.out)));have n1_:=Aside0.mk (Kd.R_lower ho1 (below_size (bS2 GE207.out GE208.out)));have n2_:=Aside0.mk (bM BK207.out hb);have n3_:=Aside0.mk (bM BK208.out hb);have n4_:=Aside0.mk (below_step (bS2 GE207.out GE208.out) hb);clear BK207 BK208 HB;have HO213:=n0_;have HO217:=n1_;have BK207:=n2_;have BK208:=n3_;have HB:=n4_;clear n0_ n1_ n2_ n3_ n4_;(try clear hb);(try clear hb2);(try clear hk);(try clear hi);(try clear ho0);(try clear ho1))|((with_reducible refine gate_dst (N:=5) rfl ?_);refine box_event ?hg (N:=5) ?hd (cs:=#[.int .i64 0,.slice none 0 0,.int .i64 0]) (t:=28) ?hr ?_;(case hd=>rfl);(case hg=>rfl);(case hr=>first|(go_simp;done)|(go_simp;rfl));intro gb218 hg w14 hbox hb;have n0_:=Aside0.mk (Kd.S_below (by(with_reducible repeat (first|apply Kd.S_alloc|apply Kd.S_drewN|apply Kd.S_drew));exact HO213.out) hb);have n1_:=Aside0.mk (Kd.R_below (bK HO217.out) hb);have n2_:=Aside0.mk (bM BK207.out hb);have n3_:=Aside0.mk (bM BK208.out hb);have n4_:=Aside0.mk (below_step (bS2 GE207.out GE208.out) hb);have n5_:=Aside0.mk (hbox);have n6_:=Aside0.mk ((by rw[hg];exact(below_size (bS2 GE207.out GE208.out)):w.heap.size≤gb218));have n7_:=Aside0.mk ((by rw[hg];exact(below_size (bS2 GE207.out GE208.out)):w.heap.size≤gb218));have n8_:=Aside0.mk ((bN BK207.out hg:gb207≠gb218));have n9_:=Aside0.mk ((bO BK207.out hg:gb218≠gb207));have n10_:=Aside0.mk ((bN BK208.out hg:gb208≠gb218));have n11_:=Aside0.mk ((bO BK208.out hg:gb218≠gb208));clear HO213 HO217 BK207 BK208 HB;have HO213:=n0_;have HO217:=n1_;have BK207:=n2_;have BK208:=n3_;have HB:=n4_;have BK218:=n5_;have GW218:=n6_;have GE218:=n7_;have NB207_218:=n8_;have NB218_207:=n9_;have NB208_218:=n10_;have NB218_208:=n11_;clear n0_ n1_ n2_ n3_ n4_ n5_ n6_ n7_ n8_ n9_ n10_ n11_;clear hb hbox hg;have hnb15:=NB218_207.out;have hnc15:=NB207_218.out;have hnb16:=NB218_208.out;have hnc16:=NB208_218.out;obtain⟨hcz17_0,hcz17_1,hcz17_2⟩:=cC3 BK218.out;obtain⟨hfz17_0,hfz17_1,hfz17_2⟩:=cF3 BK218.out;obtain⟨Ao18,co18,eo18⟩:=Kd.S_slice HO213.out;subst eo18)|((with_reducible refine gate_callee (f:=74) rfl ?_);refine goesA (some 17) rfl rfl Try.func74 #[.agg #[.int .i64 t210,.slice Ao18 t211.length co18,.int .i64 t214]] rfl ?_;(with_reducible refine(spec_GoodTurns.calls k t210 _ _ t211 t214 true _ ?side1 ?side2 A5.out).mono ?_);(case side1=>refine(Kd.S_reads' (e:=116) (base:=w.heap.size) (ok:=fun k_=>some k_≠(v216:Value).ownBlock) (n:=t211.length) (c:=co18) ?_).2.2;exact(by(with_reducible repeat (first|apply Kd.S_alloc|apply Kd.S_drewN|apply Kd.S_drew));exact(Kd.S_mono (Kd.S_far (p:=⟨gb218,2,none⟩) (Kd.S_far (p:=⟨gb218,1,none⟩) (Kd.S_far (p:=⟨gb218,0,none⟩) (Kd.S_types HO213.out BK218.out (by decide)) (fun _ hk=>hk.2) (.int .i64 t210)) (fun _ hk=>hk.2) (.slice Ao18 t211.length co18)) (fun _ hk=>hk.2) (.int .i64 t214)) (fun _ h_=>h_.1))));(case side2=>exact(Kd.S_reads' HO213.out).2.1);rintro e w19 ⟨rfl,hb⟩;refine⟨_,rfl,?_⟩;have n0_:=Aside0.mk (Kd.S_below (by(with_reducible repeat (first|apply Kd.S_alloc|apply Kd.S_drewN|apply Kd.S_drew));exact(Kd.S_mono (Kd.S_far (p:=⟨gb218,2,none⟩) (Kd.S_far (p:=⟨gb218,1,none⟩) (Kd.S_far (p:=⟨gb218,0,none⟩) (Kd.S_types HO213.out BK218.out (by decide)) (fun _ hk=>hk.2) (.int .i64 t210)) (fun _ hk=>hk.2) (.slice Ao18 t211.length co18)) (fun _ hk=>hk.2) (.int .i64 t214)) (fun _ h_=>h_.1))) hb);have n1_:=Aside0.mk (Kd.R_below (by(with_reducible repeat (first|apply Kd.R_alloc|apply Kd.R_drewN|apply Kd.R_drew));exact(Kd.R_mono (Kd.R_far (p:=⟨gb218,2,none⟩) (Kd.R_far (p:=⟨gb218,1,none⟩) (Kd.R_far (p:=⟨gb218,0,none⟩) (Kd.R_types HO217.out BK218.out (by decide)) (fun _ hk=>hk.2) (.int .i64 t210)) (fun _ hk=>hk.2) (.slice Ao18 t211.length co18)) (fun _ hk=>hk.2) (.int .i64 t214)) (fun _ h_=>h_.1))) hb);have n2_:=Aside0.mk (blk_below (g:=gb207) (o:=.cells #[.int .i64 a0_0,.slice A0_1 l0_1.length c0_1,.int .i64 a0_2] 28 (0,0)) (by(with_reducible repeat (first|refine blk_drewN ?_ _|refine blk_drew ?_|refine blk_alloc ?_ _));refine blk_far ?_ NB207_218.out _;(with_reducible repeat (first|refine blk_drewN ?_ _|refine blk_drew ?_|refine blk_alloc ?_ _));refine blk_far ?_ NB207_218.out _;(with_reducible repeat (first|refine blk_drewN ?_ _|refine blk_drew ?_|refine blk_alloc ?_ _));refine blk_far ?_ NB207_218.out _;(with_reducible repeat (first|refine blk_drewN ?_ _|refine blk_drew ?_|refine blk_alloc ?_ _));exact BK207.out) hb);have n3_:=Aside0.mk (blk_below (g:=gb208) (o:=.cells #[.int .i64 0,.slice none 0 0,.int .i64 0] 28 (0,0)) (by(with_reducible repeat (first|refine blk_drewN ?_ _|refine blk_drew ?_|refine blk_alloc ?_ _));refine blk_far ?_ NB208_218.out _;(with_reducible repeat (first|refine blk_drewN ?_ _|refine blk_drew ?_|refine blk_alloc ?_ _));refine blk_far ?_ NB208_218.out _;(with_reducible repeat (first|refine blk_drewN ?_ _|refine blk_drew ?_|refine blk_alloc ?_ _));refine blk_far ?_ NB208_218.out _;(with_reducible repeat (first|refine blk_drewN ?_ _|refine blk_drew ?_|refine blk_alloc ?_ _));exact BK208.out) hb);have n4_:=Aside0.mk (blk_below (g:=gb218) (o:=.cells #[.int .i64 t210,.slice Ao18 t211.length co18,.int .i64 t214] 28 (0,0)) (by(with_reducible repeat (first|refine blk_drewN ?_ _|refine blk_drew ?_|refine blk_alloc ?_ _));refine blk_put (cs:=#[.int .i64 t210,.slice Ao18 t211.length co18,.int .i64 0]) ?_ 2 _ rfl;(with_reducible repeat (first|refine blk_drewN ?_ _|refine blk_drew ?_|refine blk_alloc ?_ _));refine blk_put (cs:=#[.int .i64 t210,.slice none 0 0,.int .i64 0]) ?_ 1 _ rfl;(with_reducible repeat (first|refine blk_drewN ?_ _|refine blk_drew ?_|refine blk_alloc ?_ _));refine blk_put (cs:=#[.int .i64 0,.slice none 0 0,.int .i64 0]) ?_ 0 _ rfl;(with_reducible repeat (first|refine blk_drewN ?_ _|refine blk_drew ?_|refine blk_alloc ?_ _));exact BK218.out) hb);have n5_:=Aside0.mk (below_step (bS3 GE207.out GE208.out GE218.out) hb);clear HO213 HO217 BK207 BK208 BK218 HB;have HO213:=n0_;have HO217:=n1_;have BK207:=n2_;have BK208:=n3_;have BK218:=n4_;have HB:=n5_;clear n0_ n1_ n2_ n3_ n4_ n5_;(try clear hb);(try clear hb2);(try clear hk);(try clear hi);obtain⟨hcz20_0,hcz20_1,hcz20_2⟩:=cC3 BK218.out;obtain⟨hfz20_0,hfz20_1,hfz20_2⟩:=cF3 BK218.out;obtain⟨hcz21_0,hcz21_1,hcz21_2⟩:=cC3 BK208.out;obtain⟨hfz21_0,hfz21_1,hfz21_2⟩:=cF3 BK208.out))
   refine bodyPost_ret (results_ctt rfl _ _ gb208 28 #[.int .i64 t210,.slice Ao18 t211.length co18,.int .i64 t214] (0,0) _ rfl (by(with_reducible repeat (first|refine blk_drewN ?_ _|refine blk_drew ?_|refine blk_alloc ?_ _));refine blk_put (cs:=#[.int .i64 t210,.slice Ao18 t211.length co18,.int .i64 0]) ?_ 2 _ rfl;(with_reducible repeat (first|refine blk_drewN ?_ _|refine blk_drew ?_|refine blk_alloc ?_ _));refine blk_put (cs:=#[.int .i64 t210,.slice none 0 0,.int .i64 0]) ?_ 1 _ rfl;(with_reducible repeat (first|refine blk_drewN ?_ _|refine blk_drew ?_|refine blk_alloc ?_ _));refine blk_put (cs:=#[.int .i64 0,.slice none 0 0,.int .i64 0]) ?_ 0 _ rfl;(with_reducible repeat (first|refine blk_drewN ?_ _|refine blk_drew ?_|refine blk_alloc ?_ _));exact BK208.out) Try.underlying28 rfl (by kernel_rfl)) rfl ?_
   exact⟨_,_,by first|rfl|(simp[errW_none,errW_some]<;>rfl)|(simp[*,errW_none,errW_some]<;>rfl),by(with_reducible repeat (first|apply Kd.S_alloc|apply Kd.S_drewN|apply Kd.S_drew));exact Kd.S_mono (Kd.S_far (p:=⟨gb208,2,none⟩) (Kd.S_far (p:=⟨gb208,1,none⟩) (Kd.S_far (p:=⟨gb208,0,none⟩) (Kd.S_types HO213.out BK208.out (by decide)) (fun _ hk=>hk.2) (.int .i64 t210)) (fun _ hk=>hk.2) (.slice Ao18 t211.length co18)) (fun _ hk=>hk.2) (.int .i64 t214)) (fun _ hk=>hk.1),by(with_reducible repeat (first|apply Kd.R_alloc|apply Kd.R_drewN|apply Kd.R_drew));exact Kd.R_mono (Kd.R_far (p:=⟨gb208,2,none⟩) (Kd.R_far (p:=⟨gb208,1,none⟩) (Kd.R_far (p:=⟨gb208,0,none⟩) (Kd.R_types HO217.out BK208.out (by decide)) (fun _ hk=>hk.2) (.int .i64 t210)) (fun _ hk=>hk.2) (.slice Ao18 t211.length co18)) (fun _ hk=>hk.2) (.int .i64 t214)) (fun _ hk=>trivial),bS3 GE207.out GE208.out GE218.out⟩
  ·replace c6:=Bool.eq_false_iff.mpr c6
   subst c6
   have H1:(some (0,([]:List (S116)),0,([]:List Int),false))=some (r1,r2,r3,r4,r5):=by rw[if_neg (show ¬ (false=true) by decide)] at H;exact H
   clear H
   have H:=H1
   clear H1
   simp only[Option.some.injEq,Prod.mk.injEq] at H
   obtain⟨rfl,rfl,rfl,rfl,rfl⟩:=H
   go_enter Try.func49,Try.ntmps49
   go_wp2_with (first|((with_reducible refine gate_dst (N:=1) rfl ?_);refine box_event ?hg (N:=1) ?hd (cs:=#[.int .i64 a0_0,.slice A0_1 l0_1.length c0_1,.int .i64 a0_2]) (t:=28) ?hr ?_;(case hd=>rfl);(case hg=>rfl);(case hr=>first|(go_simp;done)|(go_simp;rfl));intro gb207 hg w22 hbox hb;have n0_:=Aside0.mk (below_step (bB) hb);have n1_:=Aside0.mk (hbox);have n2_:=Aside0.mk ((bG:w.heap.size≤gb207));have n3_:=Aside0.mk ((bG:w.heap.size≤gb207));clear HB;have HB:=n0_;have BK207:=n1_;have GW207:=n2_;have GE207:=n3_;clear n0_ n1_ n2_ n3_;clear hb hbox hg)|((with_reducible refine gate_dst (N:=2) rfl ?_);refine box_event ?hg (N:=2) ?hd (cs:=#[.int .i64 0,.slice none 0 0,.int .i64 0]) (t:=28) ?hr ?_;(case hd=>rfl);(case hg=>rfl);(case hr=>first|(go_simp;done)|(go_simp;rfl));intro gb208 hg w23 hbox hb;have n0_:=Aside0.mk (bM BK207.out hb);have n1_:=Aside0.mk (below_step (bS GE207.out) hb);have n2_:=Aside0.mk (hbox);have n3_:=Aside0.mk ((by rw[hg];exact(below_size (bS GE207.out)):w.heap.size≤gb208));have n4_:=Aside0.mk ((by rw[hg];exact(below_size (bS GE207.out)):w.heap.size≤gb208));have n5_:=Aside0.mk ((bN BK207.out hg:gb207≠gb208));have n6_:=Aside0.mk ((bO BK207.out hg:gb208≠gb207));clear BK207 HB;have BK207:=n0_;have HB:=n1_;have BK208:=n2_;have GW208:=n3_;have GE208:=n4_;have NB207_208:=n5_;have NB208_207:=n6_;clear n0_ n1_ n2_ n3_ n4_ n5_ n6_;clear hb hbox hg;have hnb24:=NB207_208.out;have hnc24:=NB208_207.out;obtain⟨hcz25_0,hcz25_1,hcz25_2⟩:=cC3 BK207.out;obtain⟨hfz25_0,hfz25_1,hfz25_2⟩:=cF3 BK207.out)|((with_reducible refine gate_callee (f:=74) rfl ?_);refine goesA (some 8) rfl rfl Try.func74 #[.agg #[.int .i64 a0_0,.slice A0_1 l0_1.length c0_1,.int .i64 a0_2]] rfl ?_;(with_reducible refine(spec_GoodTurns.calls k a0_0 _ _ l0_1 a0_2 true _ ?side1 ?side2 A2.out).mono ?_);(case side1=>exact bC HR0_1.out);(case side2=>exact HC0_1.out);rintro e w26 ⟨rfl,hb⟩;refine⟨_,rfl,?_⟩;have n0_:=Aside0.mk (bM BK207.out hb);have n1_:=Aside0.mk (bM BK208.out hb);have n2_:=Aside0.mk (below_step (bS2 GE207.out GE208.out) hb);clear BK207 BK208 HB;have BK207:=n0_;have BK208:=n1_;have HB:=n2_;clear n0_ n1_ n2_;(try clear hb);(try clear hb2);(try clear hk);(try clear hi);obtain⟨hcz27_0,hcz27_1,hcz27_2⟩:=cC3 BK207.out;obtain⟨hfz27_0,hfz27_1,hfz27_2⟩:=cF3 BK207.out)|((with_reducible refine gate_callee (f:=117) rfl ?_);refine goesA (some 13) rfl rfl Try.func117 #[.agg #[.int .i64 a0_0,.slice A0_1 l0_1.length c0_1,.int .i64 a0_2]] rfl ?_;(with_reducible refine(spec_l14Round.calls k a0_0 _ _ l0_1 a0_2 t210 t211 t214 t215 _ ?side1 ?side2 A4.out).mono ?_);(case side1=>exact bC HR0_1.out);(case side2=>exact HC0_1.out);rintro e w28 ⟨v212,v216,rfl,ho0,ho1,hb⟩;refine⟨_,rfl,?_⟩;have n0_:=Aside0.mk (Kd.S_lower ho0 (below_size (bS2 GE207.out GE208.out)));have n1_:=Aside0.mk (Kd.R_lower ho1 (below_size (bS2 GE207.out GE208.out)));have n2_:=Aside0.mk (bM BK207.out hb);have n3_:=Aside0.mk (bM BK208.out hb);have n4_:=Aside0.mk (below_step (bS2 GE207.out GE208.out) hb);clear BK207 BK208 HB;have HO213:=n0_;have HO217:=n1_;have BK207:=n2_;have BK208:=n3_;have HB:=n4_;clear n0_ n1_ n2_ n3_ n4_;(try clear hb);(try clear hb2);(try clear hk);(try clear hi);(try clear ho0);(try clear ho1))|((with_reducible refine gate_dst (N:=5) rfl ?_);refine box_event ?hg (N:=5) ?hd (cs:=#[.int .i64 0,.slice none 0 0,.int .i64 0]) (t:=28) ?hr ?_;(case hd=>rfl);(case hg=>rfl);(case hr=>first|(go_simp;done)|(go_simp;rfl));intro gb218 hg w29 hbox hb;have n0_:=Aside0.mk (Kd.S_below (by(with_reducible repeat (first|apply Kd.S_alloc|apply Kd.S_drewN|apply Kd.S_drew));exact HO213.out) hb);have n1_:=Aside0.mk (Kd.R_below (bK HO217.out) hb);have n2_:=Aside0.mk (bM BK207.out hb);have n3_:=Aside0.mk (bM BK208.out hb);have n4_:=Aside0.mk (below_step (bS2 GE207.out GE208.out) hb);have n5_:=Aside0.mk (hbox);have n6_:=Aside0.mk ((by rw[hg];exact(below_size (bS2 GE207.out GE208.out)):w.heap.size≤gb218));have n7_:=Aside0.mk ((by rw[hg];exact(below_size (bS2 GE207.out GE208.out)):w.heap.size≤gb218));have n8_:=Aside0.mk ((bN BK207.out hg:gb207≠gb218));have n9_:=Aside0.mk ((bO BK207.out hg:gb218≠gb207));have n10_:=Aside0.mk ((bN BK208.out hg:gb208≠gb218));have n11_:=Aside0.mk ((bO BK208.out hg:gb218≠gb208));clear HO213 HO217 BK207 BK208 HB;have HO213:=n0_;have HO217:=n1_;have BK207:=n2_;have BK208:=n3_;have HB:=n4_;have BK218:=n5_;have GW218:=n6_;have GE218:=n7_;have NB207_218:=n8_;have NB218_207:=n9_;have NB208_218:=n10_;have NB218_208:=n11_;clear n0_ n1_ n2_ n3_ n4_ n5_ n6_ n7_ n8_ n9_ n10_ n11_;clear hb hbox hg;have hnb30:=NB218_207.out;have hnc30:=NB207_218.out;have hnb31:=NB218_208.out;have hnc31:=NB208_218.out;obtain⟨hcz32_0,hcz32_1,hcz32_2⟩:=cC3 BK218.out;obtain⟨hfz32_0,hfz32_1,hfz32_2⟩:=cF3 BK218.out;obtain⟨Ao33,co33,eo33⟩:=Kd.S_slice HO213.out;subst eo33)|((with_reducible refine gate_callee (f:=74) rfl ?_);refine goesA (some 17) rfl rfl Try.func74 #[.agg #[.int .i64 t210,.slice Ao33 t211.length co33,.int .i64 t214]] rfl ?_;(with_reducible refine(spec_GoodTurns.calls k t210 _ _ t211 t214 false _ ?side1 ?side2 A5.out).mono ?_);(case side1=>refine(Kd.S_reads' (e:=116) (base:=w.heap.size) (ok:=fun k_=>some k_≠(v216:Value).ownBlock) (n:=t211.length) (c:=co33) ?_).2.2;exact(by(with_reducible repeat (first|apply Kd.S_alloc|apply Kd.S_drewN|apply Kd.S_drew));exact(Kd.S_mono (Kd.S_far (p:=⟨gb218,2,none⟩) (Kd.S_far (p:=⟨gb218,1,none⟩) (Kd.S_far (p:=⟨gb218,0,none⟩) (Kd.S_types HO213.out BK218.out (by decide)) (fun _ hk=>hk.2) (.int .i64 t210)) (fun _ hk=>hk.2) (.slice Ao33 t211.length co33)) (fun _ hk=>hk.2) (.int .i64 t214)) (fun _ h_=>h_.1))));(case side2=>exact(Kd.S_reads' HO213.out).2.1);rintro e w34 ⟨rfl,hb⟩;refine⟨_,rfl,?_⟩;have n0_:=Aside0.mk (Kd.S_below (by(with_reducible repeat (first|apply Kd.S_alloc|apply Kd.S_drewN|apply Kd.S_drew));exact(Kd.S_mono (Kd.S_far (p:=⟨gb218,2,none⟩) (Kd.S_far (p:=⟨gb218,1,none⟩) (Kd.S_far (p:=⟨gb218,0,none⟩) (Kd.S_types HO213.out BK218.out (by decide)) (fun _ hk=>hk.2) (.int .i64 t210)) (fun _ hk=>hk.2) (.slice Ao33 t211.length co33)) (fun _ hk=>hk.2) (.int .i64 t214)) (fun _ h_=>h_.1))) hb);have n1_:=Aside0.mk (Kd.R_below (by(with_reducible repeat (first|apply Kd.R_alloc|apply Kd.R_drewN|apply Kd.R_drew));exact(Kd.R_mono (Kd.R_far (p:=⟨gb218,2,none⟩) (Kd.R_far (p:=⟨gb218,1,none⟩) (Kd.R_far (p:=⟨gb218,0,none⟩) (Kd.R_types HO217.out BK218.out (by decide)) (fun _ hk=>hk.2) (.int .i64 t210)) (fun _ hk=>hk.2) (.slice Ao33 t211.length co33)) (fun _ hk=>hk.2) (.int .i64 t214)) (fun _ h_=>h_.1))) hb);have n2_:=Aside0.mk (blk_below (g:=gb207) (o:=.cells #[.int .i64 a0_0,.slice A0_1 l0_1.length c0_1,.int .i64 a0_2] 28 (0,0)) (by(with_reducible repeat (first|refine blk_drewN ?_ _|refine blk_drew ?_|refine blk_alloc ?_ _));refine blk_far ?_ NB207_218.out _;(with_reducible repeat (first|refine blk_drewN ?_ _|refine blk_drew ?_|refine blk_alloc ?_ _));refine blk_far ?_ NB207_218.out _;(with_reducible repeat (first|refine blk_drewN ?_ _|refine blk_drew ?_|refine blk_alloc ?_ _));refine blk_far ?_ NB207_218.out _;(with_reducible repeat (first|refine blk_drewN ?_ _|refine blk_drew ?_|refine blk_alloc ?_ _));exact BK207.out) hb);have n3_:=Aside0.mk (blk_below (g:=gb208) (o:=.cells #[.int .i64 0,.slice none 0 0,.int .i64 0] 28 (0,0)) (by(with_reducible repeat (first|refine blk_drewN ?_ _|refine blk_drew ?_|refine blk_alloc ?_ _));refine blk_far ?_ NB208_218.out _;(with_reducible repeat (first|refine blk_drewN ?_ _|refine blk_drew ?_|refine blk_alloc ?_ _));refine blk_far ?_ NB208_218.out _;(with_reducible repeat (first|refine blk_drewN ?_ _|refine blk_drew ?_|refine blk_alloc ?_ _));refine blk_far ?_ NB208_218.out _;(with_reducible repeat (first|refine blk_drewN ?_ _|refine blk_drew ?_|refine blk_alloc ?_ _));exact BK208.out) hb);have n4_:=Aside0.mk (blk_below (g:=gb218) (o:=.cells #[.int .i64 t210,.slice Ao33 t211.length co33,.int .i64 t214] 28 (0,0)) (by(with_reducible repeat (first|refine blk_drewN ?_ _|refine blk_drew ?_|refine blk_alloc ?_ _));refine blk_put (cs:=#[.int .i64 t210,.slice Ao33 t211.length co33,.int .i64 0]) ?_ 2 _ rfl;(with_reducible repeat (first|refine blk_drewN ?_ _|refine blk_drew ?_|refine blk_alloc ?_ _));refine blk_put (cs:=#[.int .i64 t210,.slice none 0 0,.int .i64 0]) ?_ 1 _ rfl;(with_reducible repeat (first|refine blk_drewN ?_ _|refine blk_drew ?_|refine blk_alloc ?_ _));refine blk_put (cs:=#[.int .i64 0,.slice none 0 0,.int .i64 0]) ?_ 0 _ rfl;(with_reducible repeat (first|refine blk_drewN ?_ _|refine blk_drew ?_|refine blk_alloc ?_ _));exact BK218.out) hb);have n5_:=Aside0.mk (below_step (bS3 GE207.out GE208.out GE218.out) hb);clear HO213 HO217 BK207 BK208 BK218 HB;have HO213:=n0_;have HO217:=n1_;have BK207:=n2_;have BK208:=n3_;have BK218:=n4_;have HB:=n5_;clear n0_ n1_ n2_ n3_ n4_ n5_;(try clear hb);(try clear hb2);(try clear hk);(try clear hi);obtain⟨hcz35_0,hcz35_1,hcz35_2⟩:=cC3 BK208.out;obtain⟨hfz35_0,hfz35_1,hfz35_2⟩:=cF3 BK208.out))
   refine bodyPost_ret (results_ctt rfl _ _ gb208 28 #[.int .i64 0,.slice none 0 0,.int .i64 0] (0,0) _ rfl (by(with_reducible repeat (first|refine blk_drewN ?_ _|refine blk_drew ?_|refine blk_alloc ?_ _));refine blk_put (cs:=#[.int .i64 0,.slice none 0 0,.int .i64 0]) ?_ 2 _ rfl;(with_reducible repeat (first|refine blk_drewN ?_ _|refine blk_drew ?_|refine blk_alloc ?_ _));refine blk_put (cs:=#[.int .i64 0,.slice none 0 0,.int .i64 0]) ?_ 1 _ rfl;(with_reducible repeat (first|refine blk_drewN ?_ _|refine blk_drew ?_|refine blk_alloc ?_ _));refine blk_put (cs:=#[.int .i64 0,.slice none 0 0,.int .i64 0]) ?_ 0 _ rfl;(with_reducible repeat (first|refine blk_drewN ?_ _|refine blk_drew ?_|refine blk_alloc ?_ _));exact BK208.out) Try.underlying28 rfl (by kernel_rfl)) rfl ?_
   exact⟨_,_,by first|rfl|(simp[errW_none,errW_some]<;>rfl)|(simp[*,errW_none,errW_some]<;>rfl),by first|exact Kd.S_nil _ _ _ _ _|exact Kd.N_nil _ _ _ _ _|exact Kd.V_nil _ _ _ _ _|exact Kd.Q_nil _ _ _ _ _|exact Kd.R_nil _ _ _ _ _,by first|exact Kd.R_nil _ _ _ _ _|exact Kd.N_nil _ _ _ _ _|exact Kd.V_nil _ _ _ _ _|exact Kd.Q_nil _ _ _ _ _|exact Kd.S_nil _ _ _ _ _,bS3 GE207.out GE208.out GE218.out⟩
 ·replace c3:=Bool.eq_false_iff.mpr c3
  subst c3
  have H1:(some (0,([]:List (S116)),0,([]:List Int),false))=some (r1,r2,r3,r4,r5):=by rw[if_neg (show ¬ (false=true) by decide)] at H;exact H
  clear H
  have H:=H1
  clear H1
  simp only[Option.some.injEq,Prod.mk.injEq] at H
  obtain⟨rfl,rfl,rfl,rfl,rfl⟩:=H
  go_enter Try.func49,Try.ntmps49
  go_wp2_with (first|((with_reducible refine gate_dst (N:=1) rfl ?_);refine box_event ?hg (N:=1) ?hd (cs:=#[.int .i64 a0_0,.slice A0_1 l0_1.length c0_1,.int .i64 a0_2]) (t:=28) ?hr ?_;(case hd=>rfl);(case hg=>rfl);(case hr=>first|(go_simp;done)|(go_simp;rfl));intro gb207 hg w36 hbox hb;have n0_:=Aside0.mk (below_step (bB) hb);have n1_:=Aside0.mk (hbox);have n2_:=Aside0.mk ((bG:w.heap.size≤gb207));have n3_:=Aside0.mk ((bG:w.heap.size≤gb207));clear HB;have HB:=n0_;have BK207:=n1_;have GW207:=n2_;have GE207:=n3_;clear n0_ n1_ n2_ n3_;clear hb hbox hg)|((with_reducible refine gate_dst (N:=2) rfl ?_);refine box_event ?hg (N:=2) ?hd (cs:=#[.int .i64 0,.slice none 0 0,.int .i64 0]) (t:=28) ?hr ?_;(case hd=>rfl);(case hg=>rfl);(case hr=>first|(go_simp;done)|(go_simp;rfl));intro gb208 hg w37 hbox hb;have n0_:=Aside0.mk (bM BK207.out hb);have n1_:=Aside0.mk (below_step (bS GE207.out) hb);have n2_:=Aside0.mk (hbox);have n3_:=Aside0.mk ((by rw[hg];exact(below_size (bS GE207.out)):w.heap.size≤gb208));have n4_:=Aside0.mk ((by rw[hg];exact(below_size (bS GE207.out)):w.heap.size≤gb208));have n5_:=Aside0.mk ((bN BK207.out hg:gb207≠gb208));have n6_:=Aside0.mk ((bO BK207.out hg:gb208≠gb207));clear BK207 HB;have BK207:=n0_;have HB:=n1_;have BK208:=n2_;have GW208:=n3_;have GE208:=n4_;have NB207_208:=n5_;have NB208_207:=n6_;clear n0_ n1_ n2_ n3_ n4_ n5_ n6_;clear hb hbox hg;have hnb38:=NB207_208.out;have hnc38:=NB208_207.out;obtain⟨hcz39_0,hcz39_1,hcz39_2⟩:=cC3 BK207.out;obtain⟨hfz39_0,hfz39_1,hfz39_2⟩:=cF3 BK207.out)|((with_reducible refine gate_callee (f:=74) rfl ?_);refine goesA (some 8) rfl rfl Try.func74 #[.agg #[.int .i64 a0_0,.slice A0_1 l0_1.length c0_1,.int .i64 a0_2]] rfl ?_;(with_reducible refine(spec_GoodTurns.calls k a0_0 _ _ l0_1 a0_2 false _ ?side1 ?side2 A2.out).mono ?_);(case side1=>exact bC HR0_1.out);(case side2=>exact HC0_1.out);rintro e w40 ⟨rfl,hb⟩;refine⟨_,rfl,?_⟩;have n0_:=Aside0.mk (bM BK207.out hb);have n1_:=Aside0.mk (bM BK208.out hb);have n2_:=Aside0.mk (below_step (bS2 GE207.out GE208.out) hb);clear BK207 BK208 HB;have BK207:=n0_;have BK208:=n1_;have HB:=n2_;clear n0_ n1_ n2_;(try clear hb);(try clear hb2);(try clear hk);(try clear hi);obtain⟨hcz41_0,hcz41_1,hcz41_2⟩:=cC3 BK208.out;obtain⟨hfz41_0,hfz41_1,hfz41_2⟩:=cF3 BK208.out))
  refine bodyPost_ret (results_ctt rfl _ _ gb208 28 #[.int .i64 0,.slice none 0 0,.int .i64 0] (0,0) _ rfl (by(with_reducible repeat (first|refine blk_drewN ?_ _|refine blk_drew ?_|refine blk_alloc ?_ _));refine blk_put (cs:=#[.int .i64 0,.slice none 0 0,.int .i64 0]) ?_ 2 _ rfl;(with_reducible repeat (first|refine blk_drewN ?_ _|refine blk_drew ?_|refine blk_alloc ?_ _));refine blk_put (cs:=#[.int .i64 0,.slice none 0 0,.int .i64 0]) ?_ 1 _ rfl;(with_reducible repeat (first|refine blk_drewN ?_ _|refine blk_drew ?_|refine blk_alloc ?_ _));refine blk_put (cs:=#[.int .i64 0,.slice none 0 0,.int .i64 0]) ?_ 0 _ rfl;(with_reducible repeat (first|refine blk_drewN ?_ _|refine blk_drew ?_|refine blk_alloc ?_ _));exact BK208.out) Try.underlying28 rfl (by kernel_rfl)) rfl ?_
  exact⟨_,_,by first|rfl|(simp[errW_none,errW_some]<;>rfl)|(simp[*,errW_none,errW_some]<;>rfl),by first|exact Kd.S_nil _ _ _ _ _|exact Kd.N_nil _ _ _ _ _|exact Kd.V_nil _ _ _ _ _|exact Kd.Q_nil _ _ _ _ _|exact Kd.R_nil _ _ _ _ _,by first|exact Kd.R_nil _ _ _ _ _|exact Kd.N_nil _ _ _ _ _|exact Kd.V_nil _ _ _ _ _|exact Kd.Q_nil _ _ _ _ _|exact Kd.S_nil _ _ _ _ _,bS2 GE207.out GE208.out⟩

/-! ### impl_within: function 79 -/
def impl_within.f (a0:Int) (a1:Int) (a2:Int):Option (Bool):=if a1≤a0 then (some (decide (a0≤a2))) else (some false)
set_option maxHeartbeats 8000000 in
set_option maxRecDepth 100000 in
theorem impl_within.calls (a0:Int) (a1:Int) (a2:Int) (r:Bool) (w:World) (h:impl_within.f a0 a1 a2=some r) :
  Calls Try.prog 79 #[.int .i64 a0,.int .i64 a1,.int .i64 a2] w fun e w'=>e=.returned (.bool r)∧Drawn0 w w':=by
 have H:(if a1≤a0 then (some (decide (a0≤a2))) else (some false))=some r:=h
 clear h
 by_cases c4:a1≤a0
 ·rw[if_pos c4] at H
  have c4b0:decide (a1≤a0)=true:=decide_eq_true c4
  clear c4
  obtain rfl:=Option.some.inj H
  go_enter Try.func79,Try.ntmps79
  go_wp2
  go_ret
  exact⟨bR,bW⟩
 ·rw[if_neg c4] at H
  have c4b0:decide (a1≤a0)=false:=decide_eq_false c4
  clear c4
  obtain rfl:=Option.some.inj H
  go_enter Try.func79,Try.ntmps79
  go_wp2
  go_ret
  exact⟨bR,bW⟩

-- NOT PRINTED: function 148 (slices_IndexFunc_int_int)

-- NOT PRINTED: function 113 (slices_ContainsFunc_int_int)

/-! ### impl_isTime: function 140 -/
def impl_isTime.f (a0:Int):Option (Bool):=(impl_within.f a0 0 1000000).bind fun t220=>(some t220)
set_option maxHeartbeats 8000000 in
set_option maxRecDepth 100000 in
theorem impl_isTime.calls (a0:Int) (r:Bool) (w:World) (h:impl_isTime.f a0=some r) :
  Calls Try.prog 140 #[.int .i64 a0] w fun e w'=>e=.returned (.bool r)∧Drawn0 w w':=by
 have H:((impl_within.f a0 0 1000000).bind fun t220=>(some t220))=some r:=h
 clear h
 replace H:=Option.bind_eq_some_iff.mp H
 obtain⟨t220,A20,H⟩:=H
 have A2:=Aside0.mk A20
 clear A20
 obtain rfl:=Option.some.inj H
 go_enter Try.func140,Try.ntmps140
 go_wp2_with (first|((with_reducible refine gate_callee (f:=79) rfl ?_);refine goesA (some 4) rfl rfl Try.func79 #[.int .i64 a0,.int .i64 0,.int .i64 1000000] rfl ?_;(with_reducible refine(impl_within.calls a0 0 1000000 t220 _ A2.out).mono ?_);rintro e w' ⟨rfl,⟨nd,rfl⟩⟩;refine⟨_,rfl,?_⟩))
 go_ret
 exact⟨bR,bW⟩

/-! ### impl_GoodTurns_lit1: function 141 -/
def impl_GoodTurns_lit1.f (a0:Int):Option (Bool):=(impl_within.f a0 1 50).bind fun t228=>(some (!t228))
set_option maxHeartbeats 8000000 in
set_option maxRecDepth 100000 in
theorem impl_GoodTurns_lit1.calls (a0:Int) (r:Bool) (w:World) (h:impl_GoodTurns_lit1.f a0=some r) :
  Calls Try.prog 141 #[.int .i64 a0] w fun e w'=>e=.returned (.bool r)∧Drawn0 w w':=by
 have H:((impl_within.f a0 1 50).bind fun t228=>(some (!t228)))=some r:=h
 clear h
 replace H:=Option.bind_eq_some_iff.mp H
 obtain⟨t228,A20,H⟩:=H
 have A2:=Aside0.mk A20
 clear A20
 obtain rfl:=Option.some.inj H
 go_enter Try.func141,Try.ntmps141
 go_wp2_with (first|((with_reducible refine gate_callee (f:=79) rfl ?_);refine goesA (some 4) rfl rfl Try.func79 #[.int .i64 a0,.int .i64 1,.int .i64 50] rfl ?_;(with_reducible refine(impl_within.calls a0 1 50 t228 _ A2.out).mono ?_);rintro e w' ⟨rfl,⟨nd,rfl⟩⟩;refine⟨_,rfl,?_⟩))
 go_ret
 exact⟨bR,bW⟩

/-! ### slices_IndexFunc_int_int_impl_GoodTurns_lit1: function 148 -/
def slices_IndexFunc_int_int_impl_GoodTurns_lit1.l0:Nat→List Int→Int→Int→Option (Int)
 | 0,_,_,_=>none
 | k+1,x0,x7,x8=>if x8 < x7 then (if 0≤x8 then (if x8 < (x0.length:Int) then ((impl_GoodTurns_lit1.f (rd x0 x8)).bind fun t230=>(if t230=true then (some x8) else (slices_IndexFunc_int_int_impl_GoodTurns_lit1.l0 k x0 x7 (wrap64 (x8+1))))) else (none)) else (none)) else (some (-1))
def slices_IndexFunc_int_int_impl_GoodTurns_lit1.f (k:Nat) (l0:List Int)  : Option (Int):=slices_IndexFunc_int_int_impl_GoodTurns_lit1.l0 k l0 (l0.length:Int) 0
theorem slices_IndexFunc_int_int_impl_GoodTurns_lit1.mono_l : ∀ k,(∀ y0 y1 y2,LeO (slices_IndexFunc_int_int_impl_GoodTurns_lit1.l0 k y0 y1 y2) (slices_IndexFunc_int_int_impl_GoodTurns_lit1.l0 (k+1) y0 y1 y2))
 | 0=>fun _ _ _ r h=>by simp[slices_IndexFunc_int_int_impl_GoodTurns_lit1.l0] at h
 | k+1=>by
  have ih0:=slices_IndexFunc_int_int_impl_GoodTurns_lit1.mono_l k
  ·intro y0 y1 y2
   unfold slices_IndexFunc_int_int_impl_GoodTurns_lit1.l0
   repeat' first
   | (with_reducible exact ih0 _ _ _)
   | (with_reducible exact LeO.refl _)
   | (with_reducible exact LeO.none _)
   | (with_reducible refine LeO.ite ?_ ?_)
   | (with_reducible refine LeO.bind ?_ (fun _ => ?_))
   | exact ih0 _ _ _
   | exact LeO.none _
   | refine LeO.ite ?_ ?_
   | refine LeO.bind ?_ (fun _ => ?_)
theorem slices_IndexFunc_int_int_impl_GoodTurns_lit1.mono : ∀ a0 k,LeO (slices_IndexFunc_int_int_impl_GoodTurns_lit1.f k a0) (slices_IndexFunc_int_int_impl_GoodTurns_lit1.f (k+1) a0):=by
 intro a0 k
 have ih0:=slices_IndexFunc_int_int_impl_GoodTurns_lit1.mono_l k
 unfold slices_IndexFunc_int_int_impl_GoodTurns_lit1.f
 repeat' first
  | (with_reducible exact ih0 _ _ _)
  | (with_reducible exact LeO.refl _)
  | (with_reducible exact LeO.none _)
  | (with_reducible refine LeO.ite ?_ ?_)
  | (with_reducible refine LeO.bind ?_ (fun _ => ?_))
  | exact ih0 _ _ _
  | exact LeO.none _
  | refine LeO.ite ?_ ?_
  | refine LeO.bind ?_ (fun _ => ?_)
set_option maxHeartbeats 8000000 in
set_option maxRecDepth 100000 in
theorem slices_IndexFunc_int_int_impl_GoodTurns_lit1.calls (k:Nat) (A0:Option Addr) (c0:Nat) (l0:List Int)  (r:Int) (w:World) (hr0:Kd.C (Kd.int .i64) w A0 l0.length l0) (hc0:l0.length≤c0) (h:slices_IndexFunc_int_int_impl_GoodTurns_lit1.f k l0=some r) :
  Calls Try.prog 148 #[.slice A0 l0.length c0,(.func (.func 141) #[] #[])] w fun e w'=>e=.returned (.int .i64 r)∧Drawn0 w w':=by
 have HR0:=Aside0.mk hr0
 have HC0:=Aside0.mk hc0
 clear hr0 hc0
 have H:(slices_IndexFunc_int_int_impl_GoodTurns_lit1.l0 k l0 (l0.length:Int) 0)=some r:=h
 clear h
 have H':=Aside0.mk H
 clear H
 go_enter Try.func148,Try.ntmps148
 go_wp2
 go_loopg [8] k (fun kq v8 w' => ∃ (x8_1:Int),v8=.int .i64 x8_1∧Aside0 (slices_IndexFunc_int_int_impl_GoodTurns_lit1.l0 kq l0 (l0.length:Int) x8_1=some r)∧Aside0 (kq≤k)∧Drawn0 w w')
 case atStart=>exact⟨(0),(bR),H',⟨Nat.le_refl _⟩,bW⟩
 case round =>
  clear H'
  try clear p2
  obtain⟨x8_1,rfl,HA,HK1,⟨m1,rfl⟩⟩:=hrel
  cases gk with
  | zero=>exact absurd HA.out (by simp[slices_IndexFunc_int_int_impl_GoodTurns_lit1.l0])
  | succ k1 =>
   have H:=HA.out
   clear HA
   simp only[slices_IndexFunc_int_int_impl_GoodTurns_lit1.l0] at H
   by_cases c3:x8_1 < (l0.length:Int)
   ·rw[if_pos c3] at H
    have c3b0:decide (x8_1 < (l0.length:Int))=true:=decide_eq_true c3
    clear c3
    by_cases c4:0≤x8_1
    ·rw[if_pos c4] at H
     have c4b0:decide (0≤x8_1)=true:=decide_eq_true c4
     clear c4
     by_cases c5:x8_1 < (l0.length:Int)
     ·rw[if_pos c5] at H
      have c5b0:decide (x8_1 < (l0.length:Int))=true:=decide_eq_true c5
      clear c5
      replace H:=Option.bind_eq_some_iff.mp H
      obtain⟨t230,A60,H⟩:=H
      have A6:=Aside0.mk A60
      clear A60
      by_cases c7:t230=true
      ·subst c7
       have H1:(some x8_1)=some r:=by rw[if_pos rfl] at H;exact H
       clear H
       have H:=H1
       clear H1
       obtain rfl:=Option.some.inj H
       have p229:0≤(x8_1:Int):=of_decide_eq_true (bD)
       have q229:x8_1 < (l0.length:Int):=of_decide_eq_true (bD)
       obtain⟨ad229,e229,hx229_0⟩:=Kd.at_int HR0.out x8_1 p229 q229
       cases e229
       replace p229:=eq_true p229
       replace q229:=eq_true q229
       go_wp2_with (first|(go_at_call 141;(with_reducible refine(impl_GoodTurns_lit1.calls (rd l0 x8_1) true _ A6.out).mono ?_);rintro e w' ⟨rfl,⟨nd,rfl⟩⟩))
       go_ret
       exact⟨bR,bW⟩
      ·replace c7:=Bool.eq_false_iff.mpr c7
       subst c7
       have H1:(slices_IndexFunc_int_int_impl_GoodTurns_lit1.l0 k1 l0 (l0.length:Int) (wrap64 (x8_1+1)))=some r:=by rw[if_neg (show ¬ (false=true) by decide)] at H;exact H
       clear H
       have H:=H1
       clear H1
       have H':=Aside0.mk H
       clear H
       have p229:0≤(x8_1:Int):=of_decide_eq_true (bD)
       have q229:x8_1 < (l0.length:Int):=of_decide_eq_true (bD)
       obtain⟨ad229,e229,hx229_0⟩:=Kd.at_int HR0.out x8_1 p229 q229
       cases e229
       replace p229:=eq_true p229
       replace q229:=eq_true q229
       go_wp2_with (first|(go_at_call 141;(with_reducible refine(impl_GoodTurns_lit1.calls (rd l0 x8_1) false _ A6.out).mono ?_);rintro e w' ⟨rfl,⟨nd,rfl⟩⟩))
       go_roundg k1
       case measure=>have:=HK1.out;omega
       case rel=>exact⟨(wrap64 (x8_1+1)),(bR),H',⟨by have:=HK1.out;omega⟩,bW⟩
     ·rw[if_neg c5] at H
      exact absurd H (by simp)
    ·rw[if_neg c4] at H
     exact absurd H (by simp)
   ·rw[if_neg c3] at H
    have c3b0:decide (x8_1 < (l0.length:Int))=false:=decide_eq_false c3
    clear c3
    obtain rfl:=Option.some.inj H
    go_wp2
    go_ret
    exact⟨bR,bW⟩

/-! ### slices_ContainsFunc_int_int_impl_GoodTurns_lit1: function 113 -/
def slices_ContainsFunc_int_int_impl_GoodTurns_lit1.f (k:Nat) (l0:List Int)  : Option (Bool):=(slices_IndexFunc_int_int_impl_GoodTurns_lit1.f k l0).bind fun t231=>(some (decide (t231 ≥ 0)))
theorem slices_ContainsFunc_int_int_impl_GoodTurns_lit1.mono : ∀ a0 k,LeO (slices_ContainsFunc_int_int_impl_GoodTurns_lit1.f k a0) (slices_ContainsFunc_int_int_impl_GoodTurns_lit1.f (k+1) a0):=by
 intro a0 k
 unfold slices_ContainsFunc_int_int_impl_GoodTurns_lit1.f
 repeat' first
  | (with_reducible exact slices_IndexFunc_int_int_impl_GoodTurns_lit1.mono _ _)
  | (with_reducible exact LeO.refl _)
  | (with_reducible exact LeO.none _)
  | (with_reducible refine LeO.ite ?_ ?_)
  | (with_reducible refine LeO.bind ?_ (fun _ => ?_))
  | exact slices_IndexFunc_int_int_impl_GoodTurns_lit1.mono _ _
  | exact LeO.none _
  | refine LeO.ite ?_ ?_
  | refine LeO.bind ?_ (fun _ => ?_)
set_option maxHeartbeats 8000000 in
set_option maxRecDepth 100000 in
theorem slices_ContainsFunc_int_int_impl_GoodTurns_lit1.calls (k:Nat) (A0:Option Addr) (c0:Nat) (l0:List Int)  (r:Bool) (w:World) (hr0:Kd.C (Kd.int .i64) w A0 l0.length l0) (hc0:l0.length≤c0) (h:slices_ContainsFunc_int_int_impl_GoodTurns_lit1.f k l0=some r) :
  Calls Try.prog 113 #[.slice A0 l0.length c0,(.func (.func 141) #[] #[])] w fun e w'=>e=.returned (.bool r)∧Drawn0 w w':=by
 have HR0:=Aside0.mk hr0
 have HC0:=Aside0.mk hc0
 clear hr0 hc0
 have H:((slices_IndexFunc_int_int_impl_GoodTurns_lit1.f k l0).bind fun t231=>(some (decide (t231 ≥ 0))))=some r:=h
 clear h
 replace H:=Option.bind_eq_some_iff.mp H
 obtain⟨t231,A30,H⟩:=H
 have A3:=Aside0.mk A30
 clear A30
 obtain rfl:=Option.some.inj H
 go_enter Try.func113,Try.ntmps113
 go_wp2_with (first|((with_reducible refine gate_callee (f:=148) rfl ?_);refine goesA (some 7) rfl rfl Try.func148 #[.slice A0 l0.length c0,(.func (.func 141) #[] #[])] rfl ?_;(with_reducible refine(slices_IndexFunc_int_int_impl_GoodTurns_lit1.calls k _ _ l0  t231 _ ?side1 ?side2 A3.out).mono ?_);(case side1=>repeat (first|exact HR0.out|(with_reducible refine Kd.C_alloc ?_ _)|(with_reducible refine Kd.C_drewN ?_ _)|(with_reducible refine Kd.C_drew ?_)));(case side2=>exact HC0.out);rintro e w' ⟨rfl,⟨nd,rfl⟩⟩;refine⟨_,rfl,?_⟩))
 go_ret
 exact⟨bR,bW⟩

/-! ### impl_GoodTurns: function 78 -/
mutual
def impl_GoodTurns.j0:Nat→Bool→Int→List (S116)→Int→Option (Bool)
 | 0,_,_,_,_=>none
 | k+1,x21,x233000,x233001,x233002=>if x21=true then (some false) else (impl_GoodTurns.l0 k x233001 (x233001.length:Int) 0)
def impl_GoodTurns.l0:Nat→List (S116)→Int→Int→Option (Bool)
 | 0,_,_,_=>none
 | k+1,x23,x24,x25=>if x25 < x24 then (if 0≤x25 then (if x25 < (x23.length:Int) then (if (((rd_T116 x23 x25).f0).length:Int) > 40 then (some false) else ((slices_ContainsFunc_int_int_impl_GoodTurns_lit1.f k ((rd_T116 x23 x25).f0)).bind fun t238=>(if t238=true then (some false) else ((impl_within.f ((rd_T116 x23 x25).f1) 0 100).bind fun t239=>(if t239=true then ((impl_isTime.f ((rd_T116 x23 x25).f2)).bind fun t240=>(if t240=true then (if (((rd_T116 x23 x25).f0).length:Int)=0 then (if ((rd_T116 x23 x25).f1)=0 then (impl_GoodTurns.l0 k x23 x24 (wrap64 (x25+1))) else (some false)) else (impl_GoodTurns.l0 k x23 x24 (wrap64 (x25+1)))) else (some false))) else (some false)))))) else (none)) else (none)) else (some true)
end
def impl_GoodTurns.f (k:Nat) (a0_0:Int) (l0_1:List (S116)) (a0_2:Int):Option (Bool):=(impl_within.f a0_0 1 50).bind fun t233=>(if t233=true then ((impl_within.f (l0_1.length:Int) 1 6).bind fun t234=>(if t234=true then ((impl_isTime.f a0_2).bind fun t235=>(impl_GoodTurns.j0 k (!t235) a0_0 l0_1 a0_2)) else (impl_GoodTurns.j0 k true a0_0 l0_1 a0_2))) else (impl_GoodTurns.j0 k true a0_0 l0_1 a0_2))
theorem impl_GoodTurns.mono_l : ∀ k,(∀ y0 y1 y2 y3,LeO (impl_GoodTurns.j0 k y0 y1 y2 y3) (impl_GoodTurns.j0 (k+1) y0 y1 y2 y3))∧(∀ y0 y1 y2,LeO (impl_GoodTurns.l0 k y0 y1 y2) (impl_GoodTurns.l0 (k+1) y0 y1 y2))
 | 0=>⟨fun _ _ _ _ r h=>by simp[impl_GoodTurns.j0] at h,fun _ _ _ r h=>by simp[impl_GoodTurns.l0] at h⟩
 | k+1=>by
  obtain⟨ih0,ih1⟩:=impl_GoodTurns.mono_l k
  refine⟨?_,?_⟩
  ·intro y0 y1 y2 y3
   unfold impl_GoodTurns.j0
   repeat' first
   | (with_reducible exact ih0 _ _ _ _)
   | (with_reducible exact ih1 _ _ _)
   | (with_reducible exact slices_ContainsFunc_int_int_impl_GoodTurns_lit1.mono _ _)
   | (with_reducible exact LeO.refl _)
   | (with_reducible exact LeO.none _)
   | (with_reducible refine LeO.ite ?_ ?_)
   | (with_reducible refine LeO.bind ?_ (fun _ => ?_))
   | exact ih0 _ _ _ _
   | exact ih1 _ _ _
   | exact slices_ContainsFunc_int_int_impl_GoodTurns_lit1.mono _ _
   | exact LeO.none _
   | refine LeO.ite ?_ ?_
   | refine LeO.bind ?_ (fun _ => ?_)
  ·intro y0 y1 y2
   unfold impl_GoodTurns.l0
   repeat' first
   | (with_reducible exact ih0 _ _ _ _)
   | (with_reducible exact ih1 _ _ _)
   | (with_reducible exact slices_ContainsFunc_int_int_impl_GoodTurns_lit1.mono _ _)
   | (with_reducible exact LeO.refl _)
   | (with_reducible exact LeO.none _)
   | (with_reducible refine LeO.ite ?_ ?_)
   | (with_reducible refine LeO.bind ?_ (fun _ => ?_))
   | exact ih0 _ _ _ _
   | exact ih1 _ _ _
   | exact slices_ContainsFunc_int_int_impl_GoodTurns_lit1.mono _ _
   | exact LeO.none _
   | refine LeO.ite ?_ ?_
   | refine LeO.bind ?_ (fun _ => ?_)
theorem impl_GoodTurns.mono : ∀ a0 a1 a2 k,LeO (impl_GoodTurns.f k a0 a1 a2) (impl_GoodTurns.f (k+1) a0 a1 a2):=by
 intro a0 a1 a2 k
 obtain⟨ih0,ih1⟩:=impl_GoodTurns.mono_l k
 unfold impl_GoodTurns.f
 repeat' first
  | (with_reducible exact ih0 _ _ _ _)
  | (with_reducible exact ih1 _ _ _)
  | (with_reducible exact slices_ContainsFunc_int_int_impl_GoodTurns_lit1.mono _ _)
  | (with_reducible exact LeO.refl _)
  | (with_reducible exact LeO.none _)
  | (with_reducible refine LeO.ite ?_ ?_)
  | (with_reducible refine LeO.bind ?_ (fun _ => ?_))
  | exact ih0 _ _ _ _
  | exact ih1 _ _ _
  | exact slices_ContainsFunc_int_int_impl_GoodTurns_lit1.mono _ _
  | exact LeO.none _
  | refine LeO.ite ?_ ?_
  | refine LeO.bind ?_ (fun _ => ?_)
set_option maxHeartbeats 8000000 in
set_option maxRecDepth 100000 in
theorem impl_GoodTurns.calls (k:Nat) (a0_0:Int) (A0_1:Option Addr) (c0_1:Nat) (l0_1:List (S116)) (a0_2:Int) (r:Bool) (w:World) (hr0_1:Kd.C k116 w A0_1 l0_1.length l0_1) (hc0_1:l0_1.length≤c0_1) (h:impl_GoodTurns.f k a0_0 l0_1 a0_2=some r) :
  Calls Try.prog 78 #[.agg #[.int .i64 a0_0,.slice A0_1 l0_1.length c0_1,.int .i64 a0_2]] w fun e w'=>e=.returned (.bool r)∧Below w.heap.size w w':=by
 have hu28:=Try.underlying28
 have hu116:=Try.underlying116
 have HR0_1:=Aside0.mk hr0_1
 have HC0_1:=Aside0.mk hc0_1
 clear hr0_1 hc0_1
 have HB:=Aside0.mk (Below.refl w.heap.size w)
 have H:((impl_within.f a0_0 1 50).bind fun t233=>(if t233=true then ((impl_within.f (l0_1.length:Int) 1 6).bind fun t234=>(if t234=true then ((impl_isTime.f a0_2).bind fun t235=>(impl_GoodTurns.j0 k (!t235) a0_0 l0_1 a0_2)) else (impl_GoodTurns.j0 k true a0_0 l0_1 a0_2))) else (impl_GoodTurns.j0 k true a0_0 l0_1 a0_2)))=some r:=h
 clear h
 have HC2:=Aside0.mk H
 clear H
 go_enter Try.func78,Try.ntmps78
 go_upto_region 1 with (first|((with_reducible refine gate_dst (N:=1) rfl ?_);(try (refine gate_guard (by rfl) ?_;dsimp only));refine box_event ?hg (N:=1) ?hd (cs:=#[.int .i64 a0_0,.slice A0_1 l0_1.length c0_1,.int .i64 a0_2]) (t:=28) ?hr ?_;(case hd=>rfl);(case hg=>rfl);(case hr=>first|(go_simp;done)|(go_simp;rfl));intro gb232 hg w3 hbox hb;have n0_:=Aside0.mk (below_step (bB) hb);have n1_:=Aside0.mk (hbox);have n2_:=Aside0.mk ((bG:w.heap.size≤gb232));have n3_:=Aside0.mk ((bG:w.heap.size≤gb232));clear HB;have HB:=n0_;have BK232:=n1_;have GW232:=n2_;have GE232:=n3_;clear n0_ n1_ n2_ n3_;clear hb hbox hg))
 (try simp only[Act.put,List.setIfInBounds_toArray,List.set_cons_zero,List.set_cons_succ])
 go_cut [21] (fun v21 wc => ∃ (kq:Nat) (x21_1:Bool),v21=.bool x21_1∧Aside0 (impl_GoodTurns.j0 kq x21_1 a0_0 l0_1 a0_2=some r)∧Aside0 (kq≤k)∧Aside0 (wc.heap[gb232]?=some (.cells #[.int .i64 a0_0,(.slice A0_1 l0_1.length c0_1),.int .i64 a0_2] 28 (0,0)))∧Aside0 (Below w.heap.size w wc))
 case first =>
  have H:=HC2.out
  clear HC2
  replace H:=Option.bind_eq_some_iff.mp H
  obtain⟨t233,A40,H⟩:=H
  have A4:=Aside0.mk A40
  clear A40
  by_cases c5:t233=true
  ·subst c5
   have H1:((impl_within.f (l0_1.length:Int) 1 6).bind fun t234=>(if t234=true then ((impl_isTime.f a0_2).bind fun t235=>(impl_GoodTurns.j0 k (!t235) a0_0 l0_1 a0_2)) else (impl_GoodTurns.j0 k true a0_0 l0_1 a0_2)))=some r:=by rw[if_pos rfl] at H;exact H
   clear H
   have H:=H1
   clear H1
   replace H:=Option.bind_eq_some_iff.mp H
   obtain⟨t234,A60,H⟩:=H
   have A6:=Aside0.mk A60
   clear A60
   by_cases c7:t234=true
   ·subst c7
    have H1:((impl_isTime.f a0_2).bind fun t235=>(impl_GoodTurns.j0 k (!t235) a0_0 l0_1 a0_2))=some r:=by rw[if_pos rfl] at H;exact H
    clear H
    have H:=H1
    clear H1
    replace H:=Option.bind_eq_some_iff.mp H
    obtain⟨t235,A80,H⟩:=H
    have A8:=Aside0.mk A80
    clear A80
    have H':=Aside0.mk H
    clear H
    obtain⟨hcz9_0,hcz9_1,hcz9_2⟩:=cC3 BK232.out
    obtain⟨hfz9_0,hfz9_1,hfz9_2⟩:=cF3 BK232.out
    go_wp2_with (first|((with_reducible refine gate_callee (f:=79) rfl ?_);refine goesA (some 7) rfl rfl Try.func79 #[.int .i64 a0_0,.int .i64 1,.int .i64 50] rfl ?_;(with_reducible refine(impl_within.calls a0_0 1 50 true _ A4.out).mono ?_);rintro e w' ⟨rfl,⟨nd,rfl⟩⟩;refine⟨_,rfl,?_⟩)|(go_at_call 79;(with_reducible refine(impl_within.calls (l0_1.length:Int) 1 6 true _ A6.out).mono ?_);rintro e w' ⟨rfl,⟨nd,rfl⟩⟩)|(go_at_call 140;(with_reducible refine(impl_isTime.calls a0_2 t235 _ A8.out).mono ?_);rintro e w' ⟨rfl,⟨nd,rfl⟩⟩))
    go_meet
    case rel=>exact⟨_,(!t235),(bR),H',⟨by first|omega|exact Nat.le_refl _⟩,⟨by(with_reducible repeat (first|refine blk_drewN ?_ _|refine blk_drew ?_|refine blk_alloc ?_ _));exact BK232.out⟩,⟨bS GE232.out⟩⟩
   ·replace c7:=Bool.eq_false_iff.mpr c7
    subst c7
    have H1:(impl_GoodTurns.j0 k true a0_0 l0_1 a0_2)=some r:=by rw[if_neg (show ¬ (false=true) by decide)] at H;exact H
    clear H
    have H:=H1
    clear H1
    have H':=Aside0.mk H
    clear H
    obtain⟨hcz10_0,hcz10_1,hcz10_2⟩:=cC3 BK232.out
    obtain⟨hfz10_0,hfz10_1,hfz10_2⟩:=cF3 BK232.out
    go_wp2_with (first|((with_reducible refine gate_callee (f:=79) rfl ?_);refine goesA (some 7) rfl rfl Try.func79 #[.int .i64 a0_0,.int .i64 1,.int .i64 50] rfl ?_;(with_reducible refine(impl_within.calls a0_0 1 50 true _ A4.out).mono ?_);rintro e w' ⟨rfl,⟨nd,rfl⟩⟩;refine⟨_,rfl,?_⟩)|(go_at_call 79;(with_reducible refine(impl_within.calls (l0_1.length:Int) 1 6 false _ A6.out).mono ?_);rintro e w' ⟨rfl,⟨nd,rfl⟩⟩))
    go_meet
    case rel=>exact⟨_,(true),(bR),H',⟨by first|omega|exact Nat.le_refl _⟩,⟨by(with_reducible repeat (first|refine blk_drewN ?_ _|refine blk_drew ?_|refine blk_alloc ?_ _));exact BK232.out⟩,⟨bS GE232.out⟩⟩
  ·replace c5:=Bool.eq_false_iff.mpr c5
   subst c5
   have H1:(impl_GoodTurns.j0 k true a0_0 l0_1 a0_2)=some r:=by rw[if_neg (show ¬ (false=true) by decide)] at H;exact H
   clear H
   have H:=H1
   clear H1
   have H':=Aside0.mk H
   clear H
   obtain⟨hcz11_0,hcz11_1,hcz11_2⟩:=cC3 BK232.out
   obtain⟨hfz11_0,hfz11_1,hfz11_2⟩:=cF3 BK232.out
   go_wp2_with (first|((with_reducible refine gate_callee (f:=79) rfl ?_);refine goesA (some 7) rfl rfl Try.func79 #[.int .i64 a0_0,.int .i64 1,.int .i64 50] rfl ?_;(with_reducible refine(impl_within.calls a0_0 1 50 false _ A4.out).mono ?_);rintro e w' ⟨rfl,⟨nd,rfl⟩⟩;refine⟨_,rfl,?_⟩))
   go_meet
   case rel=>exact⟨_,(true),(bR),H',⟨by first|omega|exact Nat.le_refl _⟩,⟨by(with_reducible repeat (first|refine blk_drewN ?_ _|refine blk_drew ?_|refine blk_alloc ?_ _));exact BK232.out⟩,⟨bS GE232.out⟩⟩
 case rest =>
  clear HC2
  try clear p2
  try clear c5
  try clear c7
  try clear hcz10_0 hcz10_1 hcz10_2
  try clear hcz11_0 hcz11_1 hcz11_2
  try clear hcz9_0 hcz9_1 hcz9_2
  try clear hfz10_0 hfz10_1 hfz10_2
  try clear hfz11_0 hfz11_1 hfz11_2
  try clear hfz9_0 hfz9_1 hfz9_2
  obtain⟨kq,x21_1,rfl,HA,HJ1,BK232,HB⟩:=hcut
  cases kq with
  | zero=>exact absurd HA.out (by simp[impl_GoodTurns.j0])
  | succ kj1 =>
   have H:=HA.out
   clear HA
   simp only[impl_GoodTurns.j0] at H
   by_cases c12:x21_1=true
   ·subst c12
    have H1:(some false)=some r:=by rw[if_pos rfl] at H;exact H
    clear H
    have H:=H1
    clear H1
    obtain rfl:=Option.some.inj H
    go_wp2
    go_ret
    exact⟨bE,bS GE232.out⟩
   ·replace c12:=Bool.eq_false_iff.mpr c12
    subst c12
    have H1:(impl_GoodTurns.l0 kj1 l0_1 (l0_1.length:Int) 0)=some r:=by rw[if_neg (show ¬ (false=true) by decide)] at H;exact H
    clear H
    have H:=H1
    clear H1
    have H':=Aside0.mk H
    clear H
    obtain⟨hcz13_0,hcz13_1,hcz13_2⟩:=cC3 BK232.out
    obtain⟨hfz13_0,hfz13_1,hfz13_2⟩:=cF3 BK232.out
    go_wp2
    go_loopg [25] kj1 (fun kq v25 w' => ∃ (x25_2:Int),v25=.int .i64 x25_2∧Aside0 (impl_GoodTurns.l0 kq l0_1 (l0_1.length:Int) x25_2=some r)∧Aside0 (kq≤kj1)∧Aside0 (w'.heap[gb232]?=some (.cells #[.int .i64 a0_0,(.slice A0_1 l0_1.length c0_1),.int .i64 a0_2] 28 (0,0)))∧Aside0 (Below w.heap.size w w'))
    case atStart=>exact⟨(0),(bR),H',⟨Nat.le_refl _⟩,⟨by(with_reducible repeat (first|refine blk_drewN ?_ _|refine blk_drew ?_|refine blk_alloc ?_ _));exact BK232.out⟩,⟨bS GE232.out⟩⟩
    case round =>
     clear H'
     try clear c1
     try clear p2
     try clear c5
     try clear c7
     try clear c12
     try clear hcz10_0 hcz10_1 hcz10_2
     try clear hcz11_0 hcz11_1 hcz11_2
     try clear hcz13_0 hcz13_1 hcz13_2
     try clear hcz9_0 hcz9_1 hcz9_2
     try clear hfz10_0 hfz10_1 hfz10_2
     try clear hfz11_0 hfz11_1 hfz11_2
     try clear hfz13_0 hfz13_1 hfz13_2
     try clear hfz9_0 hfz9_1 hfz9_2
     try clear p2
     obtain⟨x25_2,rfl,HA,HK2,BK232,HB⟩:=hrel
     cases gk with
     | zero=>exact absurd HA.out (by simp[impl_GoodTurns.l0])
     | succ k2 =>
      have H:=HA.out
      clear HA
      simp only[impl_GoodTurns.l0] at H
      by_cases c14:x25_2 < (l0_1.length:Int)
      ·rw[if_pos c14] at H
       have c14b0:decide (x25_2 < (l0_1.length:Int))=true:=decide_eq_true c14
       clear c14
       by_cases c15:0≤x25_2
       ·rw[if_pos c15] at H
        have c15b0:decide (0≤x25_2)=true:=decide_eq_true c15
        clear c15
        by_cases c16:x25_2 < (l0_1.length:Int)
        ·rw[if_pos c16] at H
         have c16b0:decide (x25_2 < (l0_1.length:Int))=true:=decide_eq_true c16
         clear c16
         by_cases c17:(((rd_T116 l0_1 x25_2).f0).length:Int) > 40
         ·rw[if_pos c17] at H
          have c17b0:decide (40 < (((rd_T116 l0_1 x25_2).f0).length:Int))=true:=decide_eq_true c17
          have c17b1:decide (40 < ((rd_T116 l0_1 x25_2).f0).length)=true:=decide_eq_true (by omega)
          clear c17
          obtain rfl:=Option.some.inj H
          have p236:0≤(x25_2:Int):=of_decide_eq_true (bD)
          have q236:x25_2 < (l0_1.length:Int):=of_decide_eq_true (bD)
          obtain⟨ad236,A236_0,c236_0,e236,hx236_0,hx236_1,hx236_2,hl236_0,hi236_0⟩:=at_T116 HR0_1.out x25_2 p236 q236
          cases e236
          replace hx236_0:=(HB.out.cell (World.block_lt_of_cell? w _ hx236_0)).trans hx236_0
          replace hx236_1:=(HB.out.cell (World.block_lt_of_cell? w _ hx236_1)).trans hx236_1
          replace hx236_2:=(HB.out.cell (World.block_lt_of_cell? w _ hx236_2)).trans hx236_2
          have HR236_0:=Aside0.mk hi236_0
          have HC236_0:=Aside0.mk hl236_0
          clear hi236_0 hl236_0
          replace p236:=eq_true p236
          replace q236:=eq_true q236
          go_wp2_with (first|((with_reducible refine gate_dst (N:=4) rfl ?_);(try (refine gate_guard (by rfl) ?_;dsimp only));refine box_event ?hg (N:=4) ?hd (cs:=#[.slice none 0 0,.int .i64 0,.int .i64 0]) (t:=116) ?hr ?_;(case hd=>rfl);(case hg=>rfl);(case hr=>first|(go_simp;done)|(go_simp;rfl));intro gb237 hg w18 hbox hb;have n0_:=Aside0.mk (bM BK232.out hb);have n1_:=Aside0.mk (below_step (bS GE232.out) hb);have n2_:=Aside0.mk (hbox);have n3_:=Aside0.mk ((by rw[hg];exact(below_size (bS GE232.out)):w.heap.size≤gb237));have n4_:=Aside0.mk ((by rw[hg];exact(below_size (bS GE232.out)):w.heap.size≤gb237));have n5_:=Aside0.mk ((bN BK232.out hg:gb232≠gb237));have n6_:=Aside0.mk ((bO BK232.out hg:gb237≠gb232));clear BK232 HB;have BK232:=n0_;have HB:=n1_;have BK237:=n2_;have GW237:=n3_;have GE237:=n4_;have NB232_237:=n5_;have NB237_232:=n6_;clear n0_ n1_ n2_ n3_ n4_ n5_ n6_;clear hb hbox hg;have hnb19:=NB237_232.out;have hnc19:=NB232_237.out;obtain⟨hcz20_0,hcz20_1,hcz20_2⟩:=cC3 BK237.out;obtain⟨hfz20_0,hfz20_1,hfz20_2⟩:=cF3 BK237.out))
          go_ret
          exact⟨bE,bS2 GE232.out GE237.out⟩
         ·rw[if_neg c17] at H
          have c17b0:decide (40 < (((rd_T116 l0_1 x25_2).f0).length:Int))=false:=decide_eq_false c17
          have c17b1:decide (40 < ((rd_T116 l0_1 x25_2).f0).length)=false:=decide_eq_false (by omega)
          clear c17
          replace H:=Option.bind_eq_some_iff.mp H
          obtain⟨t238,A210,H⟩:=H
          have A21:=Aside0.mk A210
          clear A210
          by_cases c22:t238=true
          ·subst c22
           have H1:(some false)=some r:=by rw[if_pos rfl] at H;exact H
           clear H
           have H:=H1
           clear H1
           obtain rfl:=Option.some.inj H
           have p236:0≤(x25_2:Int):=of_decide_eq_true (bD)
           have q236:x25_2 < (l0_1.length:Int):=of_decide_eq_true (bD)
           obtain⟨ad236,A236_0,c236_0,e236,hx236_0,hx236_1,hx236_2,hl236_0,hi236_0⟩:=at_T116 HR0_1.out x25_2 p236 q236
           cases e236
           replace hx236_0:=(HB.out.cell (World.block_lt_of_cell? w _ hx236_0)).trans hx236_0
           replace hx236_1:=(HB.out.cell (World.block_lt_of_cell? w _ hx236_1)).trans hx236_1
           replace hx236_2:=(HB.out.cell (World.block_lt_of_cell? w _ hx236_2)).trans hx236_2
           have HR236_0:=Aside0.mk hi236_0
           have HC236_0:=Aside0.mk hl236_0
           clear hi236_0 hl236_0
           replace p236:=eq_true p236
           replace q236:=eq_true q236
           go_wp2_with (first|((with_reducible refine gate_dst (N:=4) rfl ?_);(try (refine gate_guard (by rfl) ?_;dsimp only));refine box_event ?hg (N:=4) ?hd (cs:=#[.slice none 0 0,.int .i64 0,.int .i64 0]) (t:=116) ?hr ?_;(case hd=>rfl);(case hg=>rfl);(case hr=>first|(go_simp;done)|(go_simp;rfl));intro gb237 hg w23 hbox hb;have n0_:=Aside0.mk (bM BK232.out hb);have n1_:=Aside0.mk (below_step (bS GE232.out) hb);have n2_:=Aside0.mk (hbox);have n3_:=Aside0.mk ((by rw[hg];exact(below_size (bS GE232.out)):w.heap.size≤gb237));have n4_:=Aside0.mk ((by rw[hg];exact(below_size (bS GE232.out)):w.heap.size≤gb237));have n5_:=Aside0.mk ((bN BK232.out hg:gb232≠gb237));have n6_:=Aside0.mk ((bO BK232.out hg:gb237≠gb232));clear BK232 HB;have BK232:=n0_;have HB:=n1_;have BK237:=n2_;have GW237:=n3_;have GE237:=n4_;have NB232_237:=n5_;have NB237_232:=n6_;clear n0_ n1_ n2_ n3_ n4_ n5_ n6_;clear hb hbox hg;have hnb24:=NB237_232.out;have hnc24:=NB232_237.out;obtain⟨hcz25_0,hcz25_1,hcz25_2⟩:=cC3 BK237.out;obtain⟨hfz25_0,hfz25_1,hfz25_2⟩:=cF3 BK237.out)|(go_at_call 113;(with_reducible refine(slices_ContainsFunc_int_int_impl_GoodTurns_lit1.calls k2 _ _ ((rd_T116 l0_1 x25_2).f0)  true _ ?side1 ?side2 A21.out).mono ?_);(case side1=>exact Kd.C_below HR236_0.out (bS2 GE232.out GE237.out));(case side2=>exact HC236_0.out);rintro e w' ⟨rfl,⟨nd,rfl⟩⟩))
           go_ret
           exact⟨bE,bS2 GE232.out GE237.out⟩
          ·replace c22:=Bool.eq_false_iff.mpr c22
           subst c22
           have H1:((impl_within.f ((rd_T116 l0_1 x25_2).f1) 0 100).bind fun t239=>(if t239=true then ((impl_isTime.f ((rd_T116 l0_1 x25_2).f2)).bind fun t240=>(if t240=true then (if (((rd_T116 l0_1 x25_2).f0).length:Int)=0 then (if ((rd_T116 l0_1 x25_2).f1)=0 then (impl_GoodTurns.l0 k2 l0_1 (l0_1.length:Int) (wrap64 (x25_2+1))) else (some false)) else (impl_GoodTurns.l0 k2 l0_1 (l0_1.length:Int) (wrap64 (x25_2+1)))) else (some false))) else (some false)))=some r:=by rw[if_neg (show ¬ (false=true) by decide)] at H;exact H
           clear H
           have H:=H1
           clear H1
           replace H:=Option.bind_eq_some_iff.mp H
           obtain⟨t239,A260,H⟩:=H
           have A26:=Aside0.mk A260
           clear A260
           by_cases c27:t239=true
           ·subst c27
            have H1:((impl_isTime.f ((rd_T116 l0_1 x25_2).f2)).bind fun t240=>(if t240=true then (if (((rd_T116 l0_1 x25_2).f0).length:Int)=0 then (if ((rd_T116 l0_1 x25_2).f1)=0 then (impl_GoodTurns.l0 k2 l0_1 (l0_1.length:Int) (wrap64 (x25_2+1))) else (some false)) else (impl_GoodTurns.l0 k2 l0_1 (l0_1.length:Int) (wrap64 (x25_2+1)))) else (some false)))=some r:=by rw[if_pos rfl] at H;exact H
            clear H
            have H:=H1
            clear H1
            replace H:=Option.bind_eq_some_iff.mp H
            obtain⟨t240,A280,H⟩:=H
            have A28:=Aside0.mk A280
            clear A280
            by_cases c29:t240=true
            ·subst c29
             have H1:(if (((rd_T116 l0_1 x25_2).f0).length:Int)=0 then (if ((rd_T116 l0_1 x25_2).f1)=0 then (impl_GoodTurns.l0 k2 l0_1 (l0_1.length:Int) (wrap64 (x25_2+1))) else (some false)) else (impl_GoodTurns.l0 k2 l0_1 (l0_1.length:Int) (wrap64 (x25_2+1))))=some r:=by rw[if_pos rfl] at H;exact H
             clear H
             have H:=H1
             clear H1
             by_cases c30:(((rd_T116 l0_1 x25_2).f0).length:Int)=0
             ·rw[if_pos c30] at H
              have c30b0:((((rd_T116 l0_1 x25_2).f0).length:Int) == 0)=true:=beq_iff_eq.mpr c30
              have c30b1:((((rd_T116 l0_1 x25_2).f0).length:Int) != 0)=false:=bne_eq_false_iff_eq.mpr c30
              clear c30
              by_cases c31:((rd_T116 l0_1 x25_2).f1)=0
              ·rw[if_pos c31] at H
               have c31b0:(((rd_T116 l0_1 x25_2).f1) == 0)=true:=beq_iff_eq.mpr c31
               have c31b1:(((rd_T116 l0_1 x25_2).f1) != 0)=false:=bne_eq_false_iff_eq.mpr c31
               clear c31
               have H':=Aside0.mk H
               clear H
               have p236:0≤(x25_2:Int):=of_decide_eq_true (bD)
               have q236:x25_2 < (l0_1.length:Int):=of_decide_eq_true (bD)
               obtain⟨ad236,A236_0,c236_0,e236,hx236_0,hx236_1,hx236_2,hl236_0,hi236_0⟩:=at_T116 HR0_1.out x25_2 p236 q236
               cases e236
               replace hx236_0:=(HB.out.cell (World.block_lt_of_cell? w _ hx236_0)).trans hx236_0
               replace hx236_1:=(HB.out.cell (World.block_lt_of_cell? w _ hx236_1)).trans hx236_1
               replace hx236_2:=(HB.out.cell (World.block_lt_of_cell? w _ hx236_2)).trans hx236_2
               have HR236_0:=Aside0.mk hi236_0
               have HC236_0:=Aside0.mk hl236_0
               clear hi236_0 hl236_0
               replace p236:=eq_true p236
               replace q236:=eq_true q236
               go_wp2_with (first|((with_reducible refine gate_dst (N:=4) rfl ?_);(try (refine gate_guard (by rfl) ?_;dsimp only));refine box_event ?hg (N:=4) ?hd (cs:=#[.slice none 0 0,.int .i64 0,.int .i64 0]) (t:=116) ?hr ?_;(case hd=>rfl);(case hg=>rfl);(case hr=>first|(go_simp;done)|(go_simp;rfl));intro gb237 hg w32 hbox hb;have n0_:=Aside0.mk (bM BK232.out hb);have n1_:=Aside0.mk (below_step (bS GE232.out) hb);have n2_:=Aside0.mk (hbox);have n3_:=Aside0.mk ((by rw[hg];exact(below_size (bS GE232.out)):w.heap.size≤gb237));have n4_:=Aside0.mk ((by rw[hg];exact(below_size (bS GE232.out)):w.heap.size≤gb237));have n5_:=Aside0.mk ((bN BK232.out hg:gb232≠gb237));have n6_:=Aside0.mk ((bO BK232.out hg:gb237≠gb232));clear BK232 HB;have BK232:=n0_;have HB:=n1_;have BK237:=n2_;have GW237:=n3_;have GE237:=n4_;have NB232_237:=n5_;have NB237_232:=n6_;clear n0_ n1_ n2_ n3_ n4_ n5_ n6_;clear hb hbox hg;have hnb33:=NB237_232.out;have hnc33:=NB232_237.out;obtain⟨hcz34_0,hcz34_1,hcz34_2⟩:=cC3 BK237.out;obtain⟨hfz34_0,hfz34_1,hfz34_2⟩:=cF3 BK237.out)|(go_at_call 113;(with_reducible refine(slices_ContainsFunc_int_int_impl_GoodTurns_lit1.calls k2 _ _ ((rd_T116 l0_1 x25_2).f0)  false _ ?side1 ?side2 A21.out).mono ?_);(case side1=>exact Kd.C_below HR236_0.out (bS2 GE232.out GE237.out));(case side2=>exact HC236_0.out);rintro e w' ⟨rfl,⟨nd,rfl⟩⟩)|(go_at_call 79;(with_reducible refine(impl_within.calls ((rd_T116 l0_1 x25_2).f1) 0 100 true _ A26.out).mono ?_);rintro e w' ⟨rfl,⟨nd,rfl⟩⟩)|(go_at_call 140;(with_reducible refine(impl_isTime.calls ((rd_T116 l0_1 x25_2).f2) true _ A28.out).mono ?_);rintro e w' ⟨rfl,⟨nd,rfl⟩⟩))
               go_roundg k2
               case measure=>have:=HJ1.out;have:=HK2.out;omega
               case rel=>exact⟨(wrap64 (x25_2+1)),(bR),H',⟨by have:=HJ1.out;have:=HK2.out;omega⟩,⟨by(with_reducible repeat (first|refine blk_drewN ?_ _|refine blk_drew ?_|refine blk_alloc ?_ _));refine blk_far ?_ NB232_237.out _;(with_reducible repeat (first|refine blk_drewN ?_ _|refine blk_drew ?_|refine blk_alloc ?_ _));refine blk_far ?_ NB232_237.out _;(with_reducible repeat (first|refine blk_drewN ?_ _|refine blk_drew ?_|refine blk_alloc ?_ _));refine blk_far ?_ NB232_237.out _;(with_reducible repeat (first|refine blk_drewN ?_ _|refine blk_drew ?_|refine blk_alloc ?_ _));exact BK232.out⟩,⟨bS2 GE232.out GE237.out⟩⟩
              ·rw[if_neg c31] at H
               have c31b0:(((rd_T116 l0_1 x25_2).f1) == 0)=false:=beq_eq_false_iff_ne.mpr c31
               have c31b1:(((rd_T116 l0_1 x25_2).f1) != 0)=true:=bne_iff_ne.mpr c31
               obtain rfl:=Option.some.inj H
               have p236:0≤(x25_2:Int):=of_decide_eq_true (bD)
               have q236:x25_2 < (l0_1.length:Int):=of_decide_eq_true (bD)
               obtain⟨ad236,A236_0,c236_0,e236,hx236_0,hx236_1,hx236_2,hl236_0,hi236_0⟩:=at_T116 HR0_1.out x25_2 p236 q236
               cases e236
               replace hx236_0:=(HB.out.cell (World.block_lt_of_cell? w _ hx236_0)).trans hx236_0
               replace hx236_1:=(HB.out.cell (World.block_lt_of_cell? w _ hx236_1)).trans hx236_1
               replace hx236_2:=(HB.out.cell (World.block_lt_of_cell? w _ hx236_2)).trans hx236_2
               have HR236_0:=Aside0.mk hi236_0
               have HC236_0:=Aside0.mk hl236_0
               clear hi236_0 hl236_0
               replace p236:=eq_true p236
               replace q236:=eq_true q236
               go_wp2_with (first|((with_reducible refine gate_dst (N:=4) rfl ?_);(try (refine gate_guard (by rfl) ?_;dsimp only));refine box_event ?hg (N:=4) ?hd (cs:=#[.slice none 0 0,.int .i64 0,.int .i64 0]) (t:=116) ?hr ?_;(case hd=>rfl);(case hg=>rfl);(case hr=>first|(go_simp;done)|(go_simp;rfl));intro gb237 hg w35 hbox hb;have n0_:=Aside0.mk (bM BK232.out hb);have n1_:=Aside0.mk (below_step (bS GE232.out) hb);have n2_:=Aside0.mk (hbox);have n3_:=Aside0.mk ((by rw[hg];exact(below_size (bS GE232.out)):w.heap.size≤gb237));have n4_:=Aside0.mk ((by rw[hg];exact(below_size (bS GE232.out)):w.heap.size≤gb237));have n5_:=Aside0.mk ((bN BK232.out hg:gb232≠gb237));have n6_:=Aside0.mk ((bO BK232.out hg:gb237≠gb232));clear BK232 HB;have BK232:=n0_;have HB:=n1_;have BK237:=n2_;have GW237:=n3_;have GE237:=n4_;have NB232_237:=n5_;have NB237_232:=n6_;clear n0_ n1_ n2_ n3_ n4_ n5_ n6_;clear hb hbox hg;have hnb36:=NB237_232.out;have hnc36:=NB232_237.out;obtain⟨hcz37_0,hcz37_1,hcz37_2⟩:=cC3 BK237.out;obtain⟨hfz37_0,hfz37_1,hfz37_2⟩:=cF3 BK237.out)|(go_at_call 113;(with_reducible refine(slices_ContainsFunc_int_int_impl_GoodTurns_lit1.calls k2 _ _ ((rd_T116 l0_1 x25_2).f0)  false _ ?side1 ?side2 A21.out).mono ?_);(case side1=>exact Kd.C_below HR236_0.out (bS2 GE232.out GE237.out));(case side2=>exact HC236_0.out);rintro e w' ⟨rfl,⟨nd,rfl⟩⟩)|(go_at_call 79;(with_reducible refine(impl_within.calls ((rd_T116 l0_1 x25_2).f1) 0 100 true _ A26.out).mono ?_);rintro e w' ⟨rfl,⟨nd,rfl⟩⟩)|(go_at_call 140;(with_reducible refine(impl_isTime.calls ((rd_T116 l0_1 x25_2).f2) true _ A28.out).mono ?_);rintro e w' ⟨rfl,⟨nd,rfl⟩⟩))
               go_ret
               exact⟨bE,bS2 GE232.out GE237.out⟩
             ·rw[if_neg c30] at H
              have c30b0:((((rd_T116 l0_1 x25_2).f0).length:Int) == 0)=false:=beq_eq_false_iff_ne.mpr c30
              have c30b1:((((rd_T116 l0_1 x25_2).f0).length:Int) != 0)=true:=bne_iff_ne.mpr c30
              have c30b2 : ¬ (((rd_T116 l0_1 x25_2).f0)=[]):=fun h_=>c30 (by rw[h_];rfl)
              have H':=Aside0.mk H
              clear H
              have p236:0≤(x25_2:Int):=of_decide_eq_true (bD)
              have q236:x25_2 < (l0_1.length:Int):=of_decide_eq_true (bD)
              obtain⟨ad236,A236_0,c236_0,e236,hx236_0,hx236_1,hx236_2,hl236_0,hi236_0⟩:=at_T116 HR0_1.out x25_2 p236 q236
              cases e236
              replace hx236_0:=(HB.out.cell (World.block_lt_of_cell? w _ hx236_0)).trans hx236_0
              replace hx236_1:=(HB.out.cell (World.block_lt_of_cell? w _ hx236_1)).trans hx236_1
              replace hx236_2:=(HB.out.cell (World.block_lt_of_cell? w _ hx236_2)).trans hx236_2
              have HR236_0:=Aside0.mk hi236_0
              have HC236_0:=Aside0.mk hl236_0
              clear hi236_0 hl236_0
              replace p236:=eq_true p236
              replace q236:=eq_true q236
              go_wp2_with (first|((with_reducible refine gate_dst (N:=4) rfl ?_);(try (refine gate_guard (by rfl) ?_;dsimp only));refine box_event ?hg (N:=4) ?hd (cs:=#[.slice none 0 0,.int .i64 0,.int .i64 0]) (t:=116) ?hr ?_;(case hd=>rfl);(case hg=>rfl);(case hr=>first|(go_simp;done)|(go_simp;rfl));intro gb237 hg w38 hbox hb;have n0_:=Aside0.mk (bM BK232.out hb);have n1_:=Aside0.mk (below_step (bS GE232.out) hb);have n2_:=Aside0.mk (hbox);have n3_:=Aside0.mk ((by rw[hg];exact(below_size (bS GE232.out)):w.heap.size≤gb237));have n4_:=Aside0.mk ((by rw[hg];exact(below_size (bS GE232.out)):w.heap.size≤gb237));have n5_:=Aside0.mk ((bN BK232.out hg:gb232≠gb237));have n6_:=Aside0.mk ((bO BK232.out hg:gb237≠gb232));clear BK232 HB;have BK232:=n0_;have HB:=n1_;have BK237:=n2_;have GW237:=n3_;have GE237:=n4_;have NB232_237:=n5_;have NB237_232:=n6_;clear n0_ n1_ n2_ n3_ n4_ n5_ n6_;clear hb hbox hg;have hnb39:=NB237_232.out;have hnc39:=NB232_237.out;obtain⟨hcz40_0,hcz40_1,hcz40_2⟩:=cC3 BK237.out;obtain⟨hfz40_0,hfz40_1,hfz40_2⟩:=cF3 BK237.out)|(go_at_call 113;(with_reducible refine(slices_ContainsFunc_int_int_impl_GoodTurns_lit1.calls k2 _ _ ((rd_T116 l0_1 x25_2).f0)  false _ ?side1 ?side2 A21.out).mono ?_);(case side1=>exact Kd.C_below HR236_0.out (bS2 GE232.out GE237.out));(case side2=>exact HC236_0.out);rintro e w' ⟨rfl,⟨nd,rfl⟩⟩)|(go_at_call 79;(with_reducible refine(impl_within.calls ((rd_T116 l0_1 x25_2).f1) 0 100 true _ A26.out).mono ?_);rintro e w' ⟨rfl,⟨nd,rfl⟩⟩)|(go_at_call 140;(with_reducible refine(impl_isTime.calls ((rd_T116 l0_1 x25_2).f2) true _ A28.out).mono ?_);rintro e w' ⟨rfl,⟨nd,rfl⟩⟩))
              go_roundg k2
              case measure=>have:=HJ1.out;have:=HK2.out;omega
              case rel=>exact⟨(wrap64 (x25_2+1)),(bR),H',⟨by have:=HJ1.out;have:=HK2.out;omega⟩,⟨by(with_reducible repeat (first|refine blk_drewN ?_ _|refine blk_drew ?_|refine blk_alloc ?_ _));refine blk_far ?_ NB232_237.out _;(with_reducible repeat (first|refine blk_drewN ?_ _|refine blk_drew ?_|refine blk_alloc ?_ _));refine blk_far ?_ NB232_237.out _;(with_reducible repeat (first|refine blk_drewN ?_ _|refine blk_drew ?_|refine blk_alloc ?_ _));refine blk_far ?_ NB232_237.out _;(with_reducible repeat (first|refine blk_drewN ?_ _|refine blk_drew ?_|refine blk_alloc ?_ _));exact BK232.out⟩,⟨bS2 GE232.out GE237.out⟩⟩
            ·replace c29:=Bool.eq_false_iff.mpr c29
             subst c29
             have H1:(some false)=some r:=by rw[if_neg (show ¬ (false=true) by decide)] at H;exact H
             clear H
             have H:=H1
             clear H1
             obtain rfl:=Option.some.inj H
             have p236:0≤(x25_2:Int):=of_decide_eq_true (bD)
             have q236:x25_2 < (l0_1.length:Int):=of_decide_eq_true (bD)
             obtain⟨ad236,A236_0,c236_0,e236,hx236_0,hx236_1,hx236_2,hl236_0,hi236_0⟩:=at_T116 HR0_1.out x25_2 p236 q236
             cases e236
             replace hx236_0:=(HB.out.cell (World.block_lt_of_cell? w _ hx236_0)).trans hx236_0
             replace hx236_1:=(HB.out.cell (World.block_lt_of_cell? w _ hx236_1)).trans hx236_1
             replace hx236_2:=(HB.out.cell (World.block_lt_of_cell? w _ hx236_2)).trans hx236_2
             have HR236_0:=Aside0.mk hi236_0
             have HC236_0:=Aside0.mk hl236_0
             clear hi236_0 hl236_0
             replace p236:=eq_true p236
             replace q236:=eq_true q236
             go_wp2_with (first|((with_reducible refine gate_dst (N:=4) rfl ?_);(try (refine gate_guard (by rfl) ?_;dsimp only));refine box_event ?hg (N:=4) ?hd (cs:=#[.slice none 0 0,.int .i64 0,.int .i64 0]) (t:=116) ?hr ?_;(case hd=>rfl);(case hg=>rfl);(case hr=>first|(go_simp;done)|(go_simp;rfl));intro gb237 hg w41 hbox hb;have n0_:=Aside0.mk (bM BK232.out hb);have n1_:=Aside0.mk (below_step (bS GE232.out) hb);have n2_:=Aside0.mk (hbox);have n3_:=Aside0.mk ((by rw[hg];exact(below_size (bS GE232.out)):w.heap.size≤gb237));have n4_:=Aside0.mk ((by rw[hg];exact(below_size (bS GE232.out)):w.heap.size≤gb237));have n5_:=Aside0.mk ((bN BK232.out hg:gb232≠gb237));have n6_:=Aside0.mk ((bO BK232.out hg:gb237≠gb232));clear BK232 HB;have BK232:=n0_;have HB:=n1_;have BK237:=n2_;have GW237:=n3_;have GE237:=n4_;have NB232_237:=n5_;have NB237_232:=n6_;clear n0_ n1_ n2_ n3_ n4_ n5_ n6_;clear hb hbox hg;have hnb42:=NB237_232.out;have hnc42:=NB232_237.out;obtain⟨hcz43_0,hcz43_1,hcz43_2⟩:=cC3 BK237.out;obtain⟨hfz43_0,hfz43_1,hfz43_2⟩:=cF3 BK237.out)|(go_at_call 113;(with_reducible refine(slices_ContainsFunc_int_int_impl_GoodTurns_lit1.calls k2 _ _ ((rd_T116 l0_1 x25_2).f0)  false _ ?side1 ?side2 A21.out).mono ?_);(case side1=>exact Kd.C_below HR236_0.out (bS2 GE232.out GE237.out));(case side2=>exact HC236_0.out);rintro e w' ⟨rfl,⟨nd,rfl⟩⟩)|(go_at_call 79;(with_reducible refine(impl_within.calls ((rd_T116 l0_1 x25_2).f1) 0 100 true _ A26.out).mono ?_);rintro e w' ⟨rfl,⟨nd,rfl⟩⟩)|(go_at_call 140;(with_reducible refine(impl_isTime.calls ((rd_T116 l0_1 x25_2).f2) false _ A28.out).mono ?_);rintro e w' ⟨rfl,⟨nd,rfl⟩⟩))
             go_ret
             exact⟨bE,bS2 GE232.out GE237.out⟩
           ·replace c27:=Bool.eq_false_iff.mpr c27
            subst c27
            have H1:(some false)=some r:=by rw[if_neg (show ¬ (false=true) by decide)] at H;exact H
            clear H
            have H:=H1
            clear H1
            obtain rfl:=Option.some.inj H
            have p236:0≤(x25_2:Int):=of_decide_eq_true (bD)
            have q236:x25_2 < (l0_1.length:Int):=of_decide_eq_true (bD)
            obtain⟨ad236,A236_0,c236_0,e236,hx236_0,hx236_1,hx236_2,hl236_0,hi236_0⟩:=at_T116 HR0_1.out x25_2 p236 q236
            cases e236
            replace hx236_0:=(HB.out.cell (World.block_lt_of_cell? w _ hx236_0)).trans hx236_0
            replace hx236_1:=(HB.out.cell (World.block_lt_of_cell? w _ hx236_1)).trans hx236_1
            replace hx236_2:=(HB.out.cell (World.block_lt_of_cell? w _ hx236_2)).trans hx236_2
            have HR236_0:=Aside0.mk hi236_0
            have HC236_0:=Aside0.mk hl236_0
            clear hi236_0 hl236_0
            replace p236:=eq_true p236
            replace q236:=eq_true q236
            go_wp2_with (first|((with_reducible refine gate_dst (N:=4) rfl ?_);(try (refine gate_guard (by rfl) ?_;dsimp only));refine box_event ?hg (N:=4) ?hd (cs:=#[.slice none 0 0,.int .i64 0,.int .i64 0]) (t:=116) ?hr ?_;(case hd=>rfl);(case hg=>rfl);(case hr=>first|(go_simp;done)|(go_simp;rfl));intro gb237 hg w44 hbox hb;have n0_:=Aside0.mk (bM BK232.out hb);have n1_:=Aside0.mk (below_step (bS GE232.out) hb);have n2_:=Aside0.mk (hbox);have n3_:=Aside0.mk ((by rw[hg];exact(below_size (bS GE232.out)):w.heap.size≤gb237));have n4_:=Aside0.mk ((by rw[hg];exact(below_size (bS GE232.out)):w.heap.size≤gb237));have n5_:=Aside0.mk ((bN BK232.out hg:gb232≠gb237));have n6_:=Aside0.mk ((bO BK232.out hg:gb237≠gb232));clear BK232 HB;have BK232:=n0_;have HB:=n1_;have BK237:=n2_;have GW237:=n3_;have GE237:=n4_;have NB232_237:=n5_;have NB237_232:=n6_;clear n0_ n1_ n2_ n3_ n4_ n5_ n6_;clear hb hbox hg;have hnb45:=NB237_232.out;have hnc45:=NB232_237.out;obtain⟨hcz46_0,hcz46_1,hcz46_2⟩:=cC3 BK237.out;obtain⟨hfz46_0,hfz46_1,hfz46_2⟩:=cF3 BK237.out)|(go_at_call 113;(with_reducible refine(slices_ContainsFunc_int_int_impl_GoodTurns_lit1.calls k2 _ _ ((rd_T116 l0_1 x25_2).f0)  false _ ?side1 ?side2 A21.out).mono ?_);(case side1=>exact Kd.C_below HR236_0.out (bS2 GE232.out GE237.out));(case side2=>exact HC236_0.out);rintro e w' ⟨rfl,⟨nd,rfl⟩⟩)|(go_at_call 79;(with_reducible refine(impl_within.calls ((rd_T116 l0_1 x25_2).f1) 0 100 false _ A26.out).mono ?_);rintro e w' ⟨rfl,⟨nd,rfl⟩⟩))
            go_ret
            exact⟨bE,bS2 GE232.out GE237.out⟩
        ·rw[if_neg c16] at H
         exact absurd H (by simp)
       ·rw[if_neg c15] at H
        exact absurd H (by simp)
      ·rw[if_neg c14] at H
       have c14b0:decide (x25_2 < (l0_1.length:Int))=false:=decide_eq_false c14
       clear c14
       obtain rfl:=Option.some.inj H
       go_wp2
       go_ret
       exact⟨bE,bS GE232.out⟩

/-! ### slices_Clone_int_int: function 98 -/
def slices_Clone_int_int.f (l0:List Int):Option (List Int):=(some (([]:List Int):List Int)).bind fun y241=>(if y241.length+l0.length < 17592186044416 then (some (y241++l0)) else (none))
set_option maxHeartbeats 8000000 in
set_option maxRecDepth 100000 in
theorem slices_Clone_int_int.calls (A0:Option Addr) (c0:Nat) (l0:List Int) (r:List Int) (w:World) (hr0:Kd.C (Kd.int .i64) w A0 l0.length l0) (hc0:l0.length≤c0) (h:slices_Clone_int_int.f l0=some r) :
  Calls Try.prog 98 #[.slice A0 l0.length c0] w fun e w' => ∃ v0_:Value,e=.returned (v0_)∧Kd.R (Kd.int .i64) 3 w' w.heap.size (fun _=>True) v0_ r∧Below w.heap.size w w':=by
 have HR0:=Aside0.mk hr0
 have HC0:=Aside0.mk hc0
 clear hr0 hc0
 by_cases hA_:A0=none
 ·have h0_:l0=[]:=by
   have z_:=HR0.out
   rw[hA_] at z_
   cases l0 with
   | nil=>rfl
   | cons x_ xs_ =>
    obtain⟨ad_,e_,_⟩:=z_.2.2 (by simp)
    cases e_
  subst hA_
  subst h0_
  have hr_:r=[]:=by simpa [slices_Clone_int_int.f] using h.symm
  subst hr_
  have hq_ : ∀ (w:World) (n c:Nat),(binOp .eql 37 (.slice none n c) (.slice none 0 0)).run Try.prog w=.ok (.bool true) w:=fun w n c=>by
   rw[Lib.run_eql_slice_nil w _ _ _ _ _ _ _ Try.underlying37]
   rfl
  go_enter Try.func98,Try.ntmps98
  go_wp2
  go_ret
  exact⟨_,rfl,Kd.R_nil _ _ _ _ _,Below.refl _ _⟩
 have hq_ : ∀ w,(binOp .eql 37 (.slice A0 l0.length c0) (.slice none 0 0)).run Try.prog w=.ok (.bool false) w:=fun w=>by
  rw[Lib.run_eql_slice_nil w _ _ _ _ _ _ _ Try.underlying37]
  cases A0 with
  | none=>exact absurd rfl hA_
  | some _=>rfl
 have HB:=Aside0.mk (Below.refl w.heap.size w)
 have H:((some (([]:List Int):List Int)).bind fun y241=>(if y241.length+l0.length < 17592186044416 then (some (y241++l0)) else (none)))=some r:=h
 clear h
 obtain⟨y241,hy241⟩ : ∃ y_:List Int,y_=(([]:List Int)):=⟨_,rfl⟩
 replace H:(if y241.length+l0.length < 17592186044416 then (some (y241++l0)) else (none))=some r:=by first|(rw[hy241];with_reducible exact H)|(have H2_:=(Option.bind_some _ _).symm.trans H;rw[hy241];with_reducible exact H2_)|(have H2_:=(Option.bind_some _ _).symm.trans H;with_reducible exact H2_)|with_reducible exact H|(rw[hy241];exact H)|exact H
 have Ny241:=Aside0.mk hy241
 clear hy241
 by_cases c2:y241.length+l0.length < 17592186044416
 ·rw[if_pos c2] at H
  have LMc2:=Aside0.mk c2
  clear c2
  obtain⟨y244,hy244⟩ : ∃ y_:List Int,y_=(y241++l0):=⟨_,rfl⟩
  replace H:(some y244)=some r:=by first|(rw[hy244];with_reducible exact H)|(have H2_:=(Option.bind_some _ _).symm.trans H;rw[hy244];with_reducible exact H2_)|(have H2_:=(Option.bind_some _ _).symm.trans H;with_reducible exact H2_)|with_reducible exact H|(rw[hy244];exact H)|exact H
  have Ny244:=Aside0.mk hy244
  clear hy244
  obtain rfl:=Option.some.inj H
  go_enter Try.func98,Try.ntmps98
  go_wp2_with (first|((with_reducible refine gate_dst (N:=5) rfl ?_);refine Kd.R_lit (Kd.int .i64) _ 3 ?hg (N:=5) ?hd (xs:=([]:List Int)) (inner:=[]) (ok:=fun _=>True) (okp:=fun _=>True) ?hr ?hp (fun _ hk=>hk) trivial (Below.refl _ _) (Nat.le_refl _) (by simp) ?_;(case hd=>rfl);(case hg=>rfl);(case hr=>first|(go_simp;done)|(go_simp;rfl));(case hp=>exact(Reps.none _ _));intro v242 w3 ho4 hb hg_ hnew_;clear hg_ hnew_;(first|rw[← Ny241.out] at ho4|(simp only[Int.reduceToNat] at ho4;rw[← Ny241.out] at ho4));have n0_:=Aside0.mk (Kd.R_lower ho4 (below_size (bB)));have n1_:=Aside0.mk (below_step (bB) hb);clear HB;have HO243:=n0_;have HB:=n1_;clear n0_ n1_;clear hb ho4)|((with_reducible refine gate_builtin (b:=.append) (xs:=#[.tmp 5,.tmp 6]) rfl ?_);at_builtin;refine Kd.R_append_rows (Kd.int .i64) (w0:=w) w.heap.size rfl (.tmp 5) (.tmp 6) 37 3 (.int .i64 0) 8 rfl Try.underlying37 info3 rfl (by decide) (by omega) v242 y241 l0 _ _ _ (fun _=>True) (fun _=>False) rfl rfl ?aO ?aR (fun _ _ h=>h) (fun _ h=>h.elim) ?aF ?aB ?aS ?aL ?_;(case aR=>exact bC HR0.out);(case aB=>exact(bB));(case aF=>exact(fun _ _=>trivial));(case aO=>exact(bK HO243.out));(case aS=>exact(below_size (bB)));(case aL=>have:=LMc2.out;omega);intro v245 w5 ho hb hg hat;rw[← Ny244.out] at ho;have n0_:=Aside0.mk (hb);have n1_:=Aside0.mk (ho);clear HB HO243;have HB:=n0_;have HO246:=n1_;clear n0_ n1_;clear ho hb hg hat))
  go_ret
  exact⟨_,by first|rfl|(simp[errW_none,errW_some]<;>rfl)|(simp[*,errW_none,errW_some]<;>rfl),by(with_reducible repeat (first|apply Kd.R_alloc|apply Kd.R_drewN|apply Kd.R_drew));exact HO246.out,bB⟩
 ·rw[if_neg c2] at H
  exact absurd H (by simp)

-- NOT PRINTED: function 142 (impl_Queue)

end Go.Proofs.Yteneeohaoplpbaa.XFnExactNextRound
