-- Written by this session's own program (wip/xprint.py) out of the translation; Lean checks it.
import Derived.Test.YteneeohaoplpbaaXFnExactRunRoundsx0
import Derived.Test.YteneeohaoplpbaaXFnExactRunRoundsx3
import Derived.Test.YteneeohaoplpbaaXFnExactRunRoundsx4
namespace Go.Proofs.Yteneeohaoplpbaa.XFnExactRunRounds
open Go.RowKit Go.Proofs.YteneeohaoplpbaaW.PrintWords Go.Proofs.YteneeohaoplpbaaW.PrintLast Go.Proofs.YteneeohaoplpbaaW.PrintMore
attribute [local go_sem] max2_int min2_int max_two min_two max_three min_three max_four min_four   -- for this text's walks alone
set_option linter.unusedVariables false
set_option linter.unusedSimpArgs false

/-! ### spec_NextRound: function 49 -/
def spec_NextRound.f (k:Nat) (a0_0:Int) (l0_1:List (S116)) (a0_2:Int):Option (Int × (List (S116)) × Int × List Int × Bool):=(spec_GoodTurns.f k a0_0 l0_1 a0_2).bind fun t209=>(if t209=true then ((spec_l14Round.f k a0_0 l0_1 a0_2).bind fun bt210=>((spec_GoodTurns.f k bt210.1 bt210.2.1 bt210.2.2.1).bind fun t219=>(if t219=true then (some (bt210.1,bt210.2.1,bt210.2.2.1,bt210.2.2.2,true)) else (some (0,([]:List (S116)),0,([]:List Int),false))))) else (some (0,([]:List (S116)),0,([]:List Int),false)))
theorem spec_NextRound.mono : ∀ a0 a1 a2 k,LeO (spec_NextRound.f k a0 a1 a2) (spec_NextRound.f (k+1) a0 a1 a2):=by
 intro a0 a1 a2 k
 unfold spec_NextRound.f
 repeat' first
  | (with_reducible exact spec_GoodTurns.mono _ _ _ _)
  | (with_reducible exact spec_l14Round.mono _ _ _ _)
  | (with_reducible exact LeO.refl _)
  | (with_reducible exact LeO.none _)
  | (with_reducible refine LeO.ite ?_ ?_)
  | (with_reducible refine LeO.bind ?_ (fun _ => ?_))
  | exact spec_GoodTurns.mono _ _ _ _
  | exact spec_l14Round.mono _ _ _ _
  | exact LeO.none _
  | refine LeO.ite ?_ ?_
  | refine LeO.bind ?_ (fun _ => ?_)
set_option maxHeartbeats 8000000 in
set_option maxRecDepth 100000 in
theorem spec_NextRound.calls (k:Nat) (a0_0:Int) (A0_1:Option Addr) (c0_1:Nat) (l0_1:List (S116)) (a0_2:Int) (r1:Int) (r2:List (S116)) (r3:Int) (r4:List Int) (r5:Bool) (w:World) (hr0_1:Kd.C k116 w A0_1 l0_1.length l0_1) (hc0_1:l0_1.length≤c0_1) (h:spec_NextRound.f k a0_0 l0_1 a0_2=some (r1,r2,r3,r4,r5)) :
  Calls Try.prog 49 #[.agg #[.int .i64 a0_0,.slice A0_1 l0_1.length c0_1,.int .i64 a0_2]] w fun e w' => ∃ v1_ v3_:Value,e=.returned (.tuple #[.agg #[.int .i64 r1,v1_,.int .i64 r3],v3_,.bool r5])∧Kd.S k116 116 w' w.heap.size (fun k_=>some k_≠(v3_:Value).ownBlock) v1_ r2∧Kd.R (Kd.int .i64) 3 w' w.heap.size (fun _=>True) v3_ r4∧Below w.heap.size w w':=by
 have hu28:=Try.underlying28
 have HR0_1:=Aside0.mk hr0_1
 have HC0_1:=Aside0.mk hc0_1
 clear hr0_1 hc0_1
 have HB:=Aside0.mk (Below.refl w.heap.size w)
 have H:((spec_GoodTurns.f k a0_0 l0_1 a0_2).bind fun t209=>(if t209=true then ((spec_l14Round.f k a0_0 l0_1 a0_2).bind fun bt210=>((spec_GoodTurns.f k bt210.1 bt210.2.1 bt210.2.2.1).bind fun t219=>(if t219=true then (some (bt210.1,bt210.2.1,bt210.2.2.1,bt210.2.2.2,true)) else (some (0,([]:List (S116)),0,([]:List Int),false))))) else (some (0,([]:List (S116)),0,([]:List Int),false))))=some (r1,r2,r3,r4,r5):=h
 clear h
 replace H:=Option.bind_eq_some_iff.mp H
 obtain⟨t209,A20,H⟩:=H
 replace H:(if t209=true then ((spec_l14Round.f k a0_0 l0_1 a0_2).bind fun bt210=>((spec_GoodTurns.f k bt210.1 bt210.2.1 bt210.2.2.1).bind fun t219=>(if t219=true then (some (bt210.1,bt210.2.1,bt210.2.2.1,bt210.2.2.2,true)) else (some (0,([]:List (S116)),0,([]:List Int),false))))) else (some (0,([]:List (S116)),0,([]:List Int),false)))=some (r1,r2,r3,r4,r5):=H
 have A2:=Aside0.mk A20
 clear A20
 by_cases c3:t209=true
 ·subst c3
  have H1:((spec_l14Round.f k a0_0 l0_1 a0_2).bind fun bt210=>((spec_GoodTurns.f k bt210.1 bt210.2.1 bt210.2.2.1).bind fun t219=>(if t219=true then (some (bt210.1,bt210.2.1,bt210.2.2.1,bt210.2.2.2,true)) else (some (0,([]:List (S116)),0,([]:List Int),false)))))=some (r1,r2,r3,r4,r5):=by rw[if_pos rfl] at H;exact H
  clear H
  have H:=H1
  clear H1
  replace H:=Option.bind_eq_some_iff.mp H
  obtain⟨⟨t210,t211,t214,t215⟩,A40,H⟩:=H
  replace H:((spec_GoodTurns.f k t210 t211 t214).bind fun t219=>(if t219=true then (some (t210,t211,t214,t215,true)) else (some (0,([]:List (S116)),0,([]:List Int),false))))=some (r1,r2,r3,r4,r5):=H
  have A4:=Aside0.mk A40
  clear A40
  replace H:=Option.bind_eq_some_iff.mp H
  obtain⟨t219,A50,H⟩:=H
  replace H:(if t219=true then (some (t210,t211,t214,t215,true)) else (some (0,([]:List (S116)),0,([]:List Int),false)))=some (r1,r2,r3,r4,r5):=H
  have A5:=Aside0.mk A50
  clear A50
  by_cases c6:t219=true
  ·subst c6
   have H1:(some (t210,t211,t214,t215,true))=some (r1,r2,r3,r4,r5):=by rw[if_pos rfl] at H;exact H
   clear H
   have H:=H1
   clear H1
   simp only[Option.some.injEq,Prod.mk.injEq] at H
   obtain⟨rfl,rfl,rfl,rfl,rfl⟩:=H
   go_enter Try.func49,Try.ntmps49
   go_wp2_with (first|((with_reducible refine gate_dst (N:=1) rfl ?_);refine box_event ?hg (N:=1) ?hd (cs:=#[.int .i64 a0_0,.slice A0_1 l0_1.length c0_1,.int .i64 a0_2]) (t:=28) ?hr ?_;(case hd=>rfl);(case hg=>rfl);(case hr=>first|(go_simp;done)|(go_simp;rfl));intro gb207 hg w7 hbox hb;have n0_:=Aside0.mk (below_step (bB) hb);have n1_:=Aside0.mk (hbox);have n2_:=Aside0.mk ((bG:w.heap.size≤gb207));have n3_:=Aside0.mk ((bG:w.heap.size≤gb207));clear HB;have HB:=n0_;have BK207:=n1_;have GW207:=n2_;have GE207:=n3_;clear n0_ n1_ n2_ n3_;clear hb hbox hg)|((with_reducible refine gate_dst (N:=2) rfl ?_);refine box_event ?hg (N:=2) ?hd (cs:=#[.int .i64 0,.slice none 0 0,.int .i64 0]) (t:=28) ?hr ?_;(case hd=>rfl);(case hg=>rfl);(case hr=>first|(go_simp;done)|(go_simp;rfl));intro gb208 hg w8 hbox hb;have n0_:=Aside0.mk (bM BK207.out hb);have n1_:=Aside0.mk (below_step (bS GE207.out) hb);have n2_:=Aside0.mk (hbox);have n3_:=Aside0.mk ((by rw[hg];exact(below_size (bS GE207.out)):w.heap.size≤gb208));have n4_:=Aside0.mk ((by rw[hg];exact(below_size (bS GE207.out)):w.heap.size≤gb208));have n5_:=Aside0.mk ((bN BK207.out hg:gb207≠gb208));have n6_:=Aside0.mk ((bO BK207.out hg:gb208≠gb207));clear BK207 HB;have BK207:=n0_;have HB:=n1_;have BK208:=n2_;have GW208:=n3_;have GE208:=n4_;have NB207_208:=n5_;have NB208_207:=n6_;clear n0_ n1_ n2_ n3_ n4_ n5_ n6_;clear hb hbox hg;have hnb9:=NB207_208.out;have hnc9:=NB208_207.out;obtain⟨hcz10_0,hcz10_1,hcz10_2⟩:=cC3 BK207.out;obtain⟨hfz10_0,hfz10_1,hfz10_2⟩:=cF3 BK207.out)|((with_reducible refine gate_callee (f:=74) rfl ?_);refine goesA (some 8) rfl rfl Try.func74 #[.agg #[.int .i64 a0_0,.slice A0_1 l0_1.length c0_1,.int .i64 a0_2]] rfl ?_;(with_reducible refine(spec_GoodTurns.calls k a0_0 _ _ l0_1 a0_2 true _ ?side1 ?side2 A2.out).mono ?_);(case side1=>exact bC HR0_1.out);(case side2=>exact HC0_1.out);rintro e w11 ⟨rfl,hb⟩;refine⟨_,rfl,?_⟩;have n0_:=Aside0.mk (bM BK207.out hb);have n1_:=Aside0.mk (bM BK208.out hb);have n2_:=Aside0.mk (below_step (bS2 GE207.out GE208.out) hb);clear BK207 BK208 HB;have BK207:=n0_;have BK208:=n1_;have HB:=n2_;clear n0_ n1_ n2_;(try clear hb);(try clear hb2);(try clear hk);(try clear hi);obtain⟨hcz12_0,hcz12_1,hcz12_2⟩:=cC3 BK207.out;obtain⟨hfz12_0,hfz12_1,hfz12_2⟩:=cF3 BK207.out)|((with_reducible refine gate_callee (f:=117) rfl ?_);refine goesA (some 13) rfl rfl Try.func117 #[.agg #[.int .i64 a0_0,.slice A0_1 l0_1.length c0_1,.int .i64 a0_2]] rfl ?_;(with_reducible refine(spec_l14Round.calls k a0_0 _ _ l0_1 a0_2 t210 t211 t214 t215 _ ?side1 ?side2 A4.out).mono ?_);(case side1=>exact bC HR0_1.out);(case side2=>exact HC0_1.out);rintro e w13 ⟨v212,v216,rfl,ho0,ho1,hb⟩;refine⟨_,rfl,?_⟩;have n0_:=Aside0.mk (Kd.S_lower ho0 (below_size (bS2 GE207.out GE208.out)));have n1_:=Aside0.mk (Kd.R_lower ho1 (below_size (bS2 GE207.out GE208.out)));have n2_:=Aside0.mk (bM BK207.out hb);have n3_:=Aside0.mk (bM BK208.out hb);have n4_:=Aside0.mk (below_step (bS2 GE207.out GE208.out) hb);clear BK207 BK208 HB;have HO213:=n0_;have HO217:=n1_;have BK207:=n2_;have BK208:=n3_;have HB:=n4_;clear n0_ n1_ n2_ n3_ n4_;(try clear hb);(try clear hb2);(try clear hk);(try clear hi);(try clear ho0);(try clear ho1))|((with_reducible refine gate_dst (N:=5) rfl ?_);refine box_event ?hg (N:=5) ?hd (cs:=#[.int .i64 0,.slice none 0 0,.int .i64 0]) (t:=28) ?hr ?_;(case hd=>rfl);(case hg=>rfl);(case hr=>first|(go_simp;done)|(go_simp;rfl));intro gb218 hg w14 hbox hb;have n0_:=Aside0.mk (Kd.S_below (by(with_reducible repeat (first|apply Kd.S_alloc|apply Kd.S_drewN|apply Kd.S_drew));exact HO213.out) hb);have n1_:=Aside0.mk (Kd.R_below (bK HO217.out) hb);have n2_:=Aside0.mk (bM BK207.out hb);have n3_:=Aside0.mk (bM BK208.out hb);have n4_:=Aside0.mk (below_step (bS2 GE207.out GE208.out) hb);have n5_:=Aside0.mk (hbox);have n6_:=Aside0.mk ((by rw[hg];exact(below_size (bS2 GE207.out GE208.out)):w.heap.size≤gb218));have n7_:=Aside0.mk ((by rw[hg];exact(below_size (bS2 GE207.out GE208.out)):w.heap.size≤gb218));have n8_:=Aside0.mk ((bN BK207.out hg:gb207≠gb218));have n9_:=Aside0.mk ((bO BK207.out hg:gb218≠gb207));have n10_:=Aside0.mk ((bN BK208.out hg:gb208≠gb218));have n11_:=Aside0.mk ((bO BK208.out hg:gb218≠gb208));clear HO213 HO217 BK207 BK208 HB;have HO213:=n0_;have HO217:=n1_;have BK207:=n2_;have BK208:=n3_;have HB:=n4_;have BK218:=n5_;have GW218:=n6_;have GE218:=n7_;have NB207_218:=n8_;have NB218_207:=n9_;have NB208_218:=n10_;have NB218_208:=n11_;clear n0_ n1_ n2_ n3_ n4_ n5_ n6_ n7_ n8_ n9_ n10_ n11_;clear hb hbox hg;have hnb15:=NB218_207.out;have hnc15:=NB207_218.out;have hnb16:=NB218_208.out;have hnc16:=NB208_218.out;obtain⟨hcz17_0,hcz17_1,hcz17_2⟩:=cC3 BK218.out;obtain⟨hfz17_0,hfz17_1,hfz17_2⟩:=cF3 BK218.out;obtain⟨Ao18,co18,eo18⟩:=Kd.S_slice HO213.out;subst eo18)|((with_reducible refine gate_callee (f:=74) rfl ?_);refine goesA (some 17) rfl rfl Try.func74 #[.agg #[.int .i64 t210,.slice Ao18 t211.length co18,.int .i64 t214]] rfl ?_;(with_reducible refine(spec_GoodTurns.calls k t210 _ _ t211 t214 true _ ?side1 ?side2 A5.out).mono ?_);(case side1=>refine(Kd.S_reads' (e:=116) (base:=w.heap.size) (ok:=fun k_=>some k_≠(v216:Value).ownBlock) (n:=t211.length) (c:=co18) ?_).2.2;exact(by(with_reducible repeat (first|apply Kd.S_alloc|apply Kd.S_drewN|apply Kd.S_drew));exact(Kd.S_mono (Kd.S_far (p:=⟨gb218,2,none⟩) (Kd.S_far (p:=⟨gb218,1,none⟩) (Kd.S_far (p:=⟨gb218,0,none⟩) (Kd.S_types HO213.out BK218.out (by decide)) (fun _ hk=>hk.2) (.int .i64 t210)) (fun _ hk=>hk.2) (.slice Ao18 t211.length co18)) (fun _ hk=>hk.2) (.int .i64 t214)) (fun _ h_=>h_.1))));(case side2=>exact(Kd.S_reads' HO213.out).2.1);rintro e w19 ⟨rfl,hb⟩;refine⟨_,rfl,?_⟩;have n0_:=Aside0.mk (Kd.S_below (by(with_reducible repeat (first|apply Kd.S_alloc|apply Kd.S_drewN|apply Kd.S_drew));exact(Kd.S_mono (Kd.S_far (p:=⟨gb218,2,none⟩) (Kd.S_far (p:=⟨gb218,1,none⟩) (Kd.S_far (p:=⟨gb218,0,none⟩) (Kd.S_types HO213.out BK218.out (by decide)) (fun _ hk=>hk.2) (.int .i64 t210)) (fun _ hk=>hk.2) (.slice Ao18 t211.length co18)) (fun _ hk=>hk.2) (.int .i64 t214)) (fun _ h_=>h_.1))) hb);have n1_:=Aside0.mk (Kd.R_below (by(with_reducible repeat (first|apply Kd.R_alloc|apply Kd.R_drewN|apply Kd.R_drew));exact(Kd.R_mono (Kd.R_far (p:=⟨gb218,2,none⟩) (Kd.R_far (p:=⟨gb218,1,none⟩) (Kd.R_far (p:=⟨gb218,0,none⟩) (Kd.R_types HO217.out BK218.out (by decide)) (fun _ hk=>hk.2) (.int .i64 t210)) (fun _ hk=>hk.2) (.slice Ao18 t211.length co18)) (fun _ hk=>hk.2) (.int .i64 t214)) (fun _ h_=>h_.1))) hb);have n2_:=Aside0.mk (blk_below (g:=gb207) (o:=.cells #[.int .i64 a0_0,.slice A0_1 l0_1.length c0_1,.int .i64 a0_2] 28 (0,0)) (by(with_reducible repeat (first|refine blk_drewN ?_ _|refine blk_drew ?_|refine blk_alloc ?_ _));refine blk_far ?_ NB207_218.out _;(with_reducible repeat (first|refine blk_drewN ?_ _|refine blk_drew ?_|refine blk_alloc ?_ _));refine blk_far ?_ NB207_218.out _;(with_reducible repeat (first|refine blk_drewN ?_ _|refine blk_drew ?_|refine blk_alloc ?_ _));refine blk_far ?_ NB207_218.out _;(with_reducible repeat (first|refine blk_drewN ?_ _|refine blk_drew ?_|refine blk_alloc ?_ _));exact BK207.out) hb);have n3_:=Aside0.mk (blk_below (g:=gb208) (o:=.cells #[.int .i64 0,.slice none 0 0,.int .i64 0] 28 (0,0)) (by(with_reducible repeat (first|refine blk_drewN ?_ _|refine blk_drew ?_|refine blk_alloc ?_ _));refine blk_far ?_ NB208_218.out _;(with_reducible repeat (first|refine blk_drewN ?_ _|refine blk_drew ?_|refine blk_alloc ?_ _));refine blk_far ?_ NB208_218.out _;(with_reducible repeat (first|refine blk_drewN ?_ _|refine blk_drew ?_|refine blk_alloc ?_ _));refine blk_far ?_ NB208_218.out _;(with_reducible repeat (first|refine blk_drewN ?_ _|refine blk_drew ?_|refine blk_alloc ?_ _));exact BK208.out) hb);have n4_:=Aside0.mk (blk_below (g:=gb218) (o:=.cells #[.int .i64 t210,.slice Ao18 t211.length co18,.int .i64 t214] 28 (0,0)) (by(with_reducible repeat (first|refine blk_drewN ?_ _|refine blk_drew ?_|refine blk_alloc ?_ _));refine blk_put (cs:=#[.int .i64 t210,.slice Ao18 t211.length co18,.int .i64 0]) ?_ 2 _ rfl;(with_reducible repeat (first|refine blk_drewN ?_ _|refine blk_drew ?_|refine blk_alloc ?_ _));refine blk_put (cs:=#[.int .i64 t210,.slice none 0 0,.int .i64 0]) ?_ 1 _ rfl;(with_reducible repeat (first|refine blk_drewN ?_ _|refine blk_drew ?_|refine blk_alloc ?_ _));refine blk_put (cs:=#[.int .i64 0,.slice none 0 0,.int .i64 0]) ?_ 0 _ rfl;(with_reducible repeat (first|refine blk_drewN ?_ _|refine blk_drew ?_|refine blk_alloc ?_ _));exact BK218.out) hb);have n5_:=Aside0.mk (below_step (bS3 GE207.out GE208.out GE218.out) hb);clear HO213 HO217 BK207 BK208 BK218 HB;have HO213:=n0_;have HO217:=n1_;have BK207:=n2_;have BK208:=n3_;have BK218:=n4_;have HB:=n5_;clear n0_ n1_ n2_ n3_ n4_ n5_;(try clear hb);(try clear hb2);(try clear hk);(try clear hi);obtain⟨hcz20_0,hcz20_1,hcz20_2⟩:=cC3 BK218.out;obtain⟨hfz20_0,hfz20_1,hfz20_2⟩:=cF3 BK218.out;obtain⟨hcz21_0,hcz21_1,hcz21_2⟩:=cC3 BK208.out;obtain⟨hfz21_0,hfz21_1,hfz21_2⟩:=cF3 BK208.out))
   refine bodyPost_ret (results_ctt rfl _ _ gb208 28 #[.int .i64 t210,.slice Ao18 t211.length co18,.int .i64 t214] (0,0) _ rfl (by(with_reducible repeat (first|refine blk_drewN ?_ _|refine blk_drew ?_|refine blk_alloc ?_ _));refine blk_put (cs:=#[.int .i64 t210,.slice Ao18 t211.length co18,.int .i64 0]) ?_ 2 _ rfl;(with_reducible repeat (first|refine blk_drewN ?_ _|refine blk_drew ?_|refine blk_alloc ?_ _));refine blk_put (cs:=#[.int .i64 t210,.slice none 0 0,.int .i64 0]) ?_ 1 _ rfl;(with_reducible repeat (first|refine blk_drewN ?_ _|refine blk_drew ?_|refine blk_alloc ?_ _));refine blk_put (cs:=#[.int .i64 0,.slice none 0 0,.int .i64 0]) ?_ 0 _ rfl;(with_reducible repeat (first|refine blk_drewN ?_ _|refine blk_drew ?_|refine blk_alloc ?_ _));exact BK208.out) Try.underlying28 rfl (by kernel_rfl)) rfl ?_
   exact⟨_,_,by first|rfl|(simp[errW_none,errW_some]<;>rfl)|(simp[*,errW_none,errW_some]<;>rfl),by(with_reducible repeat (first|apply Kd.S_alloc|apply Kd.S_drewN|apply Kd.S_drew));exact Kd.S_mono (Kd.S_far (p:=⟨gb208,2,none⟩) (Kd.S_far (p:=⟨gb208,1,none⟩) (Kd.S_far (p:=⟨gb208,0,none⟩) (Kd.S_types HO213.out BK208.out (by decide)) (fun _ hk=>hk.2) (.int .i64 t210)) (fun _ hk=>hk.2) (.slice Ao18 t211.length co18)) (fun _ hk=>hk.2) (.int .i64 t214)) (fun _ hk=>hk.1),by(with_reducible repeat (first|apply Kd.R_alloc|apply Kd.R_drewN|apply Kd.R_drew));exact Kd.R_mono (Kd.R_far (p:=⟨gb208,2,none⟩) (Kd.R_far (p:=⟨gb208,1,none⟩) (Kd.R_far (p:=⟨gb208,0,none⟩) (Kd.R_types HO217.out BK208.out (by decide)) (fun _ hk=>hk.2) (.int .i64 t210)) (fun _ hk=>hk.2) (.slice Ao18 t211.length co18)) (fun _ hk=>hk.2) (.int .i64 t214)) (fun _ hk=>trivial),bS3 GE207.out GE208.out GE218.out⟩
  ·replace c6:=Bool.eq_false_iff.mpr c6
   subst c6
   have H1:(some (0,([]:List (S116)),0,([]:List Int),false))=some (r1,r2,r3,r4,r5):=by rw[if_neg (show ¬ (false=true) by decide)] at H;exact H
   clear H
   have H:=H1
   clear H1
   simp only[Option.some.injEq,Prod.mk.injEq] at H
   obtain⟨rfl,rfl,rfl,rfl,rfl⟩:=H
   go_enter Try.func49,Try.ntmps49
   go_wp2_with (first|((with_reducible refine gate_dst (N:=1) rfl ?_);refine box_event ?hg (N:=1) ?hd (cs:=#[.int .i64 a0_0,.slice A0_1 l0_1.length c0_1,.int .i64 a0_2]) (t:=28) ?hr ?_;(case hd=>rfl);(case hg=>rfl);(case hr=>first|(go_simp;done)|(go_simp;rfl));intro gb207 hg w22 hbox hb;have n0_:=Aside0.mk (below_step (bB) hb);have n1_:=Aside0.mk (hbox);have n2_:=Aside0.mk ((bG:w.heap.size≤gb207));have n3_:=Aside0.mk ((bG:w.heap.size≤gb207));clear HB;have HB:=n0_;have BK207:=n1_;have GW207:=n2_;have GE207:=n3_;clear n0_ n1_ n2_ n3_;clear hb hbox hg)|((with_reducible refine gate_dst (N:=2) rfl ?_);refine box_event ?hg (N:=2) ?hd (cs:=#[.int .i64 0,.slice none 0 0,.int .i64 0]) (t:=28) ?hr ?_;(case hd=>rfl);(case hg=>rfl);(case hr=>first|(go_simp;done)|(go_simp;rfl));intro gb208 hg w23 hbox hb;have n0_:=Aside0.mk (bM BK207.out hb);have n1_:=Aside0.mk (below_step (bS GE207.out) hb);have n2_:=Aside0.mk (hbox);have n3_:=Aside0.mk ((by rw[hg];exact(below_size (bS GE207.out)):w.heap.size≤gb208));have n4_:=Aside0.mk ((by rw[hg];exact(below_size (bS GE207.out)):w.heap.size≤gb208));have n5_:=Aside0.mk ((bN BK207.out hg:gb207≠gb208));have n6_:=Aside0.mk ((bO BK207.out hg:gb208≠gb207));clear BK207 HB;have BK207:=n0_;have HB:=n1_;have BK208:=n2_;have GW208:=n3_;have GE208:=n4_;have NB207_208:=n5_;have NB208_207:=n6_;clear n0_ n1_ n2_ n3_ n4_ n5_ n6_;clear hb hbox hg;have hnb24:=NB207_208.out;have hnc24:=NB208_207.out;obtain⟨hcz25_0,hcz25_1,hcz25_2⟩:=cC3 BK207.out;obtain⟨hfz25_0,hfz25_1,hfz25_2⟩:=cF3 BK207.out)|((with_reducible refine gate_callee (f:=74) rfl ?_);refine goesA (some 8) rfl rfl Try.func74 #[.agg #[.int .i64 a0_0,.slice A0_1 l0_1.length c0_1,.int .i64 a0_2]] rfl ?_;(with_reducible refine(spec_GoodTurns.calls k a0_0 _ _ l0_1 a0_2 true _ ?side1 ?side2 A2.out).mono ?_);(case side1=>exact bC HR0_1.out);(case side2=>exact HC0_1.out);rintro e w26 ⟨rfl,hb⟩;refine⟨_,rfl,?_⟩;have n0_:=Aside0.mk (bM BK207.out hb);have n1_:=Aside0.mk (bM BK208.out hb);have n2_:=Aside0.mk (below_step (bS2 GE207.out GE208.out) hb);clear BK207 BK208 HB;have BK207:=n0_;have BK208:=n1_;have HB:=n2_;clear n0_ n1_ n2_;(try clear hb);(try clear hb2);(try clear hk);(try clear hi);obtain⟨hcz27_0,hcz27_1,hcz27_2⟩:=cC3 BK207.out;obtain⟨hfz27_0,hfz27_1,hfz27_2⟩:=cF3 BK207.out)|((with_reducible refine gate_callee (f:=117) rfl ?_);refine goesA (some 13) rfl rfl Try.func117 #[.agg #[.int .i64 a0_0,.slice A0_1 l0_1.length c0_1,.int .i64 a0_2]] rfl ?_;(with_reducible refine(spec_l14Round.calls k a0_0 _ _ l0_1 a0_2 t210 t211 t214 t215 _ ?side1 ?side2 A4.out).mono ?_);(case side1=>exact bC HR0_1.out);(case side2=>exact HC0_1.out);rintro e w28 ⟨v212,v216,rfl,ho0,ho1,hb⟩;refine⟨_,rfl,?_⟩;have n0_:=Aside0.mk (Kd.S_lower ho0 (below_size (bS2 GE207.out GE208.out)));have n1_:=Aside0.mk (Kd.R_lower ho1 (below_size (bS2 GE207.out GE208.out)));have n2_:=Aside0.mk (bM BK207.out hb);have n3_:=Aside0.mk (bM BK208.out hb);have n4_:=Aside0.mk (below_step (bS2 GE207.out GE208.out) hb);clear BK207 BK208 HB;have HO213:=n0_;have HO217:=n1_;have BK207:=n2_;have BK208:=n3_;have HB:=n4_;clear n0_ n1_ n2_ n3_ n4_;(try clear hb);(try clear hb2);(try clear hk);(try clear hi);(try clear ho0);(try clear ho1))|((with_reducible refine gate_dst (N:=5) rfl ?_);refine box_event ?hg (N:=5) ?hd (cs:=#[.int .i64 0,.slice none 0 0,.int .i64 0]) (t:=28) ?hr ?_;(case hd=>rfl);(case hg=>rfl);(case hr=>first|(go_simp;done)|(go_simp;rfl));intro gb218 hg w29 hbox hb;have n0_:=Aside0.mk (Kd.S_below (by(with_reducible repeat (first|apply Kd.S_alloc|apply Kd.S_drewN|apply Kd.S_drew));exact HO213.out) hb);have n1_:=Aside0.mk (Kd.R_below (bK HO217.out) hb);have n2_:=Aside0.mk (bM BK207.out hb);have n3_:=Aside0.mk (bM BK208.out hb);have n4_:=Aside0.mk (below_step (bS2 GE207.out GE208.out) hb);have n5_:=Aside0.mk (hbox);have n6_:=Aside0.mk ((by rw[hg];exact(below_size (bS2 GE207.out GE208.out)):w.heap.size≤gb218));have n7_:=Aside0.mk ((by rw[hg];exact(below_size (bS2 GE207.out GE208.out)):w.heap.size≤gb218));have n8_:=Aside0.mk ((bN BK207.out hg:gb207≠gb218));have n9_:=Aside0.mk ((bO BK207.out hg:gb218≠gb207));have n10_:=Aside0.mk ((bN BK208.out hg:gb208≠gb218));have n11_:=Aside0.mk ((bO BK208.out hg:gb218≠gb208));clear HO213 HO217 BK207 BK208 HB;have HO213:=n0_;have HO217:=n1_;have BK207:=n2_;have BK208:=n3_;have HB:=n4_;have BK218:=n5_;have GW218:=n6_;have GE218:=n7_;have NB207_218:=n8_;have NB218_207:=n9_;have NB208_218:=n10_;have NB218_208:=n11_;clear n0_ n1_ n2_ n3_ n4_ n5_ n6_ n7_ n8_ n9_ n10_ n11_;clear hb hbox hg;have hnb30:=NB218_207.out;have hnc30:=NB207_218.out;have hnb31:=NB218_208.out;have hnc31:=NB208_218.out;obtain⟨hcz32_0,hcz32_1,hcz32_2⟩:=cC3 BK218.out;obtain⟨hfz32_0,hfz32_1,hfz32_2⟩:=cF3 BK218.out;obtain⟨Ao33,co33,eo33⟩:=Kd.S_slice HO213.out;subst eo33)|((with_reducible refine gate_callee (f:=74) rfl ?_);refine goesA (some 17) rfl rfl Try.func74 #[.agg #[.int .i64 t210,.slice Ao33 t211.length co33,.int .i64 t214]] rfl ?_;(with_reducible refine(spec_GoodTurns.calls k t210 _ _ t211 t214 false _ ?side1 ?side2 A5.out).mono ?_);(case side1=>refine(Kd.S_reads' (e:=116) (base:=w.heap.size) (ok:=fun k_=>some k_≠(v216:Value).ownBlock) (n:=t211.length) (c:=co33) ?_).2.2;exact(by(with_reducible repeat (first|apply Kd.S_alloc|apply Kd.S_drewN|apply Kd.S_drew));exact(Kd.S_mono (Kd.S_far (p:=⟨gb218,2,none⟩) (Kd.S_far (p:=⟨gb218,1,none⟩) (Kd.S_far (p:=⟨gb218,0,none⟩) (Kd.S_types HO213.out BK218.out (by decide)) (fun _ hk=>hk.2) (.int .i64 t210)) (fun _ hk=>hk.2) (.slice Ao33 t211.length co33)) (fun _ hk=>hk.2) (.int .i64 t214)) (fun _ h_=>h_.1))));(case side2=>exact(Kd.S_reads' HO213.out).2.1);rintro e w34 ⟨rfl,hb⟩;refine⟨_,rfl,?_⟩;have n0_:=Aside0.mk (Kd.S_below (by(with_reducible repeat (first|apply Kd.S_alloc|apply Kd.S_drewN|apply Kd.S_drew));exact(Kd.S_mono (Kd.S_far (p:=⟨gb218,2,none⟩) (Kd.S_far (p:=⟨gb218,1,none⟩) (Kd.S_far (p:=⟨gb218,0,none⟩) (Kd.S_types HO213.out BK218.out (by decide)) (fun _ hk=>hk.2) (.int .i64 t210)) (fun _ hk=>hk.2) (.slice Ao33 t211.length co33)) (fun _ hk=>hk.2) (.int .i64 t214)) (fun _ h_=>h_.1))) hb);have n1_:=Aside0.mk (Kd.R_below (by(with_reducible repeat (first|apply Kd.R_alloc|apply Kd.R_drewN|apply Kd.R_drew));exact(Kd.R_mono (Kd.R_far (p:=⟨gb218,2,none⟩) (Kd.R_far (p:=⟨gb218,1,none⟩) (Kd.R_far (p:=⟨gb218,0,none⟩) (Kd.R_types HO217.out BK218.out (by decide)) (fun _ hk=>hk.2) (.int .i64 t210)) (fun _ hk=>hk.2) (.slice Ao33 t211.length co33)) (fun _ hk=>hk.2) (.int .i64 t214)) (fun _ h_=>h_.1))) hb);have n2_:=Aside0.mk (blk_below (g:=gb207) (o:=.cells #[.int .i64 a0_0,.slice A0_1 l0_1.length c0_1,.int .i64 a0_2] 28 (0,0)) (by(with_reducible repeat (first|refine blk_drewN ?_ _|refine blk_drew ?_|refine blk_alloc ?_ _));refine blk_far ?_ NB207_218.out _;(with_reducible repeat (first|refine blk_drewN ?_ _|refine blk_drew ?_|refine blk_alloc ?_ _));refine blk_far ?_ NB207_218.out _;(with_reducible repeat (first|refine blk_drewN ?_ _|refine blk_drew ?_|refine blk_alloc ?_ _));refine blk_far ?_ NB207_218.out _;(with_reducible repeat (first|refine blk_drewN ?_ _|refine blk_drew ?_|refine blk_alloc ?_ _));exact BK207.out) hb);have n3_:=Aside0.mk (blk_below (g:=gb208) (o:=.cells #[.int .i64 0,.slice none 0 0,.int .i64 0] 28 (0,0)) (by(with_reducible repeat (first|refine blk_drewN ?_ _|refine blk_drew ?_|refine blk_alloc ?_ _));refine blk_far ?_ NB208_218.out _;(with_reducible repeat (first|refine blk_drewN ?_ _|refine blk_drew ?_|refine blk_alloc ?_ _));refine blk_far ?_ NB208_218.out _;(with_reducible repeat (first|refine blk_drewN ?_ _|refine blk_drew ?_|refine blk_alloc ?_ _));refine blk_far ?_ NB208_218.out _;(with_reducible repeat (first|refine blk_drewN ?_ _|refine blk_drew ?_|refine blk_alloc ?_ _));exact BK208.out) hb);have n4_:=Aside0.mk (blk_below (g:=gb218) (o:=.cells #[.int .i64 t210,.slice Ao33 t211.length co33,.int .i64 t214] 28 (0,0)) (by(with_reducible repeat (first|refine blk_drewN ?_ _|refine blk_drew ?_|refine blk_alloc ?_ _));refine blk_put (cs:=#[.int .i64 t210,.slice Ao33 t211.length co33,.int .i64 0]) ?_ 2 _ rfl;(with_reducible repeat (first|refine blk_drewN ?_ _|refine blk_drew ?_|refine blk_alloc ?_ _));refine blk_put (cs:=#[.int .i64 t210,.slice none 0 0,.int .i64 0]) ?_ 1 _ rfl;(with_reducible repeat (first|refine blk_drewN ?_ _|refine blk_drew ?_|refine blk_alloc ?_ _));refine blk_put (cs:=#[.int .i64 0,.slice none 0 0,.int .i64 0]) ?_ 0 _ rfl;(with_reducible repeat (first|refine blk_drewN ?_ _|refine blk_drew ?_|refine blk_alloc ?_ _));exact BK218.out) hb);have n5_:=Aside0.mk (below_step (bS3 GE207.out GE208.out GE218.out) hb);clear HO213 HO217 BK207 BK208 BK218 HB;have HO213:=n0_;have HO217:=n1_;have BK207:=n2_;have BK208:=n3_;have BK218:=n4_;have HB:=n5_;clear n0_ n1_ n2_ n3_ n4_ n5_;(try clear hb);(try clear hb2);(try clear hk);(try clear hi);obtain⟨hcz35_0,hcz35_1,hcz35_2⟩:=cC3 BK208.out;obtain⟨hfz35_0,hfz35_1,hfz35_2⟩:=cF3 BK208.out))
   refine bodyPost_ret (results_ctt rfl _ _ gb208 28 #[.int .i64 0,.slice none 0 0,.int .i64 0] (0,0) _ rfl (by(with_reducible repeat (first|refine blk_drewN ?_ _|refine blk_drew ?_|refine blk_alloc ?_ _));refine blk_put (cs:=#[.int .i64 0,.slice none 0 0,.int .i64 0]) ?_ 2 _ rfl;(with_reducible repeat (first|refine blk_drewN ?_ _|refine blk_drew ?_|refine blk_alloc ?_ _));refine blk_put (cs:=#[.int .i64 0,.slice none 0 0,.int .i64 0]) ?_ 1 _ rfl;(with_reducible repeat (first|refine blk_drewN ?_ _|refine blk_drew ?_|refine blk_alloc ?_ _));refine blk_put (cs:=#[.int .i64 0,.slice none 0 0,.int .i64 0]) ?_ 0 _ rfl;(with_reducible repeat (first|refine blk_drewN ?_ _|refine blk_drew ?_|refine blk_alloc ?_ _));exact BK208.out) Try.underlying28 rfl (by kernel_rfl)) rfl ?_
   exact⟨_,_,by first|rfl|(simp[errW_none,errW_some]<;>rfl)|(simp[*,errW_none,errW_some]<;>rfl),by first|exact Kd.S_nil _ _ _ _ _|exact Kd.N_nil _ _ _ _ _|exact Kd.V_nil _ _ _ _ _|exact Kd.Q_nil _ _ _ _ _|exact Kd.R_nil _ _ _ _ _,by first|exact Kd.R_nil _ _ _ _ _|exact Kd.N_nil _ _ _ _ _|exact Kd.V_nil _ _ _ _ _|exact Kd.Q_nil _ _ _ _ _|exact Kd.S_nil _ _ _ _ _,bS3 GE207.out GE208.out GE218.out⟩
 ·replace c3:=Bool.eq_false_iff.mpr c3
  subst c3
  have H1:(some (0,([]:List (S116)),0,([]:List Int),false))=some (r1,r2,r3,r4,r5):=by rw[if_neg (show ¬ (false=true) by decide)] at H;exact H
  clear H
  have H:=H1
  clear H1
  simp only[Option.some.injEq,Prod.mk.injEq] at H
  obtain⟨rfl,rfl,rfl,rfl,rfl⟩:=H
  go_enter Try.func49,Try.ntmps49
  go_wp2_with (first|((with_reducible refine gate_dst (N:=1) rfl ?_);refine box_event ?hg (N:=1) ?hd (cs:=#[.int .i64 a0_0,.slice A0_1 l0_1.length c0_1,.int .i64 a0_2]) (t:=28) ?hr ?_;(case hd=>rfl);(case hg=>rfl);(case hr=>first|(go_simp;done)|(go_simp;rfl));intro gb207 hg w36 hbox hb;have n0_:=Aside0.mk (below_step (bB) hb);have n1_:=Aside0.mk (hbox);have n2_:=Aside0.mk ((bG:w.heap.size≤gb207));have n3_:=Aside0.mk ((bG:w.heap.size≤gb207));clear HB;have HB:=n0_;have BK207:=n1_;have GW207:=n2_;have GE207:=n3_;clear n0_ n1_ n2_ n3_;clear hb hbox hg)|((with_reducible refine gate_dst (N:=2) rfl ?_);refine box_event ?hg (N:=2) ?hd (cs:=#[.int .i64 0,.slice none 0 0,.int .i64 0]) (t:=28) ?hr ?_;(case hd=>rfl);(case hg=>rfl);(case hr=>first|(go_simp;done)|(go_simp;rfl));intro gb208 hg w37 hbox hb;have n0_:=Aside0.mk (bM BK207.out hb);have n1_:=Aside0.mk (below_step (bS GE207.out) hb);have n2_:=Aside0.mk (hbox);have n3_:=Aside0.mk ((by rw[hg];exact(below_size (bS GE207.out)):w.heap.size≤gb208));have n4_:=Aside0.mk ((by rw[hg];exact(below_size (bS GE207.out)):w.heap.size≤gb208));have n5_:=Aside0.mk ((bN BK207.out hg:gb207≠gb208));have n6_:=Aside0.mk ((bO BK207.out hg:gb208≠gb207));clear BK207 HB;have BK207:=n0_;have HB:=n1_;have BK208:=n2_;have GW208:=n3_;have GE208:=n4_;have NB207_208:=n5_;have NB208_207:=n6_;clear n0_ n1_ n2_ n3_ n4_ n5_ n6_;clear hb hbox hg;have hnb38:=NB207_208.out;have hnc38:=NB208_207.out;obtain⟨hcz39_0,hcz39_1,hcz39_2⟩:=cC3 BK207.out;obtain⟨hfz39_0,hfz39_1,hfz39_2⟩:=cF3 BK207.out)|((with_reducible refine gate_callee (f:=74) rfl ?_);refine goesA (some 8) rfl rfl Try.func74 #[.agg #[.int .i64 a0_0,.slice A0_1 l0_1.length c0_1,.int .i64 a0_2]] rfl ?_;(with_reducible refine(spec_GoodTurns.calls k a0_0 _ _ l0_1 a0_2 false _ ?side1 ?side2 A2.out).mono ?_);(case side1=>exact bC HR0_1.out);(case side2=>exact HC0_1.out);rintro e w40 ⟨rfl,hb⟩;refine⟨_,rfl,?_⟩;have n0_:=Aside0.mk (bM BK207.out hb);have n1_:=Aside0.mk (bM BK208.out hb);have n2_:=Aside0.mk (below_step (bS2 GE207.out GE208.out) hb);clear BK207 BK208 HB;have BK207:=n0_;have BK208:=n1_;have HB:=n2_;clear n0_ n1_ n2_;(try clear hb);(try clear hb2);(try clear hk);(try clear hi);obtain⟨hcz41_0,hcz41_1,hcz41_2⟩:=cC3 BK208.out;obtain⟨hfz41_0,hfz41_1,hfz41_2⟩:=cF3 BK208.out))
  refine bodyPost_ret (results_ctt rfl _ _ gb208 28 #[.int .i64 0,.slice none 0 0,.int .i64 0] (0,0) _ rfl (by(with_reducible repeat (first|refine blk_drewN ?_ _|refine blk_drew ?_|refine blk_alloc ?_ _));refine blk_put (cs:=#[.int .i64 0,.slice none 0 0,.int .i64 0]) ?_ 2 _ rfl;(with_reducible repeat (first|refine blk_drewN ?_ _|refine blk_drew ?_|refine blk_alloc ?_ _));refine blk_put (cs:=#[.int .i64 0,.slice none 0 0,.int .i64 0]) ?_ 1 _ rfl;(with_reducible repeat (first|refine blk_drewN ?_ _|refine blk_drew ?_|refine blk_alloc ?_ _));refine blk_put (cs:=#[.int .i64 0,.slice none 0 0,.int .i64 0]) ?_ 0 _ rfl;(with_reducible repeat (first|refine blk_drewN ?_ _|refine blk_drew ?_|refine blk_alloc ?_ _));exact BK208.out) Try.underlying28 rfl (by kernel_rfl)) rfl ?_
  exact⟨_,_,by first|rfl|(simp[errW_none,errW_some]<;>rfl)|(simp[*,errW_none,errW_some]<;>rfl),by first|exact Kd.S_nil _ _ _ _ _|exact Kd.N_nil _ _ _ _ _|exact Kd.V_nil _ _ _ _ _|exact Kd.Q_nil _ _ _ _ _|exact Kd.R_nil _ _ _ _ _,by first|exact Kd.R_nil _ _ _ _ _|exact Kd.N_nil _ _ _ _ _|exact Kd.V_nil _ _ _ _ _|exact Kd.Q_nil _ _ _ _ _|exact Kd.S_nil _ _ _ _ _,bS2 GE207.out GE208.out⟩

/-! ### spec_RunRounds: function 55 -/
mutual
def spec_RunRounds.j0:Nat→Int→Bool→Int→List (S116)→Int→Option (Int × (List (S116)) × Int × Int × Bool)
 | 0,_,_,_,_,_=>none
 | k+1,x1,x18,x221000,x221001,x221002=>if x18=true then (some (0,([]:List (S116)),0,0,false)) else ((spec_l14Own.f k x221000 x221001 x221002).bind fun bt224=>(spec_RunRounds.l0 k x1 0 bt224.1 bt224.2.1 bt224.2.2))
def spec_RunRounds.l0:Nat→Int→Int→Int→List (S116)→Int→Option (Int × (List (S116)) × Int × Int × Bool)
 | 0,_,_,_,_,_=>none
 | k+1,x1,x7,x221000,x221001,x221002=>if x1 > 0 then ((spec_NextRound.f k x221000 x221001 x221002).bind fun bt229=>(if bt229.2.2.2.2=true then (spec_RunRounds.l0 k (wrap64 (x1 - 1)) (wrap64 (x7+(bt229.2.2.2.1.length:Int))) bt229.1 bt229.2.1 bt229.2.2.1) else (some (0,([]:List (S116)),0,0,false)))) else (some (x221000,x221001,x221002,x7,true))
end
def spec_RunRounds.f (k:Nat) (a0_0:Int) (l0_1:List (S116)) (a0_2:Int) (a1:Int):Option (Int × (List (S116)) × Int × Int × Bool):=(spec_GoodTurns.f k a0_0 l0_1 a0_2).bind fun t222=>(if t222=true then ((spec_l1In.f a1 0 200).bind fun t223=>(spec_RunRounds.j0 k a1 (!t223) a0_0 l0_1 a0_2)) else (spec_RunRounds.j0 k a1 true a0_0 l0_1 a0_2))
theorem spec_RunRounds.mono_l : ∀ k,(∀ y0 y1 y2 y3 y4,LeO (spec_RunRounds.j0 k y0 y1 y2 y3 y4) (spec_RunRounds.j0 (k+1) y0 y1 y2 y3 y4))∧(∀ y0 y1 y2 y3 y4,LeO (spec_RunRounds.l0 k y0 y1 y2 y3 y4) (spec_RunRounds.l0 (k+1) y0 y1 y2 y3 y4))
 | 0=>⟨fun _ _ _ _ _ r h=>by simp[spec_RunRounds.j0] at h,fun _ _ _ _ _ r h=>by simp[spec_RunRounds.l0] at h⟩
 | k+1=>by
  obtain⟨ih0,ih1⟩:=spec_RunRounds.mono_l k
  refine⟨?_,?_⟩
  ·intro y0 y1 y2 y3 y4
   unfold spec_RunRounds.j0
   repeat' first
   | (with_reducible exact ih0 _ _ _ _ _)
   | (with_reducible exact ih1 _ _ _ _ _)
   | (with_reducible exact spec_GoodTurns.mono _ _ _ _)
   | (with_reducible exact spec_NextRound.mono _ _ _ _)
   | (with_reducible exact spec_l14Own.mono _ _ _ _)
   | (with_reducible exact LeO.refl _)
   | (with_reducible exact LeO.none _)
   | (with_reducible refine LeO.ite ?_ ?_)
   | (with_reducible refine LeO.bind ?_ (fun _ => ?_))
   | exact ih0 _ _ _ _ _
   | exact ih1 _ _ _ _ _
   | exact spec_GoodTurns.mono _ _ _ _
   | exact spec_NextRound.mono _ _ _ _
   | exact spec_l14Own.mono _ _ _ _
   | exact LeO.none _
   | refine LeO.ite ?_ ?_
   | refine LeO.bind ?_ (fun _ => ?_)
  ·intro y0 y1 y2 y3 y4
   unfold spec_RunRounds.l0
   repeat' first
   | (with_reducible exact ih0 _ _ _ _ _)
   | (with_reducible exact ih1 _ _ _ _ _)
   | (with_reducible exact spec_GoodTurns.mono _ _ _ _)
   | (with_reducible exact spec_NextRound.mono _ _ _ _)
   | (with_reducible exact spec_l14Own.mono _ _ _ _)
   | (with_reducible exact LeO.refl _)
   | (with_reducible exact LeO.none _)
   | (with_reducible refine LeO.ite ?_ ?_)
   | (with_reducible refine LeO.bind ?_ (fun _ => ?_))
   | exact ih0 _ _ _ _ _
   | exact ih1 _ _ _ _ _
   | exact spec_GoodTurns.mono _ _ _ _
   | exact spec_NextRound.mono _ _ _ _
   | exact spec_l14Own.mono _ _ _ _
   | exact LeO.none _
   | refine LeO.ite ?_ ?_
   | refine LeO.bind ?_ (fun _ => ?_)
theorem spec_RunRounds.mono : ∀ a0 a1 a2 a3 k,LeO (spec_RunRounds.f k a0 a1 a2 a3) (spec_RunRounds.f (k+1) a0 a1 a2 a3):=by
 intro a0 a1 a2 a3 k
 obtain⟨ih0,ih1⟩:=spec_RunRounds.mono_l k
 unfold spec_RunRounds.f
 repeat' first
  | (with_reducible exact ih0 _ _ _ _ _)
  | (with_reducible exact ih1 _ _ _ _ _)
  | (with_reducible exact spec_GoodTurns.mono _ _ _ _)
  | (with_reducible exact spec_NextRound.mono _ _ _ _)
  | (with_reducible exact spec_l14Own.mono _ _ _ _)
  | (with_reducible exact LeO.refl _)
  | (with_reducible exact LeO.none _)
  | (with_reducible refine LeO.ite ?_ ?_)
  | (with_reducible refine LeO.bind ?_ (fun _ => ?_))
  | exact ih0 _ _ _ _ _
  | exact ih1 _ _ _ _ _
  | exact spec_GoodTurns.mono _ _ _ _
  | exact spec_NextRound.mono _ _ _ _
  | exact spec_l14Own.mono _ _ _ _
  | exact LeO.none _
  | refine LeO.ite ?_ ?_
  | refine LeO.bind ?_ (fun _ => ?_)
set_option maxHeartbeats 8000000 in
set_option maxRecDepth 100000 in
theorem spec_RunRounds.calls (k:Nat) (a0_0:Int) (A0_1:Option Addr) (c0_1:Nat) (l0_1:List (S116)) (a0_2:Int) (a1:Int) (r1:Int) (r2:List (S116)) (r3:Int) (r4:Int) (r5:Bool) (w:World) (hr0_1:Kd.C k116 w A0_1 l0_1.length l0_1) (hc0_1:l0_1.length≤c0_1) (h:spec_RunRounds.f k a0_0 l0_1 a0_2 a1=some (r1,r2,r3,r4,r5)) :
  Calls Try.prog 55 #[.agg #[.int .i64 a0_0,.slice A0_1 l0_1.length c0_1,.int .i64 a0_2],.int .i64 a1] w fun e w' => ∃ v1_:Value,e=.returned (.tuple #[.agg #[.int .i64 r1,v1_,.int .i64 r3],.int .i64 r4,.bool r5])∧Kd.S k116 116 w' w.heap.size (fun _=>True) v1_ r2∧Below w.heap.size w w':=by
 have hu28:=Try.underlying28
 have HR0_1:=Aside0.mk hr0_1
 have HC0_1:=Aside0.mk hc0_1
 clear hr0_1 hc0_1
 have HB:=Aside0.mk (Below.refl w.heap.size w)
 have H:((spec_GoodTurns.f k a0_0 l0_1 a0_2).bind fun t222=>(if t222=true then ((spec_l1In.f a1 0 200).bind fun t223=>(spec_RunRounds.j0 k a1 (!t223) a0_0 l0_1 a0_2)) else (spec_RunRounds.j0 k a1 true a0_0 l0_1 a0_2)))=some (r1,r2,r3,r4,r5):=h
 clear h
 have HC3:=Aside0.mk H
 clear H
 go_enter Try.func55,Try.ntmps55
 go_upto_region 1 with (first|((with_reducible refine gate_dst (N:=2) rfl ?_);refine box_event ?hg (N:=2) ?hd (cs:=#[.int .i64 a0_0,.slice A0_1 l0_1.length c0_1,.int .i64 a0_2]) (t:=28) ?hr ?_;(case hd=>rfl);(case hg=>rfl);(case hr=>first|(go_simp;done)|(go_simp;rfl));intro gb220 hg w4 hbox hb;have n0_:=Aside0.mk (below_step (bB) hb);have n1_:=Aside0.mk (hbox);have n2_:=Aside0.mk ((bG:w.heap.size≤gb220));have n3_:=Aside0.mk ((bG:w.heap.size≤gb220));clear HB;have HB:=n0_;have BK220:=n1_;have GW220:=n2_;have GE220:=n3_;clear n0_ n1_ n2_ n3_;clear hb hbox hg)|((with_reducible refine gate_dst (N:=4) rfl ?_);refine box_event ?hg (N:=4) ?hd (cs:=#[.int .i64 0,.slice none 0 0,.int .i64 0]) (t:=28) ?hr ?_;(case hd=>rfl);(case hg=>rfl);(case hr=>first|(go_simp;done)|(go_simp;rfl));intro gb221 hg w5 hbox hb;have n0_:=Aside0.mk (bM BK220.out hb);have n1_:=Aside0.mk (below_step (bS GE220.out) hb);have n2_:=Aside0.mk (hbox);have n3_:=Aside0.mk ((by rw[hg];exact(below_size (bS GE220.out)):w.heap.size≤gb221));have n4_:=Aside0.mk ((by rw[hg];exact(below_size (bS GE220.out)):w.heap.size≤gb221));have n5_:=Aside0.mk ((bN BK220.out hg:gb220≠gb221));have n6_:=Aside0.mk ((bO BK220.out hg:gb221≠gb220));clear BK220 HB;have BK220:=n0_;have HB:=n1_;have BK221:=n2_;have GW221:=n3_;have GE221:=n4_;have NB220_221:=n5_;have NB221_220:=n6_;clear n0_ n1_ n2_ n3_ n4_ n5_ n6_;clear hb hbox hg))
 (try simp only[Act.put,List.setIfInBounds_toArray,List.set_cons_zero,List.set_cons_succ])
 go_cut [18] (fun v18 wc => ∃ (kq:Nat) (x18_2:Bool),v18=.bool x18_2∧Aside0 (spec_RunRounds.j0 kq a1 x18_2 a0_0 l0_1 a0_2=some (r1,r2,r3,r4,r5))∧Aside0 (kq≤k)∧Aside0 (wc.heap[gb220]?=some (.cells #[.int .i64 a0_0,(.slice A0_1 l0_1.length c0_1),.int .i64 a0_2] 28 (0,0)))∧Aside0 (wc.heap[gb221]?=some (.cells #[.int .i64 0,(.slice none 0 0),.int .i64 0] 28 (0,0)))∧Aside0 (Below w.heap.size w wc))
 case first =>
  have H:=HC3.out
  clear HC3
  replace H:=Option.bind_eq_some_iff.mp H
  obtain⟨t222,A60,H⟩:=H
  replace H:(if t222=true then ((spec_l1In.f a1 0 200).bind fun t223=>(spec_RunRounds.j0 k a1 (!t223) a0_0 l0_1 a0_2)) else (spec_RunRounds.j0 k a1 true a0_0 l0_1 a0_2))=some (r1,r2,r3,r4,r5):=H
  have A6:=Aside0.mk A60
  clear A60
  by_cases c7:t222=true
  ·subst c7
   have H1:((spec_l1In.f a1 0 200).bind fun t223=>(spec_RunRounds.j0 k a1 (!t223) a0_0 l0_1 a0_2))=some (r1,r2,r3,r4,r5):=by rw[if_pos rfl] at H;exact H
   clear H
   have H:=H1
   clear H1
   replace H:=Option.bind_eq_some_iff.mp H
   obtain⟨t223,A80,H⟩:=H
   replace H:(spec_RunRounds.j0 k a1 (!t223) a0_0 l0_1 a0_2)=some (r1,r2,r3,r4,r5):=H
   have A8:=Aside0.mk A80
   clear A80
   have H':=Aside0.mk H
   clear H
   have hnb9:=NB220_221.out
   have hnc9:=NB221_220.out
   obtain⟨hcz10_0,hcz10_1,hcz10_2⟩:=cC3 BK220.out
   obtain⟨hfz10_0,hfz10_1,hfz10_2⟩:=cF3 BK220.out
   go_wp2_with (first|((with_reducible refine gate_callee (f:=74) rfl ?_);refine goesA (some 12) rfl rfl Try.func74 #[.agg #[.int .i64 a0_0,.slice A0_1 l0_1.length c0_1,.int .i64 a0_2]] rfl ?_;(with_reducible refine(spec_GoodTurns.calls k a0_0 _ _ l0_1 a0_2 true _ ?side1 ?side2 A6.out).mono ?_);(case side1=>exact bC HR0_1.out);(case side2=>exact HC0_1.out);rintro e w11 ⟨rfl,hb⟩;refine⟨_,rfl,?_⟩;have n0_:=Aside0.mk (bM BK220.out hb);have n1_:=Aside0.mk (bM BK221.out hb);have n2_:=Aside0.mk (below_step (bS2 GE220.out GE221.out) hb);clear BK220 BK221 HB;have BK220:=n0_;have BK221:=n1_;have HB:=n2_;clear n0_ n1_ n2_;(try clear hb);(try clear hb2);(try clear hk);(try clear hi))|(go_at_call 75;(with_reducible refine(spec_l1In.calls a1 0 200 t223 _ A8.out).mono ?_);rintro e w' ⟨rfl,⟨nd,rfl⟩⟩))
   go_meet
   case rel=>exact⟨_,(!t223),(bR),H',⟨by first|omega|exact Nat.le_refl _⟩,⟨by(with_reducible repeat (first|refine blk_drewN ?_ _|refine blk_drew ?_|refine blk_alloc ?_ _));exact BK220.out⟩,⟨by(with_reducible repeat (first|refine blk_drewN ?_ _|refine blk_drew ?_|refine blk_alloc ?_ _));exact BK221.out⟩,⟨bS2 GE220.out GE221.out⟩⟩
  ·replace c7:=Bool.eq_false_iff.mpr c7
   subst c7
   have H1:(spec_RunRounds.j0 k a1 true a0_0 l0_1 a0_2)=some (r1,r2,r3,r4,r5):=by rw[if_neg (show ¬ (false=true) by decide)] at H;exact H
   clear H
   have H:=H1
   clear H1
   have H':=Aside0.mk H
   clear H
   have hnb12:=NB220_221.out
   have hnc12:=NB221_220.out
   obtain⟨hcz13_0,hcz13_1,hcz13_2⟩:=cC3 BK220.out
   obtain⟨hfz13_0,hfz13_1,hfz13_2⟩:=cF3 BK220.out
   go_wp2_with (first|((with_reducible refine gate_callee (f:=74) rfl ?_);refine goesA (some 12) rfl rfl Try.func74 #[.agg #[.int .i64 a0_0,.slice A0_1 l0_1.length c0_1,.int .i64 a0_2]] rfl ?_;(with_reducible refine(spec_GoodTurns.calls k a0_0 _ _ l0_1 a0_2 false _ ?side1 ?side2 A6.out).mono ?_);(case side1=>exact bC HR0_1.out);(case side2=>exact HC0_1.out);rintro e w14 ⟨rfl,hb⟩;refine⟨_,rfl,?_⟩;have n0_:=Aside0.mk (bM BK220.out hb);have n1_:=Aside0.mk (bM BK221.out hb);have n2_:=Aside0.mk (below_step (bS2 GE220.out GE221.out) hb);clear BK220 BK221 HB;have BK220:=n0_;have BK221:=n1_;have HB:=n2_;clear n0_ n1_ n2_;(try clear hb);(try clear hb2);(try clear hk);(try clear hi)))
   go_meet
   case rel=>exact⟨_,(true),(bR),H',⟨by first|omega|exact Nat.le_refl _⟩,⟨by(with_reducible repeat (first|refine blk_drewN ?_ _|refine blk_drew ?_|refine blk_alloc ?_ _));exact BK220.out⟩,⟨by(with_reducible repeat (first|refine blk_drewN ?_ _|refine blk_drew ?_|refine blk_alloc ?_ _));exact BK221.out⟩,⟨bS2 GE220.out GE221.out⟩⟩
 case rest =>
  clear HC3
  try clear c1
  try clear p2
  try clear c5
  try clear c7
  try clear c9
  try clear c12
  try clear hcz10_0 hcz10_1 hcz10_2
  try clear hcz13_0 hcz13_1 hcz13_2
  try clear hfz10_0 hfz10_1 hfz10_2
  try clear hfz13_0 hfz13_1 hfz13_2
  obtain⟨kq,x18_2,rfl,HA,HJ2,BK220,BK221,HB⟩:=hcut
  cases kq with
  | zero=>exact absurd HA.out (by simp[spec_RunRounds.j0])
  | succ kj2 =>
   have H:=HA.out
   clear HA
   simp only[spec_RunRounds.j0] at H
   by_cases c15:x18_2=true
   ·subst c15
    have H1:(some (0,([]:List (S116)),0,0,false))=some (r1,r2,r3,r4,r5):=by rw[if_pos rfl] at H;exact H
    clear H
    have H:=H1
    clear H1
    simp only[Option.some.injEq,Prod.mk.injEq] at H
    obtain⟨rfl,rfl,rfl,rfl,rfl⟩:=H
    have hnb16:=NB221_220.out
    have hnc16:=NB220_221.out
    obtain⟨hcz17_0,hcz17_1,hcz17_2⟩:=cC3 BK221.out
    obtain⟨hfz17_0,hfz17_1,hfz17_2⟩:=cF3 BK221.out
    go_wp2
    refine bodyPost_ret (results_ctt rfl _ _ gb221 28 #[.int .i64 0,.slice none 0 0,.int .i64 0] (0,0) _ rfl (by(with_reducible repeat (first|refine blk_drewN ?_ _|refine blk_drew ?_|refine blk_alloc ?_ _));refine blk_put (cs:=#[.int .i64 0,.slice none 0 0,.int .i64 0]) ?_ 2 _ rfl;(with_reducible repeat (first|refine blk_drewN ?_ _|refine blk_drew ?_|refine blk_alloc ?_ _));refine blk_put (cs:=#[.int .i64 0,.slice none 0 0,.int .i64 0]) ?_ 1 _ rfl;(with_reducible repeat (first|refine blk_drewN ?_ _|refine blk_drew ?_|refine blk_alloc ?_ _));refine blk_put (cs:=#[.int .i64 0,.slice none 0 0,.int .i64 0]) ?_ 0 _ rfl;(with_reducible repeat (first|refine blk_drewN ?_ _|refine blk_drew ?_|refine blk_alloc ?_ _));exact BK221.out) Try.underlying28 rfl (by kernel_rfl)) rfl ?_
    exact⟨_,by first|rfl|(simp[errW_none,errW_some]<;>rfl)|(simp[*,errW_none,errW_some]<;>rfl),by first|exact Kd.S_nil _ _ _ _ _|exact Kd.N_nil _ _ _ _ _|exact Kd.V_nil _ _ _ _ _|exact Kd.Q_nil _ _ _ _ _|exact Kd.R_nil _ _ _ _ _,bS2 GE220.out GE221.out⟩
   ·replace c15:=Bool.eq_false_iff.mpr c15
    subst c15
    have H1:((spec_l14Own.f kj2 a0_0 l0_1 a0_2).bind fun bt224=>(spec_RunRounds.l0 kj2 a1 0 bt224.1 bt224.2.1 bt224.2.2))=some (r1,r2,r3,r4,r5):=by rw[if_neg (show ¬ (false=true) by decide)] at H;exact H
    clear H
    have H:=H1
    clear H1
    replace H:=Option.bind_eq_some_iff.mp H
    obtain⟨⟨t224,t225,t228⟩,A180,H⟩:=H
    replace H:(spec_RunRounds.l0 kj2 a1 0 t224 t225 t228)=some (r1,r2,r3,r4,r5):=H
    have A18:=Aside0.mk A180
    clear A180
    have H':=Aside0.mk H
    clear H
    have hnb19:=NB220_221.out
    have hnc19:=NB221_220.out
    obtain⟨hcz20_0,hcz20_1,hcz20_2⟩:=cC3 BK220.out
    obtain⟨hfz20_0,hfz20_1,hfz20_2⟩:=cF3 BK220.out
    go_wp2_with (first|((with_reducible refine gate_callee (f:=76) rfl ?_);refine goesA (some 21) rfl rfl Try.func76 #[.agg #[.int .i64 a0_0,.slice A0_1 l0_1.length c0_1,.int .i64 a0_2]] rfl ?_;(with_reducible refine(spec_l14Own.calls kj2 a0_0 _ _ l0_1 a0_2 t224 t225 t228 _ ?side1 ?side2 A18.out).mono ?_);(case side1=>exact bC HR0_1.out);(case side2=>exact HC0_1.out);rintro e w21 ⟨v226,rfl,ho0,hb⟩;refine⟨_,rfl,?_⟩;have n0_:=Aside0.mk (Kd.S_lower ho0 (below_size (bS2 GE220.out GE221.out)));have n1_:=Aside0.mk (bM BK220.out hb);have n2_:=Aside0.mk (bM BK221.out hb);have n3_:=Aside0.mk (below_step (bS2 GE220.out GE221.out) hb);clear BK220 BK221 HB;have HO227:=n0_;have BK220:=n1_;have BK221:=n2_;have HB:=n3_;clear n0_ n1_ n2_ n3_;(try clear hb);(try clear hb2);(try clear hk);(try clear hi);(try clear ho0);obtain⟨hcz22_0,hcz22_1,hcz22_2⟩:=cC3 BK220.out;obtain⟨hfz22_0,hfz22_1,hfz22_2⟩:=cF3 BK220.out;obtain⟨Ao23,co23,eo23⟩:=Kd.S_slice HO227.out;subst eo23))
    go_loopg [1,7] kj2 (fun kq v1 v7 w' => ∃ (x1_2:Int) (x7_2:Int) (x221000_2:Int) (x221001_2:List (S116)) (x221002_2:Int) (x222000_2:Int) (x222002_2:Int) (u221001:Value),v1=.int .i64 x1_2∧v7=.int .i64 x7_2∧Aside0 (spec_RunRounds.l0 kq x1_2 x7_2 x221000_2 x221001_2 x221002_2=some (r1,r2,r3,r4,r5))∧Aside0 (kq≤kj2)∧Aside0 (Kd.S k116 116 w' w.heap.size (fun _=>True) u221001 x221001_2)∧Aside0 (w'.heap[gb220]?=some (.cells #[.int .i64 x221000_2,u221001,.int .i64 x221002_2] 28 (0,0)))∧Aside0 (w'.heap[gb221]?=some (.cells #[.int .i64 x222000_2,(.slice none 0 0),.int .i64 x222002_2] 28 (0,0)))∧Aside0 (Below w.heap.size w w'))
    case atStart=>exact⟨(a1),(0),(t224),(t225),(t228),(0),(0),(.slice Ao23 t225.length co23),(bR),(bR),H',⟨Nat.le_refl _⟩,⟨by(with_reducible repeat (first|apply Kd.S_alloc|apply Kd.S_drewN|apply Kd.S_drew));exact Kd.S_mono (Kd.S_far (p:=⟨gb220,2,none⟩) (Kd.S_far (p:=⟨gb220,1,none⟩) (Kd.S_far (p:=⟨gb220,0,none⟩) (Kd.S_types HO227.out BK220.out (by decide)) (fun _ hk=>hk.2) (.int .i64 t224)) (fun _ hk=>hk.2) (.slice Ao23 t225.length co23)) (fun _ hk=>hk.2) (.int .i64 t228)) (fun _ hk=>trivial)⟩,⟨by(with_reducible repeat (first|refine blk_drewN ?_ _|refine blk_drew ?_|refine blk_alloc ?_ _));refine blk_put (cs:=#[.int .i64 t224,.slice Ao23 t225.length co23,.int .i64 a0_2]) ?_ 2 _ rfl;(with_reducible repeat (first|refine blk_drewN ?_ _|refine blk_drew ?_|refine blk_alloc ?_ _));refine blk_put (cs:=#[.int .i64 t224,.slice A0_1 l0_1.length c0_1,.int .i64 a0_2]) ?_ 1 _ rfl;(with_reducible repeat (first|refine blk_drewN ?_ _|refine blk_drew ?_|refine blk_alloc ?_ _));refine blk_put (cs:=#[.int .i64 a0_0,.slice A0_1 l0_1.length c0_1,.int .i64 a0_2]) ?_ 0 _ rfl;(with_reducible repeat (first|refine blk_drewN ?_ _|refine blk_drew ?_|refine blk_alloc ?_ _));exact BK220.out⟩,⟨by(with_reducible repeat (first|refine blk_drewN ?_ _|refine blk_drew ?_|refine blk_alloc ?_ _));refine blk_far ?_ NB221_220.out _;(with_reducible repeat (first|refine blk_drewN ?_ _|refine blk_drew ?_|refine blk_alloc ?_ _));refine blk_far ?_ NB221_220.out _;(with_reducible repeat (first|refine blk_drewN ?_ _|refine blk_drew ?_|refine blk_alloc ?_ _));refine blk_far ?_ NB221_220.out _;(with_reducible repeat (first|refine blk_drewN ?_ _|refine blk_drew ?_|refine blk_alloc ?_ _));exact BK221.out⟩,⟨bS2 GE220.out GE221.out⟩⟩
    case round =>
     clear H'
     try clear c1
     try clear p2
     try clear c5
     try clear c7
     try clear c9
     try clear c12
     try clear c15
     try clear c16
     try clear c19
     try clear hcz10_0 hcz10_1 hcz10_2
     try clear hcz13_0 hcz13_1 hcz13_2
     try clear hcz17_0 hcz17_1 hcz17_2
     try clear hcz20_0 hcz20_1 hcz20_2
     try clear hcz22_0 hcz22_1 hcz22_2
     try clear hfz10_0 hfz10_1 hfz10_2
     try clear hfz13_0 hfz13_1 hfz13_2
     try clear hfz17_0 hfz17_1 hfz17_2
     try clear hfz20_0 hfz20_1 hfz20_2
     try clear hfz22_0 hfz22_1 hfz22_2
     try clear p2
     obtain⟨x1_2,x7_2,x221000_2,x221001_2,x221002_2,x222000_2,x222002_2,u221001,rfl,rfl,HA,HK2,HO_221001,BK220,BK221,HB⟩:=hrel
     cases gk with
     | zero=>exact absurd HA.out (by simp[spec_RunRounds.l0])
     | succ k2 =>
      have H:=HA.out
      clear HA
      simp only[spec_RunRounds.l0] at H
      by_cases c24:x1_2 > 0
      ·rw[if_pos c24] at H
       have c24b0:decide (0 < x1_2)=true:=decide_eq_true c24
       clear c24
       replace H:=Option.bind_eq_some_iff.mp H
       obtain⟨⟨t229,t230,t233,t234,t237⟩,A250,H⟩:=H
       replace H:(if t237=true then (spec_RunRounds.l0 k2 (wrap64 (x1_2 - 1)) (wrap64 (x7_2+(t234.length:Int))) t229 t230 t233) else (some (0,([]:List (S116)),0,0,false)))=some (r1,r2,r3,r4,r5):=H
       have A25:=Aside0.mk A250
       clear A250
       by_cases c26:t237=true
       ·subst c26
        have H1:(spec_RunRounds.l0 k2 (wrap64 (x1_2 - 1)) (wrap64 (x7_2+(t234.length:Int))) t229 t230 t233)=some (r1,r2,r3,r4,r5):=by rw[if_pos rfl] at H;exact H
        clear H
        have H:=H1
        clear H1
        have H':=Aside0.mk H
        clear H
        have hnb27:=NB220_221.out
        have hnc27:=NB221_220.out
        obtain⟨hcz28_0,hcz28_1,hcz28_2⟩:=cC3 BK220.out
        obtain⟨hfz28_0,hfz28_1,hfz28_2⟩:=cF3 BK220.out
        obtain⟨Ao29,co29,eo29⟩:=Kd.S_slice HO_221001.out
        subst eo29
        go_wp2_with (first|((with_reducible refine gate_callee (f:=49) rfl ?_);refine goesA (some 28) rfl rfl Try.func49 #[.agg #[.int .i64 x221000_2,.slice Ao29 x221001_2.length co29,.int .i64 x221002_2]] rfl ?_;(with_reducible refine(spec_NextRound.calls k2 x221000_2 _ _ x221001_2 x221002_2 t229 t230 t233 t234 true _ ?side1 ?side2 A25.out).mono ?_);(case side1=>repeat (first|exact(Kd.S_reads' HO_221001.out).2.2|(with_reducible refine Kd.C_alloc ?_ _)|(with_reducible refine Kd.C_drewN ?_ _)|(with_reducible refine Kd.C_drew ?_)));(case side2=>exact(Kd.S_reads' HO_221001.out).2.1);rintro e w30 ⟨v231,v235,rfl,ho0,ho1,hb⟩;refine⟨_,rfl,?_⟩;have n0_:=Aside0.mk (Kd.S_mono (Kd.S_told (Kd.S_told (Kd.S_old (by(with_reducible repeat (first|apply Kd.S_alloc|apply Kd.S_drewN|apply Kd.S_drew));exact HO_221001.out) hb) (Kd.S_base ho0)) (Kd.R_base ho1)) (fun _ h_=>h_.1));have n1_:=Aside0.mk (Kd.S_lower (Kd.S_new' ho0 (Kd.S_lt (by(with_reducible repeat (first|apply Kd.S_alloc|apply Kd.S_drewN|apply Kd.S_drew));exact HO_221001.out))) (below_size (bS2 GE220.out GE221.out)));have n2_:=Aside0.mk (Kd.R_lower ho1 (below_size (bS2 GE220.out GE221.out)));have n3_:=Aside0.mk (bM BK220.out hb);have n4_:=Aside0.mk (bM BK221.out hb);have n5_:=Aside0.mk (below_step (bS2 GE220.out GE221.out) hb);clear HO_221001 BK220 BK221 HB;have HO_221001:=n0_;have HO232:=n1_;have HO236:=n2_;have BK220:=n3_;have BK221:=n4_;have HB:=n5_;clear n0_ n1_ n2_ n3_ n4_ n5_;(try clear hb);(try clear hb2);(try clear hk);(try clear hi);(try clear ho0);(try clear ho1))|((with_reducible refine gate_dst (N:=8) rfl ?_);refine box_event ?hg (N:=8) ?hd (cs:=#[.int .i64 0,.slice none 0 0,.int .i64 0]) (t:=28) ?hr ?_;(case hd=>rfl);(case hg=>rfl);(case hr=>first|(go_simp;done)|(go_simp;rfl));intro gb238 hg w31 hbox hb;have n0_:=Aside0.mk (Kd.S_below (by(with_reducible repeat (first|apply Kd.S_alloc|apply Kd.S_drewN|apply Kd.S_drew));exact HO_221001.out) hb);have n1_:=Aside0.mk (Kd.S_below (by(with_reducible repeat (first|apply Kd.S_alloc|apply Kd.S_drewN|apply Kd.S_drew));exact HO232.out) hb);have n2_:=Aside0.mk (Kd.R_below (bK HO236.out) hb);have n3_:=Aside0.mk (bM BK220.out hb);have n4_:=Aside0.mk (bM BK221.out hb);have n5_:=Aside0.mk (below_step (bS2 GE220.out GE221.out) hb);have n6_:=Aside0.mk (hbox);have n7_:=Aside0.mk ((by rw[hg];exact(below_size (bS2 GE220.out GE221.out)):w.heap.size≤gb238));have n8_:=Aside0.mk ((by rw[hg];exact(below_size (bS2 GE220.out GE221.out)):w.heap.size≤gb238));have n9_:=Aside0.mk ((bN BK220.out hg:gb220≠gb238));have n10_:=Aside0.mk ((bO BK220.out hg:gb238≠gb220));have n11_:=Aside0.mk ((bN BK221.out hg:gb221≠gb238));have n12_:=Aside0.mk ((bO BK221.out hg:gb238≠gb221));clear HO_221001 HO232 HO236 BK220 BK221 HB;have HO_221001:=n0_;have HO232:=n1_;have HO236:=n2_;have BK220:=n3_;have BK221:=n4_;have HB:=n5_;have BK238:=n6_;have GW238:=n7_;have GE238:=n8_;have NB220_238:=n9_;have NB238_220:=n10_;have NB221_238:=n11_;have NB238_221:=n12_;clear n0_ n1_ n2_ n3_ n4_ n5_ n6_ n7_ n8_ n9_ n10_ n11_ n12_;clear hb hbox hg;have hnb32:=NB238_220.out;have hnc32:=NB220_238.out;have hnb33:=NB238_221.out;have hnc33:=NB221_238.out;obtain⟨hcz34_0,hcz34_1,hcz34_2⟩:=cC3 BK238.out;obtain⟨hfz34_0,hfz34_1,hfz34_2⟩:=cF3 BK238.out;obtain⟨Ao35,co35,eo35⟩:=Kd.S_slice HO232.out;subst eo35;obtain⟨hcz36_0,hcz36_1,hcz36_2⟩:=cC3 BK220.out;obtain⟨hfz36_0,hfz36_1,hfz36_2⟩:=cF3 BK220.out;obtain⟨Ao37,co37,eo37⟩:=Kd.R_slice HO236.out;subst eo37))
        go_roundg k2
        case measure=>have:=HJ2.out;have:=HK2.out;omega
        case rel=>exact⟨(wrap64 (x1_2 - 1)),(wrap64 (x7_2+(t234.length:Int))),(t229),(t230),(t233),(x222000_2),(x222002_2),(.slice Ao35 t230.length co35),(bR),(bR),H',⟨by have:=HJ2.out;have:=HK2.out;omega⟩,⟨by(with_reducible repeat (first|apply Kd.S_alloc|apply Kd.S_drewN|apply Kd.S_drew));exact Kd.S_mono (Kd.S_far (p:=⟨gb220,2,none⟩) (Kd.S_far (p:=⟨gb220,1,none⟩) (Kd.S_far (p:=⟨gb220,0,none⟩) (Kd.S_far (p:=⟨gb238,2,none⟩) (Kd.S_far (p:=⟨gb238,1,none⟩) (Kd.S_far (p:=⟨gb238,0,none⟩) (Kd.S_types (Kd.S_types HO232.out BK238.out (by decide)) BK220.out (by decide)) (fun _ hk=>hk.1.2) (.int .i64 t229)) (fun _ hk=>hk.1.2) (.slice Ao35 t230.length co35)) (fun _ hk=>hk.1.2) (.int .i64 t233)) (fun _ hk=>hk.2) (.int .i64 t229)) (fun _ hk=>hk.2) (.slice Ao35 t230.length co35)) (fun _ hk=>hk.2) (.int .i64 t233)) (fun _ hk=>trivial)⟩,⟨by(with_reducible repeat (first|refine blk_drewN ?_ _|refine blk_drew ?_|refine blk_alloc ?_ _));refine blk_put (cs:=#[.int .i64 t229,.slice Ao35 t230.length co35,.int .i64 x221002_2]) ?_ 2 _ rfl;(with_reducible repeat (first|refine blk_drewN ?_ _|refine blk_drew ?_|refine blk_alloc ?_ _));refine blk_put (cs:=#[.int .i64 t229,.slice Ao29 x221001_2.length co29,.int .i64 x221002_2]) ?_ 1 _ rfl;(with_reducible repeat (first|refine blk_drewN ?_ _|refine blk_drew ?_|refine blk_alloc ?_ _));refine blk_put (cs:=#[.int .i64 x221000_2,.slice Ao29 x221001_2.length co29,.int .i64 x221002_2]) ?_ 0 _ rfl;(with_reducible repeat (first|refine blk_drewN ?_ _|refine blk_drew ?_|refine blk_alloc ?_ _));refine blk_far ?_ NB220_238.out _;(with_reducible repeat (first|refine blk_drewN ?_ _|refine blk_drew ?_|refine blk_alloc ?_ _));refine blk_far ?_ NB220_238.out _;(with_reducible repeat (first|refine blk_drewN ?_ _|refine blk_drew ?_|refine blk_alloc ?_ _));refine blk_far ?_ NB220_238.out _;(with_reducible repeat (first|refine blk_drewN ?_ _|refine blk_drew ?_|refine blk_alloc ?_ _));exact BK220.out⟩,⟨by(with_reducible repeat (first|refine blk_drewN ?_ _|refine blk_drew ?_|refine blk_alloc ?_ _));refine blk_far ?_ NB221_220.out _;(with_reducible repeat (first|refine blk_drewN ?_ _|refine blk_drew ?_|refine blk_alloc ?_ _));refine blk_far ?_ NB221_220.out _;(with_reducible repeat (first|refine blk_drewN ?_ _|refine blk_drew ?_|refine blk_alloc ?_ _));refine blk_far ?_ NB221_220.out _;(with_reducible repeat (first|refine blk_drewN ?_ _|refine blk_drew ?_|refine blk_alloc ?_ _));refine blk_far ?_ NB221_238.out _;(with_reducible repeat (first|refine blk_drewN ?_ _|refine blk_drew ?_|refine blk_alloc ?_ _));refine blk_far ?_ NB221_238.out _;(with_reducible repeat (first|refine blk_drewN ?_ _|refine blk_drew ?_|refine blk_alloc ?_ _));refine blk_far ?_ NB221_238.out _;(with_reducible repeat (first|refine blk_drewN ?_ _|refine blk_drew ?_|refine blk_alloc ?_ _));exact BK221.out⟩,⟨bS3 GE220.out GE221.out GE238.out⟩⟩
       ·replace c26:=Bool.eq_false_iff.mpr c26
        subst c26
        have H1:(some (0,([]:List (S116)),0,0,false))=some (r1,r2,r3,r4,r5):=by rw[if_neg (show ¬ (false=true) by decide)] at H;exact H
        clear H
        have H:=H1
        clear H1
        simp only[Option.some.injEq,Prod.mk.injEq] at H
        obtain⟨rfl,rfl,rfl,rfl,rfl⟩:=H
        have hnb38:=NB220_221.out
        have hnc38:=NB221_220.out
        obtain⟨hcz39_0,hcz39_1,hcz39_2⟩:=cC3 BK220.out
        obtain⟨hfz39_0,hfz39_1,hfz39_2⟩:=cF3 BK220.out
        obtain⟨Ao40,co40,eo40⟩:=Kd.S_slice HO_221001.out
        subst eo40
        go_wp2_with (first|((with_reducible refine gate_callee (f:=49) rfl ?_);refine goesA (some 28) rfl rfl Try.func49 #[.agg #[.int .i64 x221000_2,.slice Ao40 x221001_2.length co40,.int .i64 x221002_2]] rfl ?_;(with_reducible refine(spec_NextRound.calls k2 x221000_2 _ _ x221001_2 x221002_2 t229 t230 t233 t234 false _ ?side1 ?side2 A25.out).mono ?_);(case side1=>repeat (first|exact(Kd.S_reads' HO_221001.out).2.2|(with_reducible refine Kd.C_alloc ?_ _)|(with_reducible refine Kd.C_drewN ?_ _)|(with_reducible refine Kd.C_drew ?_)));(case side2=>exact(Kd.S_reads' HO_221001.out).2.1);rintro e w41 ⟨v231,v235,rfl,ho0,ho1,hb⟩;refine⟨_,rfl,?_⟩;have n0_:=Aside0.mk (Kd.S_mono (Kd.S_told (Kd.S_told (Kd.S_old (by(with_reducible repeat (first|apply Kd.S_alloc|apply Kd.S_drewN|apply Kd.S_drew));exact HO_221001.out) hb) (Kd.S_base ho0)) (Kd.R_base ho1)) (fun _ h_=>h_.1));have n1_:=Aside0.mk (Kd.S_lower (Kd.S_new' ho0 (Kd.S_lt (by(with_reducible repeat (first|apply Kd.S_alloc|apply Kd.S_drewN|apply Kd.S_drew));exact HO_221001.out))) (below_size (bS2 GE220.out GE221.out)));have n2_:=Aside0.mk (Kd.R_lower ho1 (below_size (bS2 GE220.out GE221.out)));have n3_:=Aside0.mk (bM BK220.out hb);have n4_:=Aside0.mk (bM BK221.out hb);have n5_:=Aside0.mk (below_step (bS2 GE220.out GE221.out) hb);clear HO_221001 BK220 BK221 HB;have HO_221001:=n0_;have HO232:=n1_;have HO236:=n2_;have BK220:=n3_;have BK221:=n4_;have HB:=n5_;clear n0_ n1_ n2_ n3_ n4_ n5_;(try clear hb);(try clear hb2);(try clear hk);(try clear hi);(try clear ho0);(try clear ho1))|((with_reducible refine gate_dst (N:=8) rfl ?_);refine box_event ?hg (N:=8) ?hd (cs:=#[.int .i64 0,.slice none 0 0,.int .i64 0]) (t:=28) ?hr ?_;(case hd=>rfl);(case hg=>rfl);(case hr=>first|(go_simp;done)|(go_simp;rfl));intro gb238 hg w42 hbox hb;have n0_:=Aside0.mk (Kd.S_below (by(with_reducible repeat (first|apply Kd.S_alloc|apply Kd.S_drewN|apply Kd.S_drew));exact HO_221001.out) hb);have n1_:=Aside0.mk (Kd.S_below (by(with_reducible repeat (first|apply Kd.S_alloc|apply Kd.S_drewN|apply Kd.S_drew));exact HO232.out) hb);have n2_:=Aside0.mk (Kd.R_below (bK HO236.out) hb);have n3_:=Aside0.mk (bM BK220.out hb);have n4_:=Aside0.mk (bM BK221.out hb);have n5_:=Aside0.mk (below_step (bS2 GE220.out GE221.out) hb);have n6_:=Aside0.mk (hbox);have n7_:=Aside0.mk ((by rw[hg];exact(below_size (bS2 GE220.out GE221.out)):w.heap.size≤gb238));have n8_:=Aside0.mk ((by rw[hg];exact(below_size (bS2 GE220.out GE221.out)):w.heap.size≤gb238));have n9_:=Aside0.mk ((bN BK220.out hg:gb220≠gb238));have n10_:=Aside0.mk ((bO BK220.out hg:gb238≠gb220));have n11_:=Aside0.mk ((bN BK221.out hg:gb221≠gb238));have n12_:=Aside0.mk ((bO BK221.out hg:gb238≠gb221));clear HO_221001 HO232 HO236 BK220 BK221 HB;have HO_221001:=n0_;have HO232:=n1_;have HO236:=n2_;have BK220:=n3_;have BK221:=n4_;have HB:=n5_;have BK238:=n6_;have GW238:=n7_;have GE238:=n8_;have NB220_238:=n9_;have NB238_220:=n10_;have NB221_238:=n11_;have NB238_221:=n12_;clear n0_ n1_ n2_ n3_ n4_ n5_ n6_ n7_ n8_ n9_ n10_ n11_ n12_;clear hb hbox hg;have hnb43:=NB238_220.out;have hnc43:=NB220_238.out;have hnb44:=NB238_221.out;have hnc44:=NB221_238.out;obtain⟨hcz45_0,hcz45_1,hcz45_2⟩:=cC3 BK238.out;obtain⟨hfz45_0,hfz45_1,hfz45_2⟩:=cF3 BK238.out;obtain⟨Ao46,co46,eo46⟩:=Kd.S_slice HO232.out;subst eo46;obtain⟨hcz47_0,hcz47_1,hcz47_2⟩:=cC3 BK221.out;obtain⟨hfz47_0,hfz47_1,hfz47_2⟩:=cF3 BK221.out))
        refine bodyPost_ret (results_ctt rfl _ _ gb221 28 #[.int .i64 0,.slice none 0 0,.int .i64 0] (0,0) _ rfl (by(with_reducible repeat (first|refine blk_drewN ?_ _|refine blk_drew ?_|refine blk_alloc ?_ _));refine blk_put (cs:=#[.int .i64 0,.slice none 0 0,.int .i64 x222002_2]) ?_ 2 _ rfl;(with_reducible repeat (first|refine blk_drewN ?_ _|refine blk_drew ?_|refine blk_alloc ?_ _));refine blk_put (cs:=#[.int .i64 0,.slice none 0 0,.int .i64 x222002_2]) ?_ 1 _ rfl;(with_reducible repeat (first|refine blk_drewN ?_ _|refine blk_drew ?_|refine blk_alloc ?_ _));refine blk_put (cs:=#[.int .i64 x222000_2,.slice none 0 0,.int .i64 x222002_2]) ?_ 0 _ rfl;(with_reducible repeat (first|refine blk_drewN ?_ _|refine blk_drew ?_|refine blk_alloc ?_ _));refine blk_far ?_ NB221_238.out _;(with_reducible repeat (first|refine blk_drewN ?_ _|refine blk_drew ?_|refine blk_alloc ?_ _));refine blk_far ?_ NB221_238.out _;(with_reducible repeat (first|refine blk_drewN ?_ _|refine blk_drew ?_|refine blk_alloc ?_ _));refine blk_far ?_ NB221_238.out _;(with_reducible repeat (first|refine blk_drewN ?_ _|refine blk_drew ?_|refine blk_alloc ?_ _));exact BK221.out) Try.underlying28 rfl (by kernel_rfl)) rfl ?_
        exact⟨_,by first|rfl|(simp[errW_none,errW_some]<;>rfl)|(simp[*,errW_none,errW_some]<;>rfl),by first|exact Kd.S_nil _ _ _ _ _|exact Kd.N_nil _ _ _ _ _|exact Kd.V_nil _ _ _ _ _|exact Kd.Q_nil _ _ _ _ _|exact Kd.R_nil _ _ _ _ _,bS3 GE220.out GE221.out GE238.out⟩
      ·rw[if_neg c24] at H
       have c24b0:decide (0 < x1_2)=false:=decide_eq_false c24
       clear c24
       simp only[Option.some.injEq,Prod.mk.injEq] at H
       obtain⟨rfl,rfl,rfl,rfl,rfl⟩:=H
       have hnb48:=NB220_221.out
       have hnc48:=NB221_220.out
       obtain⟨hcz49_0,hcz49_1,hcz49_2⟩:=cC3 BK220.out
       obtain⟨hfz49_0,hfz49_1,hfz49_2⟩:=cF3 BK220.out
       obtain⟨hcz50_0,hcz50_1,hcz50_2⟩:=cC3 BK221.out
       obtain⟨hfz50_0,hfz50_1,hfz50_2⟩:=cF3 BK221.out
       obtain⟨Ao51,co51,eo51⟩:=Kd.S_slice HO_221001.out
       subst eo51
       go_wp2
       refine bodyPost_ret (results_ctt rfl _ _ gb221 28 #[.int .i64 x221000_2,.slice Ao51 x221001_2.length co51,.int .i64 x221002_2] (0,0) _ rfl (by(with_reducible repeat (first|refine blk_drewN ?_ _|refine blk_drew ?_|refine blk_alloc ?_ _));refine blk_put (cs:=#[.int .i64 x221000_2,.slice Ao51 x221001_2.length co51,.int .i64 x222002_2]) ?_ 2 _ rfl;(with_reducible repeat (first|refine blk_drewN ?_ _|refine blk_drew ?_|refine blk_alloc ?_ _));refine blk_put (cs:=#[.int .i64 x221000_2,.slice none 0 0,.int .i64 x222002_2]) ?_ 1 _ rfl;(with_reducible repeat (first|refine blk_drewN ?_ _|refine blk_drew ?_|refine blk_alloc ?_ _));refine blk_put (cs:=#[.int .i64 x222000_2,.slice none 0 0,.int .i64 x222002_2]) ?_ 0 _ rfl;(with_reducible repeat (first|refine blk_drewN ?_ _|refine blk_drew ?_|refine blk_alloc ?_ _));exact BK221.out) Try.underlying28 rfl (by kernel_rfl)) rfl ?_
       exact⟨_,by first|rfl|(simp[errW_none,errW_some]<;>rfl)|(simp[*,errW_none,errW_some]<;>rfl),by(with_reducible repeat (first|apply Kd.S_alloc|apply Kd.S_drewN|apply Kd.S_drew));exact Kd.S_mono (Kd.S_far (p:=⟨gb221,2,none⟩) (Kd.S_far (p:=⟨gb221,1,none⟩) (Kd.S_far (p:=⟨gb221,0,none⟩) (Kd.S_types HO_221001.out BK221.out (by decide)) (fun _ hk=>hk.2) (.int .i64 x221000_2)) (fun _ hk=>hk.2) (.slice Ao51 x221001_2.length co51)) (fun _ hk=>hk.2) (.int .i64 x221002_2)) (fun _ hk=>trivial),bS2 GE220.out GE221.out⟩

/-! ### impl_within: function 79 -/
def impl_within.f (a0:Int) (a1:Int) (a2:Int):Option (Bool):=if a1≤a0 then (some (decide (a0≤a2))) else (some false)
set_option maxHeartbeats 8000000 in
set_option maxRecDepth 100000 in
theorem impl_within.calls (a0:Int) (a1:Int) (a2:Int) (r:Bool) (w:World) (h:impl_within.f a0 a1 a2=some r) :
  Calls Try.prog 79 #[.int .i64 a0,.int .i64 a1,.int .i64 a2] w fun e w'=>e=.returned (.bool r)∧Drawn0 w w':=by
 have H:(if a1≤a0 then (some (decide (a0≤a2))) else (some false))=some r:=h
 clear h
 by_cases c4:a1≤a0
 ·rw[if_pos c4] at H
  have c4b0:decide (a1≤a0)=true:=decide_eq_true c4
  clear c4
  obtain rfl:=Option.some.inj H
  go_enter Try.func79,Try.ntmps79
  go_wp2
  go_ret
  exact⟨bR,bW⟩
 ·rw[if_neg c4] at H
  have c4b0:decide (a1≤a0)=false:=decide_eq_false c4
  clear c4
  obtain rfl:=Option.some.inj H
  go_enter Try.func79,Try.ntmps79
  go_wp2
  go_ret
  exact⟨bR,bW⟩

-- NOT PRINTED: function 148 (slices_IndexFunc_int_int)

-- NOT PRINTED: function 113 (slices_ContainsFunc_int_int)

/-! ### impl_isTime: function 140 -/
def impl_isTime.f (a0:Int):Option (Bool):=(impl_within.f a0 0 1000000).bind fun t239=>(some t239)
set_option maxHeartbeats 8000000 in
set_option maxRecDepth 100000 in
theorem impl_isTime.calls (a0:Int) (r:Bool) (w:World) (h:impl_isTime.f a0=some r) :
  Calls Try.prog 140 #[.int .i64 a0] w fun e w'=>e=.returned (.bool r)∧Drawn0 w w':=by
 have H:((impl_within.f a0 0 1000000).bind fun t239=>(some t239))=some r:=h
 clear h
 replace H:=Option.bind_eq_some_iff.mp H
 obtain⟨t239,A20,H⟩:=H
 have A2:=Aside0.mk A20
 clear A20
 obtain rfl:=Option.some.inj H
 go_enter Try.func140,Try.ntmps140
 go_wp2_with (first|((with_reducible refine gate_callee (f:=79) rfl ?_);refine goesA (some 4) rfl rfl Try.func79 #[.int .i64 a0,.int .i64 0,.int .i64 1000000] rfl ?_;(with_reducible refine(impl_within.calls a0 0 1000000 t239 _ A2.out).mono ?_);rintro e w' ⟨rfl,⟨nd,rfl⟩⟩;refine⟨_,rfl,?_⟩))
 go_ret
 exact⟨bR,bW⟩

/-! ### impl_GoodTurns_lit1: function 141 -/
def impl_GoodTurns_lit1.f (a0:Int):Option (Bool):=(impl_within.f a0 1 50).bind fun t247=>(some (!t247))
set_option maxHeartbeats 8000000 in
set_option maxRecDepth 100000 in
theorem impl_GoodTurns_lit1.calls (a0:Int) (r:Bool) (w:World) (h:impl_GoodTurns_lit1.f a0=some r) :
  Calls Try.prog 141 #[.int .i64 a0] w fun e w'=>e=.returned (.bool r)∧Drawn0 w w':=by
 have H:((impl_within.f a0 1 50).bind fun t247=>(some (!t247)))=some r:=h
 clear h
 replace H:=Option.bind_eq_some_iff.mp H
 obtain⟨t247,A20,H⟩:=H
 have A2:=Aside0.mk A20
 clear A20
 obtain rfl:=Option.some.inj H
 go_enter Try.func141,Try.ntmps141
 go_wp2_with (first|((with_reducible refine gate_callee (f:=79) rfl ?_);refine goesA (some 4) rfl rfl Try.func79 #[.int .i64 a0,.int .i64 1,.int .i64 50] rfl ?_;(with_reducible refine(impl_within.calls a0 1 50 t247 _ A2.out).mono ?_);rintro e w' ⟨rfl,⟨nd,rfl⟩⟩;refine⟨_,rfl,?_⟩))
 go_ret
 exact⟨bR,bW⟩

/-! ### slices_IndexFunc_int_int_impl_GoodTurns_lit1: function 148 -/
def slices_IndexFunc_int_int_impl_GoodTurns_lit1.l0:Nat→List Int→Int→Int→Option (Int)
 | 0,_,_,_=>none
 | k+1,x0,x7,x8=>if x8 < x7 then (if 0≤x8 then (if x8 < (x0.length:Int) then ((impl_GoodTurns_lit1.f (rd x0 x8)).bind fun t249=>(if t249=true then (some x8) else (slices_IndexFunc_int_int_impl_GoodTurns_lit1.l0 k x0 x7 (wrap64 (x8+1))))) else (none)) else (none)) else (some (-1))
def slices_IndexFunc_int_int_impl_GoodTurns_lit1.f (k:Nat) (l0:List Int)  : Option (Int):=slices_IndexFunc_int_int_impl_GoodTurns_lit1.l0 k l0 (l0.length:Int) 0
theorem slices_IndexFunc_int_int_impl_GoodTurns_lit1.mono_l : ∀ k,(∀ y0 y1 y2,LeO (slices_IndexFunc_int_int_impl_GoodTurns_lit1.l0 k y0 y1 y2) (slices_IndexFunc_int_int_impl_GoodTurns_lit1.l0 (k+1) y0 y1 y2))
 | 0=>fun _ _ _ r h=>by simp[slices_IndexFunc_int_int_impl_GoodTurns_lit1.l0] at h
 | k+1=>by
  have ih0:=slices_IndexFunc_int_int_impl_GoodTurns_lit1.mono_l k
  ·intro y0 y1 y2
   unfold slices_IndexFunc_int_int_impl_GoodTurns_lit1.l0
   repeat' first
   | (with_reducible exact ih0 _ _ _)
   | (with_reducible exact LeO.refl _)
   | (with_reducible exact LeO.none _)
   | (with_reducible refine LeO.ite ?_ ?_)
   | (with_reducible refine LeO.bind ?_ (fun _ => ?_))
   | exact ih0 _ _ _
   | exact LeO.none _
   | refine LeO.ite ?_ ?_
   | refine LeO.bind ?_ (fun _ => ?_)
theorem slices_IndexFunc_int_int_impl_GoodTurns_lit1.mono : ∀ a0 k,LeO (slices_IndexFunc_int_int_impl_GoodTurns_lit1.f k a0) (slices_IndexFunc_int_int_impl_GoodTurns_lit1.f (k+1) a0):=by
 intro a0 k
 have ih0:=slices_IndexFunc_int_int_impl_GoodTurns_lit1.mono_l k
 unfold slices_IndexFunc_int_int_impl_GoodTurns_lit1.f
 repeat' first
  | (with_reducible exact ih0 _ _ _)
  | (with_reducible exact LeO.refl _)
  | (with_reducible exact LeO.none _)
  | (with_reducible refine LeO.ite ?_ ?_)
  | (with_reducible refine LeO.bind ?_ (fun _ => ?_))
  | exact ih0 _ _ _
  | exact LeO.none _
  | refine LeO.ite ?_ ?_
  | refine LeO.bind ?_ (fun _ => ?_)
set_option maxHeartbeats 8000000 in
set_option maxRecDepth 100000 in
theorem slices_IndexFunc_int_int_impl_GoodTurns_lit1.calls (k:Nat) (A0:Option Addr) (c0:Nat) (l0:List Int)  (r:Int) (w:World) (hr0:Kd.C (Kd.int .i64) w A0 l0.length l0) (hc0:l0.length≤c0) (h:slices_IndexFunc_int_int_impl_GoodTurns_lit1.f k l0=some r) :
  Calls Try.prog 148 #[.slice A0 l0.length c0,(.func (.func 141) #[] #[])] w fun e w'=>e=.returned (.int .i64 r)∧Drawn0 w w':=by
 have HR0:=Aside0.mk hr0
 have HC0:=Aside0.mk hc0
 clear hr0 hc0
 have H:(slices_IndexFunc_int_int_impl_GoodTurns_lit1.l0 k l0 (l0.length:Int) 0)=some r:=h
 clear h
 have H':=Aside0.mk H
 clear H
 go_enter Try.func148,Try.ntmps148
 go_wp2
 go_loopg [8] k (fun kq v8 w' => ∃ (x8_1:Int),v8=.int .i64 x8_1∧Aside0 (slices_IndexFunc_int_int_impl_GoodTurns_lit1.l0 kq l0 (l0.length:Int) x8_1=some r)∧Aside0 (kq≤k)∧Drawn0 w w')
 case atStart=>exact⟨(0),(bR),H',⟨Nat.le_refl _⟩,bW⟩
 case round =>
  clear H'
  try clear p2
  obtain⟨x8_1,rfl,HA,HK1,⟨m1,rfl⟩⟩:=hrel
  cases gk with
  | zero=>exact absurd HA.out (by simp[slices_IndexFunc_int_int_impl_GoodTurns_lit1.l0])
  | succ k1 =>
   have H:=HA.out
   clear HA
   simp only[slices_IndexFunc_int_int_impl_GoodTurns_lit1.l0] at H
   by_cases c3:x8_1 < (l0.length:Int)
   ·rw[if_pos c3] at H
    have c3b0:decide (x8_1 < (l0.length:Int))=true:=decide_eq_true c3
    clear c3
    by_cases c4:0≤x8_1
    ·rw[if_pos c4] at H
     have c4b0:decide (0≤x8_1)=true:=decide_eq_true c4
     clear c4
     by_cases c5:x8_1 < (l0.length:Int)
     ·rw[if_pos c5] at H
      have c5b0:decide (x8_1 < (l0.length:Int))=true:=decide_eq_true c5
      clear c5
      replace H:=Option.bind_eq_some_iff.mp H
      obtain⟨t249,A60,H⟩:=H
      have A6:=Aside0.mk A60
      clear A60
      by_cases c7:t249=true
      ·subst c7
       have H1:(some x8_1)=some r:=by rw[if_pos rfl] at H;exact H
       clear H
       have H:=H1
       clear H1
       obtain rfl:=Option.some.inj H
       have p248:0≤(x8_1:Int):=of_decide_eq_true (bD)
       have q248:x8_1 < (l0.length:Int):=of_decide_eq_true (bD)
       obtain⟨ad248,e248,hx248_0⟩:=Kd.at_int HR0.out x8_1 p248 q248
       cases e248
       replace p248:=eq_true p248
       replace q248:=eq_true q248
       go_wp2_with (first|(go_at_call 141;(with_reducible refine(impl_GoodTurns_lit1.calls (rd l0 x8_1) true _ A6.out).mono ?_);rintro e w' ⟨rfl,⟨nd,rfl⟩⟩))
       go_ret
       exact⟨bR,bW⟩
      ·replace c7:=Bool.eq_false_iff.mpr c7
       subst c7
       have H1:(slices_IndexFunc_int_int_impl_GoodTurns_lit1.l0 k1 l0 (l0.length:Int) (wrap64 (x8_1+1)))=some r:=by rw[if_neg (show ¬ (false=true) by decide)] at H;exact H
       clear H
       have H:=H1
       clear H1
       have H':=Aside0.mk H
       clear H
       have p248:0≤(x8_1:Int):=of_decide_eq_true (bD)
       have q248:x8_1 < (l0.length:Int):=of_decide_eq_true (bD)
       obtain⟨ad248,e248,hx248_0⟩:=Kd.at_int HR0.out x8_1 p248 q248
       cases e248
       replace p248:=eq_true p248
       replace q248:=eq_true q248
       go_wp2_with (first|(go_at_call 141;(with_reducible refine(impl_GoodTurns_lit1.calls (rd l0 x8_1) false _ A6.out).mono ?_);rintro e w' ⟨rfl,⟨nd,rfl⟩⟩))
       go_roundg k1
       case measure=>have:=HK1.out;omega
       case rel=>exact⟨(wrap64 (x8_1+1)),(bR),H',⟨by have:=HK1.out;omega⟩,bW⟩
     ·rw[if_neg c5] at H
      exact absurd H (by simp)
    ·rw[if_neg c4] at H
     exact absurd H (by simp)
   ·rw[if_neg c3] at H
    have c3b0:decide (x8_1 < (l0.length:Int))=false:=decide_eq_false c3
    clear c3
    obtain rfl:=Option.some.inj H
    go_wp2
    go_ret
    exact⟨bR,bW⟩

/-! ### slices_ContainsFunc_int_int_impl_GoodTurns_lit1: function 113 -/
def slices_ContainsFunc_int_int_impl_GoodTurns_lit1.f (k:Nat) (l0:List Int)  : Option (Bool):=(slices_IndexFunc_int_int_impl_GoodTurns_lit1.f k l0).bind fun t250=>(some (decide (t250 ≥ 0)))
theorem slices_ContainsFunc_int_int_impl_GoodTurns_lit1.mono : ∀ a0 k,LeO (slices_ContainsFunc_int_int_impl_GoodTurns_lit1.f k a0) (slices_ContainsFunc_int_int_impl_GoodTurns_lit1.f (k+1) a0):=by
 intro a0 k
 unfold slices_ContainsFunc_int_int_impl_GoodTurns_lit1.f
 repeat' first
  | (with_reducible exact slices_IndexFunc_int_int_impl_GoodTurns_lit1.mono _ _)
  | (with_reducible exact LeO.refl _)
  | (with_reducible exact LeO.none _)
  | (with_reducible refine LeO.ite ?_ ?_)
  | (with_reducible refine LeO.bind ?_ (fun _ => ?_))
  | exact slices_IndexFunc_int_int_impl_GoodTurns_lit1.mono _ _
  | exact LeO.none _
  | refine LeO.ite ?_ ?_
  | refine LeO.bind ?_ (fun _ => ?_)
set_option maxHeartbeats 8000000 in
set_option maxRecDepth 100000 in
theorem slices_ContainsFunc_int_int_impl_GoodTurns_lit1.calls (k:Nat) (A0:Option Addr) (c0:Nat) (l0:List Int)  (r:Bool) (w:World) (hr0:Kd.C (Kd.int .i64) w A0 l0.length l0) (hc0:l0.length≤c0) (h:slices_ContainsFunc_int_int_impl_GoodTurns_lit1.f k l0=some r) :
  Calls Try.prog 113 #[.slice A0 l0.length c0,(.func (.func 141) #[] #[])] w fun e w'=>e=.returned (.bool r)∧Drawn0 w w':=by
 have HR0:=Aside0.mk hr0
 have HC0:=Aside0.mk hc0
 clear hr0 hc0
 have H:((slices_IndexFunc_int_int_impl_GoodTurns_lit1.f k l0).bind fun t250=>(some (decide (t250 ≥ 0))))=some r:=h
 clear h
 replace H:=Option.bind_eq_some_iff.mp H
 obtain⟨t250,A30,H⟩:=H
 have A3:=Aside0.mk A30
 clear A30
 obtain rfl:=Option.some.inj H
 go_enter Try.func113,Try.ntmps113
 go_wp2_with (first|((with_reducible refine gate_callee (f:=148) rfl ?_);refine goesA (some 7) rfl rfl Try.func148 #[.slice A0 l0.length c0,(.func (.func 141) #[] #[])] rfl ?_;(with_reducible refine(slices_IndexFunc_int_int_impl_GoodTurns_lit1.calls k _ _ l0  t250 _ ?side1 ?side2 A3.out).mono ?_);(case side1=>repeat (first|exact HR0.out|(with_reducible refine Kd.C_alloc ?_ _)|(with_reducible refine Kd.C_drewN ?_ _)|(with_reducible refine Kd.C_drew ?_)));(case side2=>exact HC0.out);rintro e w' ⟨rfl,⟨nd,rfl⟩⟩;refine⟨_,rfl,?_⟩))
 go_ret
 exact⟨bR,bW⟩

end Go.Proofs.Yteneeohaoplpbaa.XFnExactRunRounds
