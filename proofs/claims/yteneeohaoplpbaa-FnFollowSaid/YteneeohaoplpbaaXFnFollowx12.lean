-- Written by this session's own program (wip/xprint.py) out of the translation; Lean checks it.
import Derived.Test.YteneeohaoplpbaaXFnFollowx0
import Derived.Test.YteneeohaoplpbaaXFnFollowx3
import Derived.Test.YteneeohaoplpbaaXFnFollowx9
import Derived.Test.YteneeohaoplpbaaXFnFollowx10
import Derived.Test.YteneeohaoplpbaaXFnFollowx11
namespace Go.Proofs.Yteneeohaoplpbaa.XFnFollow
open Go.RowKit Go.Proofs.YteneeohaoplpbaaW.PrintWords Go.Proofs.YteneeohaoplpbaaW.PrintLast Go.Proofs.YteneeohaoplpbaaW.PrintMore
open Go.Proofs.YteneeohaoplpbaaW.PrintWords.Aside0 renaming mk → am
open List renaming setIfInBounds_toArray → zA, set_cons_zero → zB, set_cons_succ → zC
attribute [local go_sem] max2_int min2_int max_two min_two max_three min_three max_four min_four   -- for this text's walks alone
set_option linter.unusedVariables false
set_option linter.unusedSimpArgs false

/-! ### spec_l1Cur_planned: function 125 -/
def spec_l1Cur_planned.f (k:Nat) (s0_0:List Int) (s0_1:Int) (s0_2:Int):Option ((List (S104)) × Int × Int × Bool × Int × Int × Int × Int × Int × Int × ByteArray × Int × Int):=(spec_l1Cur_wholeBundle.f k s0_0 s0_1 s0_2).bind fun bt434=>((spec_l1Cur_pick.f s0_0 bt434.2.2.2.2.2.2.2.2.2.2.1 bt434.2.2.2.2.2.2.2.2.2.2.2 20).bind fun bt447=>((spec_l1Cur_pick.f s0_0 bt447.2.1 bt447.2.2 8).bind fun bt450=>((spec_l1Cur_one.f s0_0 bt450.2.1 bt450.2.2 20).bind fun bt453=>(if bt453.1=true then ((spec_l1Cur_bundle.f k s0_0 bt453.2.1 bt453.2.2).bind fun bt456=>((spec_l1Cur_plan.f k s0_0 bt456.2.2.2.2.2.2.2.2.2.2.1 bt456.2.2.2.2.2.2.2.2.2.2.2).bind fun bt468=>(some (bt468.1,bt456.1,bt456.2.1,bt456.2.2.1,bt456.2.2.2.1,bt456.2.2.2.2.1,bt456.2.2.2.2.2.1,bt456.2.2.2.2.2.2.1,bt456.2.2.2.2.2.2.2.1,bt456.2.2.2.2.2.2.2.2.1,bt456.2.2.2.2.2.2.2.2.2.1,bt468.2.1,bt468.2.2)))) else ((spec_l1Cur_plan.f k s0_0 bt453.2.1 bt453.2.2).bind fun bt473=>(some (bt473.1,bt434.1,bt434.2.1,bt434.2.2.1,bt447.1,bt434.2.2.2.2.1,bt434.2.2.2.2.2.1,bt450.1,bt434.2.2.2.2.2.2.2.1,bt434.2.2.2.2.2.2.2.2.1,bt434.2.2.2.2.2.2.2.2.2.1,bt473.2.1,bt473.2.2)))))))
theorem spec_l1Cur_planned.mono : ∀ a0 a1 a2 k,LeO (spec_l1Cur_planned.f k a0 a1 a2) (spec_l1Cur_planned.f (k+1) a0 a1 a2):=by
 intro a0 a1 a2 k
 unfold spec_l1Cur_planned.f
 repeat' first
  | (with_reducible exact spec_l1Cur_bundle.mono _ _ _ _)
  | (with_reducible exact spec_l1Cur_plan.mono _ _ _ _)
  | (with_reducible exact spec_l1Cur_wholeBundle.mono _ _ _ _)
  | (with_reducible exact LeO.refl _)
  | (with_reducible exact LeO.none _)
  | (with_reducible refine LeO.ite ?_ ?_)
  | (with_reducible refine LeO.bind ?_ (fun _ => ?_))
set_option maxHeartbeats 8000000 in
set_option maxRecDepth 100000 in
theorem spec_l1Cur_planned.calls (k:Nat) (g:Nat) (s0_0:List Int) (s0_1:Int) (s0_2:Int) (r1:List (S104)) (r2:Int) (r3:Int) (r4:Bool) (r5:Int) (r6:Int) (r7:Int) (r8:Int) (r9:Int) (r10:Int) (r11:ByteArray) (r12:Int) (r13:Int) (w0 w:World) (hI:IsS138 w0 w g s0_0 s0_1 s0_2) (hB:Below w0.heap.size w0 w) (h:spec_l1Cur_planned.f k s0_0 s0_1 s0_2=some (r1,r2,r3,r4,r5,r6,r7,r8,r9,r10,r11,r12,r13)) :
  Calls Try.prog 125 #[.pointer (some ⟨g,0,none⟩)] w fun e w' => ∃ v0_:Value,e=.returned (.tuple #[v0_,.agg #[.int .i64 r2,.int .i64 r3,.bool r4,.int .i64 r5,.int .i64 r6,.int .i64 r7,.int .i64 r8,.int .i64 r9,.int .i64 r10,.string r11]])∧Kd.R k104 104 w' w.heap.size (fun _=>True) v0_ r1∧IsS138 w0 w' g s0_0 r12 r13∧Below w0.heap.size w0 w'∧KeepBut w w' g none:=by
 have hu86:=Try.underlying86
 have HI0:=am hI
 have HK:=am (KeepBut.refl w g none)
 have HL:=am hB.size
 clear hI
 have HW0:=am hB.size
 have HB:=am hB
 clear hB
 have H:((spec_l1Cur_wholeBundle.f k s0_0 s0_1 s0_2).bind fun bt434=>((spec_l1Cur_pick.f s0_0 bt434.2.2.2.2.2.2.2.2.2.2.1 bt434.2.2.2.2.2.2.2.2.2.2.2 20).bind fun bt447=>((spec_l1Cur_pick.f s0_0 bt447.2.1 bt447.2.2 8).bind fun bt450=>((spec_l1Cur_one.f s0_0 bt450.2.1 bt450.2.2 20).bind fun bt453=>(if bt453.1=true then ((spec_l1Cur_bundle.f k s0_0 bt453.2.1 bt453.2.2).bind fun bt456=>((spec_l1Cur_plan.f k s0_0 bt456.2.2.2.2.2.2.2.2.2.2.1 bt456.2.2.2.2.2.2.2.2.2.2.2).bind fun bt468=>(some (bt468.1,bt456.1,bt456.2.1,bt456.2.2.1,bt456.2.2.2.1,bt456.2.2.2.2.1,bt456.2.2.2.2.2.1,bt456.2.2.2.2.2.2.1,bt456.2.2.2.2.2.2.2.1,bt456.2.2.2.2.2.2.2.2.1,bt456.2.2.2.2.2.2.2.2.2.1,bt468.2.1,bt468.2.2)))) else ((spec_l1Cur_plan.f k s0_0 bt453.2.1 bt453.2.2).bind fun bt473=>(some (bt473.1,bt434.1,bt434.2.1,bt434.2.2.1,bt447.1,bt434.2.2.2.2.1,bt434.2.2.2.2.2.1,bt450.1,bt434.2.2.2.2.2.2.2.1,bt434.2.2.2.2.2.2.2.2.1,bt434.2.2.2.2.2.2.2.2.2.1,bt473.2.1,bt473.2.2))))))))=some (r1,r2,r3,r4,r5,r6,r7,r8,r9,r10,r11,r12,r13):=h
 clear h
 replace H:=bI_ H
 obtain⟨⟨t434,t435,t436,t437,t438,t439,t440,t441,t442,t443,t444,t445⟩,A20,H⟩:=H
 replace H:((spec_l1Cur_pick.f s0_0 t444 t445 20).bind fun bt447=>((spec_l1Cur_pick.f s0_0 bt447.2.1 bt447.2.2 8).bind fun bt450=>((spec_l1Cur_one.f s0_0 bt450.2.1 bt450.2.2 20).bind fun bt453=>(if bt453.1=true then ((spec_l1Cur_bundle.f k s0_0 bt453.2.1 bt453.2.2).bind fun bt456=>((spec_l1Cur_plan.f k s0_0 bt456.2.2.2.2.2.2.2.2.2.2.1 bt456.2.2.2.2.2.2.2.2.2.2.2).bind fun bt468=>(some (bt468.1,bt456.1,bt456.2.1,bt456.2.2.1,bt456.2.2.2.1,bt456.2.2.2.2.1,bt456.2.2.2.2.2.1,bt456.2.2.2.2.2.2.1,bt456.2.2.2.2.2.2.2.1,bt456.2.2.2.2.2.2.2.2.1,bt456.2.2.2.2.2.2.2.2.2.1,bt468.2.1,bt468.2.2)))) else ((spec_l1Cur_plan.f k s0_0 bt453.2.1 bt453.2.2).bind fun bt473=>(some (bt473.1,t434,t435,t436,bt447.1,t438,t439,bt450.1,t441,t442,t443,bt473.2.1,bt473.2.2)))))))=some (r1,r2,r3,r4,r5,r6,r7,r8,r9,r10,r11,r12,r13):=H
 have A2:=am A20
 clear A20
 replace H:=bI_ H
 obtain⟨⟨t447,t448,t449⟩,A30,H⟩:=H
 replace H:((spec_l1Cur_pick.f s0_0 t448 t449 8).bind fun bt450=>((spec_l1Cur_one.f s0_0 bt450.2.1 bt450.2.2 20).bind fun bt453=>(if bt453.1=true then ((spec_l1Cur_bundle.f k s0_0 bt453.2.1 bt453.2.2).bind fun bt456=>((spec_l1Cur_plan.f k s0_0 bt456.2.2.2.2.2.2.2.2.2.2.1 bt456.2.2.2.2.2.2.2.2.2.2.2).bind fun bt468=>(some (bt468.1,bt456.1,bt456.2.1,bt456.2.2.1,bt456.2.2.2.1,bt456.2.2.2.2.1,bt456.2.2.2.2.2.1,bt456.2.2.2.2.2.2.1,bt456.2.2.2.2.2.2.2.1,bt456.2.2.2.2.2.2.2.2.1,bt456.2.2.2.2.2.2.2.2.2.1,bt468.2.1,bt468.2.2)))) else ((spec_l1Cur_plan.f k s0_0 bt453.2.1 bt453.2.2).bind fun bt473=>(some (bt473.1,t434,t435,t436,t447,t438,t439,bt450.1,t441,t442,t443,bt473.2.1,bt473.2.2))))))=some (r1,r2,r3,r4,r5,r6,r7,r8,r9,r10,r11,r12,r13):=H
 have A3:=am A30
 clear A30
 replace H:=bI_ H
 obtain⟨⟨t450,t451,t452⟩,A40,H⟩:=H
 replace H:((spec_l1Cur_one.f s0_0 t451 t452 20).bind fun bt453=>(if bt453.1=true then ((spec_l1Cur_bundle.f k s0_0 bt453.2.1 bt453.2.2).bind fun bt456=>((spec_l1Cur_plan.f k s0_0 bt456.2.2.2.2.2.2.2.2.2.2.1 bt456.2.2.2.2.2.2.2.2.2.2.2).bind fun bt468=>(some (bt468.1,bt456.1,bt456.2.1,bt456.2.2.1,bt456.2.2.2.1,bt456.2.2.2.2.1,bt456.2.2.2.2.2.1,bt456.2.2.2.2.2.2.1,bt456.2.2.2.2.2.2.2.1,bt456.2.2.2.2.2.2.2.2.1,bt456.2.2.2.2.2.2.2.2.2.1,bt468.2.1,bt468.2.2)))) else ((spec_l1Cur_plan.f k s0_0 bt453.2.1 bt453.2.2).bind fun bt473=>(some (bt473.1,t434,t435,t436,t447,t438,t439,t450,t441,t442,t443,bt473.2.1,bt473.2.2)))))=some (r1,r2,r3,r4,r5,r6,r7,r8,r9,r10,r11,r12,r13):=H
 have A4:=am A40
 clear A40
 replace H:=bI_ H
 obtain⟨⟨t453,t454,t455⟩,A50,H⟩:=H
 replace H:(if t453=true then ((spec_l1Cur_bundle.f k s0_0 t454 t455).bind fun bt456=>((spec_l1Cur_plan.f k s0_0 bt456.2.2.2.2.2.2.2.2.2.2.1 bt456.2.2.2.2.2.2.2.2.2.2.2).bind fun bt468=>(some (bt468.1,bt456.1,bt456.2.1,bt456.2.2.1,bt456.2.2.2.1,bt456.2.2.2.2.1,bt456.2.2.2.2.2.1,bt456.2.2.2.2.2.2.1,bt456.2.2.2.2.2.2.2.1,bt456.2.2.2.2.2.2.2.2.1,bt456.2.2.2.2.2.2.2.2.2.1,bt468.2.1,bt468.2.2)))) else ((spec_l1Cur_plan.f k s0_0 t454 t455).bind fun bt473=>(some (bt473.1,t434,t435,t436,t447,t438,t439,t450,t441,t442,t443,bt473.2.1,bt473.2.2))))=some (r1,r2,r3,r4,r5,r6,r7,r8,r9,r10,r11,r12,r13):=H
 have A5:=am A50
 clear A50
 by_cases c6:t453=true
 ·subst c6
  have H1:((spec_l1Cur_bundle.f k s0_0 t454 t455).bind fun bt456=>((spec_l1Cur_plan.f k s0_0 bt456.2.2.2.2.2.2.2.2.2.2.1 bt456.2.2.2.2.2.2.2.2.2.2.2).bind fun bt468=>(some (bt468.1,bt456.1,bt456.2.1,bt456.2.2.1,bt456.2.2.2.1,bt456.2.2.2.2.1,bt456.2.2.2.2.2.1,bt456.2.2.2.2.2.2.1,bt456.2.2.2.2.2.2.2.1,bt456.2.2.2.2.2.2.2.2.1,bt456.2.2.2.2.2.2.2.2.2.1,bt468.2.1,bt468.2.2))))=some (r1,r2,r3,r4,r5,r6,r7,r8,r9,r10,r11,r12,r13):=by rw[if_pos rfl] at H;exact H
  clear H
  have H:=H1
  clear H1
  replace H:=bI_ H
  obtain⟨⟨t456,t457,t458,t459,t460,t461,t462,t463,t464,t465,t466,t467⟩,A70,H⟩:=H
  replace H:((spec_l1Cur_plan.f k s0_0 t466 t467).bind fun bt468=>(some (bt468.1,t456,t457,t458,t459,t460,t461,t462,t463,t464,t465,bt468.2.1,bt468.2.2)))=some (r1,r2,r3,r4,r5,r6,r7,r8,r9,r10,r11,r12,r13):=H
  have A7:=am A70
  clear A70
  replace H:=bI_ H
  obtain⟨⟨t468,t471,t472⟩,A80,H⟩:=H
  replace H:(some (t468,t456,t457,t458,t459,t460,t461,t462,t463,t464,t465,t471,t472))=some (r1,r2,r3,r4,r5,r6,r7,r8,r9,r10,r11,r12,r13):=H
  have A8:=am A80
  clear A80
  simp only[Option.some.injEq,Prod.mk.injEq] at H
  obtain⟨rfl,rfl,rfl,rfl,rfl,rfl,rfl,rfl,rfl,rfl,rfl,rfl,rfl⟩:=H
  go_enter Try.func125,Try.ntmps125
  try go_wp2_with (first|((with_reducible refine gate_dst (N:=3) rfl ?_);refine box_event ?hg (N:=3) ?hd (cs:=#[.int .i64 0,.int .i64 0,.bool false,.int .i64 0,.int .i64 0,.int .i64 0,.int .i64 0,.int .i64 0,.int .i64 0,.string (⟨#[]⟩:ByteArray)]) (t:=86) ?hr ?_;(case hd=>rfl);(case hg=>rfl);(case hr=>first|(go_simp;done)|(go_simp;rfl));intro gb433 hg w9 hbox hb;have n0_:=am (IsS138.below (b13_) hb);have n1_:=am (KeepBut.trans (b0_) (KeepBut.of_below hb g none) (.inl rfl));have n2_:=am (below_step (b14_) hb);have n3_:=am (hbox);have n4_:=am ((by rw[hg];exact(keep_size (w:=w) (g:=g) (row:=none) (b0_)):w.heap.size≤gb433));have n5_:=am ((Nat.le_trans HW0.out (by rw[hg];exact(keep_size (w:=w) (g:=g) (row:=none) (b0_)):w.heap.size≤gb433):w0.heap.size≤gb433));have n6_:=am ((by rw[hg];exact Nat.ne_of_lt (IsS138.lt (show IsS138 w0 _ g s0_0 s0_1 s0_2 from by repeat (first|(with_reducible first|exact HI0.out|apply IsS138.alloc|apply IsS138.drewN|apply IsS138.drew|apply IsS138.set_1|apply IsS138.set_2)|exact HI0.out))):g≠gb433));have n7_:=am ((by rw[hg];exact Nat.ne_of_gt (IsS138.lt (show IsS138 w0 _ g s0_0 s0_1 s0_2 from by repeat (first|(with_reducible first|exact HI0.out|apply IsS138.alloc|apply IsS138.drewN|apply IsS138.drew|apply IsS138.set_1|apply IsS138.set_2)|exact HI0.out))):gb433≠g));(try clear HI0);clear HK HB;have HI0:=n0_;have HK:=n1_;have HB:=n2_;have BK433:=n3_;have GW433:=n4_;have GE433:=n5_;have NB0_433:=n6_;have NB433_0:=n7_;clear n0_ n1_ n2_ n3_ n4_ n5_ n6_ n7_;clear hb hbox hg)|((with_reducible refine gate_callee (f:=160) rfl ?_);refine goesA (some 6) rfl rfl Try.func160 #[.pointer (some ⟨g,0,none⟩)] rfl ?_;(with_reducible refine(spec_l1Cur_wholeBundle.calls k g s0_0 s0_1 s0_2 t434 t435 t436 t437 t438 t439 t440 t441 t442 t443 t444 t445 w0 _ ?side1 ?side2 A2.out).mono ?_);(case side1=>repeat (first|(with_reducible first|exact HI0.out|apply IsS138.alloc|apply IsS138.drewN|apply IsS138.drew|apply IsS138.set_1|apply IsS138.set_2|apply IsS138.far (hne:=NB0_433.out))|exact HI0.out));(case side2=>repeat (first|(with_reducible first|exact HB.out|apply below_alloc|apply pw_below_drewN|apply below_drew1|refine below_set ?_ (IsS138.ge HI0.out)|refine below_set ?_ GE433.out)|exact HB.out));rintro e w10 ⟨rfl,hi,hb,hk⟩;refine⟨_,rfl,?_⟩;have n0_:=am (KeepBut.blk hk (g':=gb433) (o:=.cells #[.int .i64 0,.int .i64 0,.bool false,.int .i64 0,.int .i64 0,.int .i64 0,.int .i64 0,.int .i64 0,.int .i64 0,.string (⟨#[]⟩:ByteArray)] 86 (0,0)) (bL BK433.out) NB433_0.out (b27_));have n1_:=am (KeepBut.trans (b16_) hk (.inl rfl));have n2_:=am (hb);have n3_:=am (hi);clear BK433 HK HB;(try clear HI0);have BK433:=n0_;have HK:=n1_;have HB:=n2_;have HI0:=n3_;clear n0_ n1_ n2_ n3_;(try clear hb);(try clear hb2);(try clear hk);(try clear hi))|((with_reducible refine gate_dst (N:=4) rfl ?_);refine box_event ?hg (N:=4) ?hd (cs:=#[.int .i64 0,.int .i64 0,.bool false,.int .i64 0,.int .i64 0,.int .i64 0,.int .i64 0,.int .i64 0,.int .i64 0,.string (⟨#[]⟩:ByteArray)]) (t:=86) ?hr ?_;(case hd=>rfl);(case hg=>rfl);(case hr=>first|(go_simp;done)|(go_simp;rfl));intro gb446 hg w11 hbox hb;have n0_:=am (IsS138.below (by repeat (first|(with_reducible first|exact HI0.out|apply IsS138.alloc|apply IsS138.drewN|apply IsS138.drew|apply IsS138.set_1|apply IsS138.set_2|apply IsS138.far (hne:=NB0_433.out))|exact HI0.out)) hb);have n1_:=am (bM BK433.out hb);have n2_:=am (KeepBut.trans (b16_) (KeepBut.of_below hb g none) (.inl rfl));have n3_:=am (below_step (by repeat (first|(with_reducible first|exact HB.out|apply below_alloc|apply pw_below_drewN|apply below_drew1|refine below_set ?_ (IsS138.ge HI0.out)|refine below_set ?_ GE433.out)|exact HB.out)) hb);have n4_:=am (hbox);have n5_:=am ((by rw[hg];exact(keep_size (w:=w) (g:=g) (row:=none) (b16_)):w.heap.size≤gb446));have n6_:=am ((Nat.le_trans HW0.out (by rw[hg];exact(keep_size (w:=w) (g:=g) (row:=none) (b16_)):w.heap.size≤gb446):w0.heap.size≤gb446));have n7_:=am ((bN BK433.out hg:gb433≠gb446));have n8_:=am ((bO BK433.out hg:gb446≠gb433));have n9_:=am ((by rw[hg];exact Nat.ne_of_lt (IsS138.lt (show IsS138 w0 _ g s0_0 t444 t445 from by repeat (first|(with_reducible first|exact HI0.out|apply IsS138.alloc|apply IsS138.drewN|apply IsS138.drew|apply IsS138.set_1|apply IsS138.set_2|apply IsS138.far (hne:=NB0_433.out))|exact HI0.out))):g≠gb446));have n10_:=am ((by rw[hg];exact Nat.ne_of_gt (IsS138.lt (show IsS138 w0 _ g s0_0 t444 t445 from by repeat (first|(with_reducible first|exact HI0.out|apply IsS138.alloc|apply IsS138.drewN|apply IsS138.drew|apply IsS138.set_1|apply IsS138.set_2|apply IsS138.far (hne:=NB0_433.out))|exact HI0.out))):gb446≠g));(try clear HI0);clear BK433 HK HB;have HI0:=n0_;have BK433:=n1_;have HK:=n2_;have HB:=n3_;have BK446:=n4_;have GW446:=n5_;have GE446:=n6_;have NB433_446:=n7_;have NB446_433:=n8_;have NB0_446:=n9_;have NB446_0:=n10_;clear n0_ n1_ n2_ n3_ n4_ n5_ n6_ n7_ n8_ n9_ n10_;clear hb hbox hg;have hnb12:=NB446_433.out;have hnc12:=NB433_446.out;have hnb13:=NB446_0.out;have hnc13:=NB0_446.out;obtain⟨hcz14_0,hcz14_1,hcz14_2,hcz14_3,hcz14_4,hcz14_5,hcz14_6,hcz14_7,hcz14_8,hcz14_9⟩:=cC10 BK446.out;obtain⟨hfz14_0,hfz14_1,hfz14_2,hfz14_3,hfz14_4,hfz14_5,hfz14_6,hfz14_7,hfz14_8,hfz14_9⟩:=cF10 BK446.out)|((with_reducible refine gate_callee (f:=116) rfl ?_);refine goesA (some 8) rfl rfl Try.func116 #[.pointer (some ⟨g,0,none⟩),.int .i64 20] rfl ?_;(with_reducible refine(spec_l1Cur_pick.calls g s0_0 t444 t445 20 t447 t448 t449 w0 _ ?side1 ?side2 A3.out).mono ?_);(case side1=>exact b33_);(case side2=>exact b34_);rintro e w15 ⟨rfl,hi,hb,hk⟩;refine⟨_,rfl,?_⟩;have n0_:=am (KeepBut.blk hk (g':=gb433) (o:=.cells #[.int .i64 0,.int .i64 0,.bool false,.int .i64 0,.int .i64 0,.int .i64 0,.int .i64 0,.int .i64 0,.int .i64 0,.string (⟨#[]⟩:ByteArray)] 86 (0,0)) (b4_) NB433_0.out (b27_));have n1_:=am (KeepBut.blk hk (g':=gb446) (o:=.cells #[.int .i64 t434,.int .i64 t435,.bool t436,.int .i64 t437,.int .i64 t438,.int .i64 t439,.int .i64 t440,.int .i64 t441,.int .i64 t442,.string t443] 86 (0,0)) (b2_) NB446_0.out (b27_));have n2_:=am (KeepBut.trans (b9_) hk (.inl rfl));have n3_:=am (hb);have n4_:=am (hi);clear BK433 BK446 HK HB;(try clear HI0);have BK433:=n0_;have BK446:=n1_;have HK:=n2_;have HB:=n3_;have HI0:=n4_;clear n0_ n1_ n2_ n3_ n4_;(try clear hb);(try clear hb2);(try clear hk);(try clear hi);obtain⟨hcz16_0,hcz16_1,hcz16_2,hcz16_3,hcz16_4,hcz16_5,hcz16_6,hcz16_7,hcz16_8,hcz16_9⟩:=cC10 BK446.out;obtain⟨hfz16_0,hfz16_1,hfz16_2,hfz16_3,hfz16_4,hfz16_5,hfz16_6,hfz16_7,hfz16_8,hfz16_9⟩:=cF10 BK446.out)|((with_reducible refine gate_callee (f:=116) rfl ?_);refine goesA (some 11) rfl rfl Try.func116 #[.pointer (some ⟨g,0,none⟩),.int .i64 8] rfl ?_;(with_reducible refine(spec_l1Cur_pick.calls g s0_0 t448 t449 8 t450 t451 t452 w0 _ ?side1 ?side2 A4.out).mono ?_);(case side1=>exact b33_);(case side2=>exact b34_);rintro e w17 ⟨rfl,hi,hb,hk⟩;refine⟨_,rfl,?_⟩;have n0_:=am (KeepBut.blk hk (g':=gb433) (o:=.cells #[.int .i64 0,.int .i64 0,.bool false,.int .i64 0,.int .i64 0,.int .i64 0,.int .i64 0,.int .i64 0,.int .i64 0,.string (⟨#[]⟩:ByteArray)] 86 (0,0)) (b19_) NB433_0.out (b27_));have n1_:=am (KeepBut.blk hk (g':=gb446) (o:=.cells #[.int .i64 t434,.int .i64 t435,.bool t436,.int .i64 t447,.int .i64 t438,.int .i64 t439,.int .i64 t440,.int .i64 t441,.int .i64 t442,.string t443] 86 (0,0)) (b23_) NB446_0.out (b27_));have n2_:=am (KeepBut.trans (b9_) hk (.inl rfl));have n3_:=am (hb);have n4_:=am (hi);clear BK433 BK446 HK HB;(try clear HI0);have BK433:=n0_;have BK446:=n1_;have HK:=n2_;have HB:=n3_;have HI0:=n4_;clear n0_ n1_ n2_ n3_ n4_;(try clear hb);(try clear hb2);(try clear hk);(try clear hi);obtain⟨hcz18_0,hcz18_1,hcz18_2,hcz18_3,hcz18_4,hcz18_5,hcz18_6,hcz18_7,hcz18_8,hcz18_9⟩:=cC10 BK446.out;obtain⟨hfz18_0,hfz18_1,hfz18_2,hfz18_3,hfz18_4,hfz18_5,hfz18_6,hfz18_7,hfz18_8,hfz18_9⟩:=cF10 BK446.out)|((with_reducible refine gate_callee (f:=153) rfl ?_);refine goesA (some 14) rfl rfl Try.func153 #[.pointer (some ⟨g,0,none⟩),.int .i64 20] rfl ?_;(with_reducible refine(spec_l1Cur_one.calls g s0_0 t451 t452 20 true t454 t455 w0 _ ?side1 ?side2 A5.out).mono ?_);(case side1=>exact b33_);(case side2=>exact b34_);rintro e w19 ⟨rfl,hi,hb,hk⟩;refine⟨_,rfl,?_⟩;have n0_:=am (KeepBut.blk hk (g':=gb433) (o:=.cells #[.int .i64 0,.int .i64 0,.bool false,.int .i64 0,.int .i64 0,.int .i64 0,.int .i64 0,.int .i64 0,.int .i64 0,.string (⟨#[]⟩:ByteArray)] 86 (0,0)) (b19_) NB433_0.out (b27_));have n1_:=am (KeepBut.blk hk (g':=gb446) (o:=.cells #[.int .i64 t434,.int .i64 t435,.bool t436,.int .i64 t447,.int .i64 t438,.int .i64 t439,.int .i64 t450,.int .i64 t441,.int .i64 t442,.string t443] 86 (0,0)) (b24_) NB446_0.out (b27_));have n2_:=am (KeepBut.trans (b9_) hk (.inl rfl));have n3_:=am (hb);have n4_:=am (hi);clear BK433 BK446 HK HB;(try clear HI0);have BK433:=n0_;have BK446:=n1_;have HK:=n2_;have HB:=n3_;have HI0:=n4_;clear n0_ n1_ n2_ n3_ n4_;(try clear hb);(try clear hb2);(try clear hk);(try clear hi))|((with_reducible refine gate_callee (f:=161) rfl ?_);refine goesA (some 16) rfl rfl Try.func161 #[.pointer (some ⟨g,0,none⟩)] rfl ?_;(with_reducible refine(spec_l1Cur_bundle.calls k g s0_0 t454 t455 t456 t457 t458 t459 t460 t461 t462 t463 t464 t465 t466 t467 w0 _ ?side1 ?side2 A7.out).mono ?_);(case side1=>exact b33_);(case side2=>exact b34_);rintro e w20 ⟨rfl,hi,hb,hk⟩;refine⟨_,rfl,?_⟩;have n0_:=am (KeepBut.blk hk (g':=gb433) (o:=.cells #[.int .i64 0,.int .i64 0,.bool false,.int .i64 0,.int .i64 0,.int .i64 0,.int .i64 0,.int .i64 0,.int .i64 0,.string (⟨#[]⟩:ByteArray)] 86 (0,0)) (bL BK433.out) NB433_0.out (b27_));have n1_:=am (KeepBut.blk hk (g':=gb446) (o:=.cells #[.int .i64 t434,.int .i64 t435,.bool t436,.int .i64 t447,.int .i64 t438,.int .i64 t439,.int .i64 t450,.int .i64 t441,.int .i64 t442,.string t443] 86 (0,0)) (bL BK446.out) NB446_0.out (b27_));have n2_:=am (KeepBut.trans (b9_) hk (.inl rfl));have n3_:=am (hb);have n4_:=am (hi);clear BK433 BK446 HK HB;(try clear HI0);have BK433:=n0_;have BK446:=n1_;have HK:=n2_;have HB:=n3_;have HI0:=n4_;clear n0_ n1_ n2_ n3_ n4_;(try clear hb);(try clear hb2);(try clear hk);(try clear hi);obtain⟨hcz21_0,hcz21_1,hcz21_2,hcz21_3,hcz21_4,hcz21_5,hcz21_6,hcz21_7,hcz21_8,hcz21_9⟩:=cC10 BK446.out;obtain⟨hfz21_0,hfz21_1,hfz21_2,hfz21_3,hfz21_4,hfz21_5,hfz21_6,hfz21_7,hfz21_8,hfz21_9⟩:=cF10 BK446.out))
  have n0_:Aside0 (((((((((((w20.setCell ⟨gb446,0,none⟩ (.int .i64 t456)).setCell ⟨gb446,1,none⟩ (.int .i64 t457)).setCell ⟨gb446,2,none⟩ (.bool t458)).setCell ⟨gb446,3,none⟩ (.int .i64 t459)).setCell ⟨gb446,4,none⟩ (.int .i64 t460)).setCell ⟨gb446,5,none⟩ (.int .i64 t461)).setCell ⟨gb446,6,none⟩ (.int .i64 t462)).setCell ⟨gb446,7,none⟩ (.int .i64 t463)).setCell ⟨gb446,8,none⟩ (.int .i64 t464)).setCell ⟨gb446,9,none⟩ (.string t465)).heap[gb433]?=some (.cells #[.int .i64 0,.int .i64 0,.bool false,.int .i64 0,.int .i64 0,.int .i64 0,.int .i64 0,.int .i64 0,.int .i64 0,.string (⟨#[]⟩:ByteArray)] 86 (0,0))):=⟨by(with_reducible repeat (first|refine blk_drewN ?_ _|refine blk_drew ?_|refine blk_alloc ?_ _));refine blk_far ?_ NB433_446.out _;(with_reducible repeat (first|refine blk_drewN ?_ _|refine blk_drew ?_|refine blk_alloc ?_ _));refine blk_far ?_ NB433_446.out _;(with_reducible repeat (first|refine blk_drewN ?_ _|refine blk_drew ?_|refine blk_alloc ?_ _));refine blk_far ?_ NB433_446.out _;(with_reducible repeat (first|refine blk_drewN ?_ _|refine blk_drew ?_|refine blk_alloc ?_ _));refine blk_far ?_ NB433_446.out _;(with_reducible repeat (first|refine blk_drewN ?_ _|refine blk_drew ?_|refine blk_alloc ?_ _));refine blk_far ?_ NB433_446.out _;(with_reducible repeat (first|refine blk_drewN ?_ _|refine blk_drew ?_|refine blk_alloc ?_ _));refine blk_far ?_ NB433_446.out _;(with_reducible repeat (first|refine blk_drewN ?_ _|refine blk_drew ?_|refine blk_alloc ?_ _));refine blk_far ?_ NB433_446.out _;(with_reducible repeat (first|refine blk_drewN ?_ _|refine blk_drew ?_|refine blk_alloc ?_ _));refine blk_far ?_ NB433_446.out _;(with_reducible repeat (first|refine blk_drewN ?_ _|refine blk_drew ?_|refine blk_alloc ?_ _));refine blk_far ?_ NB433_446.out _;(with_reducible repeat (first|refine blk_drewN ?_ _|refine blk_drew ?_|refine blk_alloc ?_ _));refine blk_far ?_ NB433_446.out _;(with_reducible repeat (first|refine blk_drewN ?_ _|refine blk_drew ?_|refine blk_alloc ?_ _));exact BK433.out⟩
  have n1_:Aside0 (((((((((((w20.setCell ⟨gb446,0,none⟩ (.int .i64 t456)).setCell ⟨gb446,1,none⟩ (.int .i64 t457)).setCell ⟨gb446,2,none⟩ (.bool t458)).setCell ⟨gb446,3,none⟩ (.int .i64 t459)).setCell ⟨gb446,4,none⟩ (.int .i64 t460)).setCell ⟨gb446,5,none⟩ (.int .i64 t461)).setCell ⟨gb446,6,none⟩ (.int .i64 t462)).setCell ⟨gb446,7,none⟩ (.int .i64 t463)).setCell ⟨gb446,8,none⟩ (.int .i64 t464)).setCell ⟨gb446,9,none⟩ (.string t465)).heap[gb446]?=some (.cells #[.int .i64 t456,.int .i64 t457,.bool t458,.int .i64 t459,.int .i64 t460,.int .i64 t461,.int .i64 t462,.int .i64 t463,.int .i64 t464,.string t465] 86 (0,0))):=⟨by(with_reducible repeat (first|refine blk_drewN ?_ _|refine blk_drew ?_|refine blk_alloc ?_ _));apply bU10;(with_reducible repeat (first|refine blk_drewN ?_ _|refine blk_drew ?_|refine blk_alloc ?_ _));exact BK446.out⟩
  have n2_:Aside0 (IsS138 w0 ((((((((((w20.setCell ⟨gb446,0,none⟩ (.int .i64 t456)).setCell ⟨gb446,1,none⟩ (.int .i64 t457)).setCell ⟨gb446,2,none⟩ (.bool t458)).setCell ⟨gb446,3,none⟩ (.int .i64 t459)).setCell ⟨gb446,4,none⟩ (.int .i64 t460)).setCell ⟨gb446,5,none⟩ (.int .i64 t461)).setCell ⟨gb446,6,none⟩ (.int .i64 t462)).setCell ⟨gb446,7,none⟩ (.int .i64 t463)).setCell ⟨gb446,8,none⟩ (.int .i64 t464)).setCell ⟨gb446,9,none⟩ (.string t465)) g s0_0 t466 t467):=⟨by repeat (first|(with_reducible first|exact HI0.out|apply IsS138.alloc|apply IsS138.drewN|apply IsS138.drew|apply IsS138.set_1|apply IsS138.set_2|apply IsS138.far (hne:=NB0_433.out)|apply IsS138.far (hne:=NB0_446.out))|exact HI0.out)⟩
  have n3_:Aside0 (KeepBut w ((((((((((w20.setCell ⟨gb446,0,none⟩ (.int .i64 t456)).setCell ⟨gb446,1,none⟩ (.int .i64 t457)).setCell ⟨gb446,2,none⟩ (.bool t458)).setCell ⟨gb446,3,none⟩ (.int .i64 t459)).setCell ⟨gb446,4,none⟩ (.int .i64 t460)).setCell ⟨gb446,5,none⟩ (.int .i64 t461)).setCell ⟨gb446,6,none⟩ (.int .i64 t462)).setCell ⟨gb446,7,none⟩ (.int .i64 t463)).setCell ⟨gb446,8,none⟩ (.int .i64 t464)).setCell ⟨gb446,9,none⟩ (.string t465)) g none):=⟨by repeat (first|(with_reducible first|exact HK.out|apply KeepBut.set_|apply keep_drewN|apply keep_drew|apply keep_alloc|refine keep_far ?_ GW433.out _|refine keep_far ?_ GW446.out _)|exact HK.out)⟩
  have n4_:Aside0 (Below w0.heap.size w0 ((((((((((w20.setCell ⟨gb446,0,none⟩ (.int .i64 t456)).setCell ⟨gb446,1,none⟩ (.int .i64 t457)).setCell ⟨gb446,2,none⟩ (.bool t458)).setCell ⟨gb446,3,none⟩ (.int .i64 t459)).setCell ⟨gb446,4,none⟩ (.int .i64 t460)).setCell ⟨gb446,5,none⟩ (.int .i64 t461)).setCell ⟨gb446,6,none⟩ (.int .i64 t462)).setCell ⟨gb446,7,none⟩ (.int .i64 t463)).setCell ⟨gb446,8,none⟩ (.int .i64 t464)).setCell ⟨gb446,9,none⟩ (.string t465))):=⟨by repeat (first|(with_reducible first|exact HB.out|apply below_alloc|apply pw_below_drewN|apply below_drew1|refine below_set ?_ (IsS138.ge HI0.out)|refine below_set ?_ GE433.out|refine below_set ?_ GE446.out)|exact HB.out)⟩
  (try clear BK433)
  (try clear BK446)
  (try clear HI0)
  (try clear HK)
  (try clear HB)
  generalize ((((((((((w20.setCell ⟨gb446,0,none⟩ (.int .i64 t456)).setCell ⟨gb446,1,none⟩ (.int .i64 t457)).setCell ⟨gb446,2,none⟩ (.bool t458)).setCell ⟨gb446,3,none⟩ (.int .i64 t459)).setCell ⟨gb446,4,none⟩ (.int .i64 t460)).setCell ⟨gb446,5,none⟩ (.int .i64 t461)).setCell ⟨gb446,6,none⟩ (.int .i64 t462)).setCell ⟨gb446,7,none⟩ (.int .i64 t463)).setCell ⟨gb446,8,none⟩ (.int .i64 t464)).setCell ⟨gb446,9,none⟩ (.string t465))=w22 at n0_ n1_ n2_ n3_ n4_ ⊢
  have BK433:=n0_
  have BK446:=n1_
  have HI0:=n2_
  have HK:=n3_
  have HB:=n4_
  clear n0_ n1_ n2_ n3_ n4_
  (try (rw[drewN_self w22];generalize hq_:World.drewN w22 _=w22;have n0_:=am (blk_at hq_ BK433.out);have n1_:=am (blk_at hq_ BK446.out);have n2_:=am (IsS138.at_ hq_ HI0.out);have n3_:=am (keep_at hq_ HK.out);have n4_:=am (below_at hq_ HB.out);clear hq_ BK433 BK446 HI0 HK HB;have BK433:=n0_;have BK446:=n1_;have HI0:=n2_;have HK:=n3_;have HB:=n4_;clear n0_ n1_ n2_ n3_ n4_))
  have n0_:=am (blk_drew BK433.out)
  have n1_:=am (blk_drew BK446.out)
  have n2_:=am (IsS138.drew HI0.out)
  have n3_:=am (keep_drew HK.out)
  have n4_:=am (below_drew1 HB.out)
  clear BK433 BK446 HI0 HK HB
  have BK433:=n0_
  have BK446:=n1_
  have HI0:=n2_
  have HK:=n3_
  have HB:=n4_
  clear n0_ n1_ n2_ n3_ n4_
  refine start_ (n:=5) (S:=fun w'=>w'.cell? ⟨gb446,0,none⟩=some (.int .i64 t456)∧w'.cell? ⟨gb446,1,none⟩=some (.int .i64 t457)∧w'.cell? ⟨gb446,2,none⟩=some (.bool t458)∧w'.cell? ⟨gb446,3,none⟩=some (.int .i64 t459)∧w'.cell? ⟨gb446,4,none⟩=some (.int .i64 t460)∧w'.cell? ⟨gb446,5,none⟩=some (.int .i64 t461)∧w'.cell? ⟨gb446,6,none⟩=some (.int .i64 t462)∧w'.cell? ⟨gb446,7,none⟩=some (.int .i64 t463)∧w'.cell? ⟨gb446,8,none⟩=some (.int .i64 t464)∧w'.cell? ⟨gb446,9,none⟩=some (.string t465)) (ds:=[]) #[false,false,false,false,false] (b6_) rfl rfl (cC10 BK446.out) (fun hHeld => ?_)
  generalize w22.drew=w23 at BK433 BK446 HI0 HK HB hHeld ⊢
  refine pure_ (i:=0) (N:=some 17) (v:=?_) (a':=?_) #[true,false,false,false,false] rfl rfl (b6_) (fun _ _ _ h=>h) (Or.inl ⟨by rfl,?_⟩) ?_ ?_
  rotate_left
  ·intro w'
   go_simp
   with_reducible rfl
  rotate_left
  ·simp only[Act.put,zA,zB,zC,i64_w,i32_w]
   rfl
  refine take_ (i:=2) (N:=some 19) (v:=?_) (a':=?_) #[true,false,true,false,false] rfl rfl (b6_) (fun _ _ _ h=>h) (Or.inl ⟨by rfl,?_⟩) hHeld ?_ ?_
  rotate_left
  ·rintro w' ⟨s0,s1,s2,s3,s4,s5,s6,s7,s8,s9⟩
   go_simp
   with_reducible rfl
  rotate_left
  ·simp only[Act.put,zA,zB,zC,i64_w,i32_w]
   rfl
  refine one_ (i:=1) (N:=some 18) #[true,true,true,false,false] rfl rfl (b6_) (b20_) (fun K hK => ?_)
  refine goes_ Try.func162 (b6_) rfl #[.pointer (some ⟨g,0,none⟩)] (by rfl) rfl rfl (b7_) ?_
  with_reducible refine(spec_l1Cur_plan.calls k g s0_0 t466 t467 t468 t471 t472 w0 _ ?side1 ?side2 A8.out).mono ?_
  (case side1=>exact b33_)
  (case side2=>exact b34_)
  rintro e w24 ⟨v469,rfl,ho0,hi,hb,hk⟩
  refine⟨_,rfl,?_⟩
  have n0_:=am (KeepBut.blk hk (g':=gb433) (o:=.cells #[.int .i64 0,.int .i64 0,.bool false,.int .i64 0,.int .i64 0,.int .i64 0,.int .i64 0,.int .i64 0,.int .i64 0,.string (⟨#[]⟩:ByteArray)] 86 (0,0)) (bL BK433.out) NB433_0.out (b27_))
  have n1_:=am (KeepBut.blk hk (g':=gb446) (o:=.cells #[.int .i64 t456,.int .i64 t457,.bool t458,.int .i64 t459,.int .i64 t460,.int .i64 t461,.int .i64 t462,.int .i64 t463,.int .i64 t464,.string t465] 86 (0,0)) (bL BK446.out) NB446_0.out (b27_))
  have n2_:=am (Kd.R_lower ho0 (keep_size (w:=w) (g:=g) (row:=none) (b9_)))
  have n3_:=am (KeepBut.trans (b9_) hk (.inl rfl))
  have n4_:=am (hb)
  have n5_:=am (hi)
  clear BK433 BK446 HK HB HI0
  have BK433:=n0_
  have BK446:=n1_
  have HO470:=n2_
  have HK:=n3_
  have HB:=n4_
  have HI0:=n5_
  clear n0_ n1_ n2_ n3_ n4_ n5_
  (try clear hb)
  (try clear hb2)
  (try clear hk)
  (try clear hi)
  (try clear ho0)
  refine hK.out _ _ (cC10 BK446.out) (fun hHeld => ?_)
  clear hK K
  refine norm_ (a':=?_) ?_ ?_
  rotate_left
  ·show Act.put _ (some 18) _=_
   simp only[Act.put,zA,zB,zC,i64_w,i32_w]
   rfl
  refine pure_ (i:=3) (N:=some 2) (v:=?_) (a':=?_) #[true,true,true,true,false] rfl rfl (b6_) (fun _ _ _ h=>h) (Or.inl ⟨by rfl,?_⟩) ?_ ?_
  rotate_left
  ·intro w'
   go_simp
   with_reducible rfl
  rotate_left
  ·simp only[Act.put,zA,zB,zC,i64_w,i32_w]
   rfl
  refine one_ (i:=4) (N:=none) #[true,true,true,true,true] rfl rfl (b6_) (b20_) (fun K hK => ?_)
  have hs25:w24.cell? ⟨gb433,0,none⟩=some (.int .i64 0):=(blk_cell BK433.out 0).trans rfl
  have hfs25:=blk_frozen BK433.out 0
  have hns25_1:=NB446_433.out
  have hms25_1:=NB433_446.out
  have hs26:w24.cell? ⟨gb433,1,none⟩=some (.int .i64 0):=(blk_cell BK433.out 1).trans rfl
  have hfs26:=blk_frozen BK433.out 1
  have hns26_1:=NB446_433.out
  have hms26_1:=NB433_446.out
  have hs27:w24.cell? ⟨gb433,2,none⟩=some (.bool false):=(blk_cell BK433.out 2).trans rfl
  have hfs27:=blk_frozen BK433.out 2
  have hns27_1:=NB446_433.out
  have hms27_1:=NB433_446.out
  have hs28:w24.cell? ⟨gb433,3,none⟩=some (.int .i64 0):=(blk_cell BK433.out 3).trans rfl
  have hfs28:=blk_frozen BK433.out 3
  have hns28_1:=NB446_433.out
  have hms28_1:=NB433_446.out
  have hs29:w24.cell? ⟨gb433,4,none⟩=some (.int .i64 0):=(blk_cell BK433.out 4).trans rfl
  have hfs29:=blk_frozen BK433.out 4
  have hns29_1:=NB446_433.out
  have hms29_1:=NB433_446.out
  have hs30:w24.cell? ⟨gb433,5,none⟩=some (.int .i64 0):=(blk_cell BK433.out 5).trans rfl
  have hfs30:=blk_frozen BK433.out 5
  have hns30_1:=NB446_433.out
  have hms30_1:=NB433_446.out
  have hs31:w24.cell? ⟨gb433,6,none⟩=some (.int .i64 0):=(blk_cell BK433.out 6).trans rfl
  have hfs31:=blk_frozen BK433.out 6
  have hns31_1:=NB446_433.out
  have hms31_1:=NB433_446.out
  have hs32:w24.cell? ⟨gb433,7,none⟩=some (.int .i64 0):=(blk_cell BK433.out 7).trans rfl
  have hfs32:=blk_frozen BK433.out 7
  have hns32_1:=NB446_433.out
  have hms32_1:=NB433_446.out
  have hs33:w24.cell? ⟨gb433,8,none⟩=some (.int .i64 0):=(blk_cell BK433.out 8).trans rfl
  have hfs33:=blk_frozen BK433.out 8
  have hns33_1:=NB446_433.out
  have hms33_1:=NB433_446.out
  have hs34:w24.cell? ⟨gb433,9,none⟩=some (.string (⟨#[]⟩:ByteArray)):=(blk_cell BK433.out 9).trans rfl
  have hfs34:=blk_frozen BK433.out 9
  have hns34_1:=NB446_433.out
  have hms34_1:=NB433_446.out
  refine skip_ (w1:=?_) (by rfl) rfl ?_ ?_
  rotate_left
  ·go_simp
   rfl
  refine hK.out _ _ ⟨(cf_ NB446_433.out ((cf_ NB446_433.out ((cf_ NB446_433.out ((cf_ NB446_433.out ((cf_ NB446_433.out ((cf_ NB446_433.out ((cf_ NB446_433.out ((cf_ NB446_433.out ((cf_ NB446_433.out ((cf_ NB446_433.out (hHeld.1)))))))))))))))))))),(cf_ NB446_433.out ((cf_ NB446_433.out ((cf_ NB446_433.out ((cf_ NB446_433.out ((cf_ NB446_433.out ((cf_ NB446_433.out ((cf_ NB446_433.out ((cf_ NB446_433.out ((cf_ NB446_433.out ((cf_ NB446_433.out (hHeld.2.1)))))))))))))))))))),(cf_ NB446_433.out ((cf_ NB446_433.out ((cf_ NB446_433.out ((cf_ NB446_433.out ((cf_ NB446_433.out ((cf_ NB446_433.out ((cf_ NB446_433.out ((cf_ NB446_433.out ((cf_ NB446_433.out ((cf_ NB446_433.out (hHeld.2.2.1)))))))))))))))))))),(cf_ NB446_433.out ((cf_ NB446_433.out ((cf_ NB446_433.out ((cf_ NB446_433.out ((cf_ NB446_433.out ((cf_ NB446_433.out ((cf_ NB446_433.out ((cf_ NB446_433.out ((cf_ NB446_433.out ((cf_ NB446_433.out (hHeld.2.2.2.1)))))))))))))))))))),(cf_ NB446_433.out ((cf_ NB446_433.out ((cf_ NB446_433.out ((cf_ NB446_433.out ((cf_ NB446_433.out ((cf_ NB446_433.out ((cf_ NB446_433.out ((cf_ NB446_433.out ((cf_ NB446_433.out ((cf_ NB446_433.out (hHeld.2.2.2.2.1)))))))))))))))))))),(cf_ NB446_433.out ((cf_ NB446_433.out ((cf_ NB446_433.out ((cf_ NB446_433.out ((cf_ NB446_433.out ((cf_ NB446_433.out ((cf_ NB446_433.out ((cf_ NB446_433.out ((cf_ NB446_433.out ((cf_ NB446_433.out (hHeld.2.2.2.2.2.1)))))))))))))))))))),(cf_ NB446_433.out ((cf_ NB446_433.out ((cf_ NB446_433.out ((cf_ NB446_433.out ((cf_ NB446_433.out ((cf_ NB446_433.out ((cf_ NB446_433.out ((cf_ NB446_433.out ((cf_ NB446_433.out ((cf_ NB446_433.out (hHeld.2.2.2.2.2.2.1)))))))))))))))))))),(cf_ NB446_433.out ((cf_ NB446_433.out ((cf_ NB446_433.out ((cf_ NB446_433.out ((cf_ NB446_433.out ((cf_ NB446_433.out ((cf_ NB446_433.out ((cf_ NB446_433.out ((cf_ NB446_433.out ((cf_ NB446_433.out (hHeld.2.2.2.2.2.2.2.1)))))))))))))))))))),(cf_ NB446_433.out ((cf_ NB446_433.out ((cf_ NB446_433.out ((cf_ NB446_433.out ((cf_ NB446_433.out ((cf_ NB446_433.out ((cf_ NB446_433.out ((cf_ NB446_433.out ((cf_ NB446_433.out ((cf_ NB446_433.out (hHeld.2.2.2.2.2.2.2.2.1)))))))))))))))))))),(cf_ NB446_433.out ((cf_ NB446_433.out ((cf_ NB446_433.out ((cf_ NB446_433.out ((cf_ NB446_433.out ((cf_ NB446_433.out ((cf_ NB446_433.out ((cf_ NB446_433.out ((cf_ NB446_433.out ((cf_ NB446_433.out (hHeld.2.2.2.2.2.2.2.2.2))))))))))))))))))))⟩ (fun hHeld => ?_)
  clear hK K
  refine done_ (b6_) ?_
  try go_wp2
  refine bodyPost_ret (results_tc rfl _ _ gb433 86 #[.int .i64 t456,.int .i64 t457,.bool t458,.int .i64 t459,.int .i64 t460,.int .i64 t461,.int .i64 t462,.int .i64 t463,.int .i64 t464,.string t465] (0,0) _ rfl (by(with_reducible repeat (first|refine blk_drewN ?_ _|refine blk_drew ?_|refine blk_alloc ?_ _));apply bU10;(with_reducible repeat (first|refine blk_drewN ?_ _|refine blk_drew ?_|refine blk_alloc ?_ _));exact BK433.out) Try.underlying86 rfl (b6_)) rfl ?_
  exact⟨_,by first|rfl|(simp[errW_none,errW_some]<;>rfl)|(simp[*,errW_none,errW_some]<;>rfl),by(with_reducible repeat (first|apply Kd.R_alloc|apply Kd.R_drewN|apply Kd.R_drew));exact Kd.R_mono (Kd.R_far (p:=⟨gb433,9,none⟩) (Kd.R_far (p:=⟨gb433,8,none⟩) (Kd.R_far (p:=⟨gb433,7,none⟩) (Kd.R_far (p:=⟨gb433,6,none⟩) (Kd.R_far (p:=⟨gb433,5,none⟩) (Kd.R_far (p:=⟨gb433,4,none⟩) (Kd.R_far (p:=⟨gb433,3,none⟩) (Kd.R_far (p:=⟨gb433,2,none⟩) (Kd.R_far (p:=⟨gb433,1,none⟩) (Kd.R_far (p:=⟨gb433,0,none⟩) (Kd.R_types HO470.out BK433.out (b20_)) (fun _ hk=>hk.2) (.int .i64 t456)) (fun _ hk=>hk.2) (.int .i64 t457)) (fun _ hk=>hk.2) (.bool t458)) (fun _ hk=>hk.2) (.int .i64 t459)) (fun _ hk=>hk.2) (.int .i64 t460)) (fun _ hk=>hk.2) (.int .i64 t461)) (fun _ hk=>hk.2) (.int .i64 t462)) (fun _ hk=>hk.2) (.int .i64 t463)) (fun _ hk=>hk.2) (.int .i64 t464)) (fun _ hk=>hk.2) (.string t465)) (fun _ hk=>trivial),by repeat (first|(with_reducible first|exact HI0.out|apply IsS138.alloc|apply IsS138.drewN|apply IsS138.drew|apply IsS138.set_1|apply IsS138.set_2|apply IsS138.far (hne:=NB0_433.out)|apply IsS138.far (hne:=NB0_446.out))|exact HI0.out),by repeat (first|(with_reducible first|exact HB.out|apply below_alloc|apply pw_below_drewN|apply below_drew1|refine below_set ?_ (IsS138.ge HI0.out)|refine below_set ?_ GE433.out|refine below_set ?_ GE446.out)|exact HB.out),by repeat (first|(with_reducible first|exact HK.out|apply KeepBut.set_|apply keep_drewN|apply keep_drew|apply keep_alloc|refine keep_far ?_ GW433.out _|refine keep_far ?_ GW446.out _)|exact HK.out)⟩
 ·replace c6:=Bool.eq_false_iff.mpr c6
  subst c6
  have H1:((spec_l1Cur_plan.f k s0_0 t454 t455).bind fun bt473=>(some (bt473.1,t434,t435,t436,t447,t438,t439,t450,t441,t442,t443,bt473.2.1,bt473.2.2)))=some (r1,r2,r3,r4,r5,r6,r7,r8,r9,r10,r11,r12,r13):=by rw[if_neg (show ¬ (false=true) by decide)] at H;exact H
  clear H
  have H:=H1
  clear H1
  replace H:=bI_ H
  obtain⟨⟨t473,t476,t477⟩,A350,H⟩:=H
  replace H:(some (t473,t434,t435,t436,t447,t438,t439,t450,t441,t442,t443,t476,t477))=some (r1,r2,r3,r4,r5,r6,r7,r8,r9,r10,r11,r12,r13):=H
  have A35:=am A350
  clear A350
  simp only[Option.some.injEq,Prod.mk.injEq] at H
  obtain⟨rfl,rfl,rfl,rfl,rfl,rfl,rfl,rfl,rfl,rfl,rfl,rfl,rfl⟩:=H
  go_enter Try.func125,Try.ntmps125
  try go_wp2_with (first|((with_reducible refine gate_dst (N:=3) rfl ?_);refine box_event ?hg (N:=3) ?hd (cs:=#[.int .i64 0,.int .i64 0,.bool false,.int .i64 0,.int .i64 0,.int .i64 0,.int .i64 0,.int .i64 0,.int .i64 0,.string (⟨#[]⟩:ByteArray)]) (t:=86) ?hr ?_;(case hd=>rfl);(case hg=>rfl);(case hr=>first|(go_simp;done)|(go_simp;rfl));intro gb433 hg w36 hbox hb;have n0_:=am (IsS138.below (b13_) hb);have n1_:=am (KeepBut.trans (b0_) (KeepBut.of_below hb g none) (.inl rfl));have n2_:=am (below_step (b14_) hb);have n3_:=am (hbox);have n4_:=am ((by rw[hg];exact(keep_size (w:=w) (g:=g) (row:=none) (b0_)):w.heap.size≤gb433));have n5_:=am ((Nat.le_trans HW0.out (by rw[hg];exact(keep_size (w:=w) (g:=g) (row:=none) (b0_)):w.heap.size≤gb433):w0.heap.size≤gb433));have n6_:=am ((by rw[hg];exact Nat.ne_of_lt (IsS138.lt (show IsS138 w0 _ g s0_0 s0_1 s0_2 from by repeat (first|(with_reducible first|exact HI0.out|apply IsS138.alloc|apply IsS138.drewN|apply IsS138.drew|apply IsS138.set_1|apply IsS138.set_2)|exact HI0.out))):g≠gb433));have n7_:=am ((by rw[hg];exact Nat.ne_of_gt (IsS138.lt (show IsS138 w0 _ g s0_0 s0_1 s0_2 from by repeat (first|(with_reducible first|exact HI0.out|apply IsS138.alloc|apply IsS138.drewN|apply IsS138.drew|apply IsS138.set_1|apply IsS138.set_2)|exact HI0.out))):gb433≠g));(try clear HI0);clear HK HB;have HI0:=n0_;have HK:=n1_;have HB:=n2_;have BK433:=n3_;have GW433:=n4_;have GE433:=n5_;have NB0_433:=n6_;have NB433_0:=n7_;clear n0_ n1_ n2_ n3_ n4_ n5_ n6_ n7_;clear hb hbox hg)|((with_reducible refine gate_callee (f:=160) rfl ?_);refine goesA (some 6) rfl rfl Try.func160 #[.pointer (some ⟨g,0,none⟩)] rfl ?_;(with_reducible refine(spec_l1Cur_wholeBundle.calls k g s0_0 s0_1 s0_2 t434 t435 t436 t437 t438 t439 t440 t441 t442 t443 t444 t445 w0 _ ?side1 ?side2 A2.out).mono ?_);(case side1=>repeat (first|(with_reducible first|exact HI0.out|apply IsS138.alloc|apply IsS138.drewN|apply IsS138.drew|apply IsS138.set_1|apply IsS138.set_2|apply IsS138.far (hne:=NB0_433.out))|exact HI0.out));(case side2=>repeat (first|(with_reducible first|exact HB.out|apply below_alloc|apply pw_below_drewN|apply below_drew1|refine below_set ?_ (IsS138.ge HI0.out)|refine below_set ?_ GE433.out)|exact HB.out));rintro e w37 ⟨rfl,hi,hb,hk⟩;refine⟨_,rfl,?_⟩;have n0_:=am (KeepBut.blk hk (g':=gb433) (o:=.cells #[.int .i64 0,.int .i64 0,.bool false,.int .i64 0,.int .i64 0,.int .i64 0,.int .i64 0,.int .i64 0,.int .i64 0,.string (⟨#[]⟩:ByteArray)] 86 (0,0)) (bL BK433.out) NB433_0.out (b27_));have n1_:=am (KeepBut.trans (b16_) hk (.inl rfl));have n2_:=am (hb);have n3_:=am (hi);clear BK433 HK HB;(try clear HI0);have BK433:=n0_;have HK:=n1_;have HB:=n2_;have HI0:=n3_;clear n0_ n1_ n2_ n3_;(try clear hb);(try clear hb2);(try clear hk);(try clear hi))|((with_reducible refine gate_dst (N:=4) rfl ?_);refine box_event ?hg (N:=4) ?hd (cs:=#[.int .i64 0,.int .i64 0,.bool false,.int .i64 0,.int .i64 0,.int .i64 0,.int .i64 0,.int .i64 0,.int .i64 0,.string (⟨#[]⟩:ByteArray)]) (t:=86) ?hr ?_;(case hd=>rfl);(case hg=>rfl);(case hr=>first|(go_simp;done)|(go_simp;rfl));intro gb446 hg w38 hbox hb;have n0_:=am (IsS138.below (by repeat (first|(with_reducible first|exact HI0.out|apply IsS138.alloc|apply IsS138.drewN|apply IsS138.drew|apply IsS138.set_1|apply IsS138.set_2|apply IsS138.far (hne:=NB0_433.out))|exact HI0.out)) hb);have n1_:=am (bM BK433.out hb);have n2_:=am (KeepBut.trans (b16_) (KeepBut.of_below hb g none) (.inl rfl));have n3_:=am (below_step (by repeat (first|(with_reducible first|exact HB.out|apply below_alloc|apply pw_below_drewN|apply below_drew1|refine below_set ?_ (IsS138.ge HI0.out)|refine below_set ?_ GE433.out)|exact HB.out)) hb);have n4_:=am (hbox);have n5_:=am ((by rw[hg];exact(keep_size (w:=w) (g:=g) (row:=none) (b16_)):w.heap.size≤gb446));have n6_:=am ((Nat.le_trans HW0.out (by rw[hg];exact(keep_size (w:=w) (g:=g) (row:=none) (b16_)):w.heap.size≤gb446):w0.heap.size≤gb446));have n7_:=am ((bN BK433.out hg:gb433≠gb446));have n8_:=am ((bO BK433.out hg:gb446≠gb433));have n9_:=am ((by rw[hg];exact Nat.ne_of_lt (IsS138.lt (show IsS138 w0 _ g s0_0 t444 t445 from by repeat (first|(with_reducible first|exact HI0.out|apply IsS138.alloc|apply IsS138.drewN|apply IsS138.drew|apply IsS138.set_1|apply IsS138.set_2|apply IsS138.far (hne:=NB0_433.out))|exact HI0.out))):g≠gb446));have n10_:=am ((by rw[hg];exact Nat.ne_of_gt (IsS138.lt (show IsS138 w0 _ g s0_0 t444 t445 from by repeat (first|(with_reducible first|exact HI0.out|apply IsS138.alloc|apply IsS138.drewN|apply IsS138.drew|apply IsS138.set_1|apply IsS138.set_2|apply IsS138.far (hne:=NB0_433.out))|exact HI0.out))):gb446≠g));(try clear HI0);clear BK433 HK HB;have HI0:=n0_;have BK433:=n1_;have HK:=n2_;have HB:=n3_;have BK446:=n4_;have GW446:=n5_;have GE446:=n6_;have NB433_446:=n7_;have NB446_433:=n8_;have NB0_446:=n9_;have NB446_0:=n10_;clear n0_ n1_ n2_ n3_ n4_ n5_ n6_ n7_ n8_ n9_ n10_;clear hb hbox hg;have hnb39:=NB446_433.out;have hnc39:=NB433_446.out;have hnb40:=NB446_0.out;have hnc40:=NB0_446.out;obtain⟨hcz41_0,hcz41_1,hcz41_2,hcz41_3,hcz41_4,hcz41_5,hcz41_6,hcz41_7,hcz41_8,hcz41_9⟩:=cC10 BK446.out;obtain⟨hfz41_0,hfz41_1,hfz41_2,hfz41_3,hfz41_4,hfz41_5,hfz41_6,hfz41_7,hfz41_8,hfz41_9⟩:=cF10 BK446.out)|((with_reducible refine gate_callee (f:=116) rfl ?_);refine goesA (some 8) rfl rfl Try.func116 #[.pointer (some ⟨g,0,none⟩),.int .i64 20] rfl ?_;(with_reducible refine(spec_l1Cur_pick.calls g s0_0 t444 t445 20 t447 t448 t449 w0 _ ?side1 ?side2 A3.out).mono ?_);(case side1=>exact b33_);(case side2=>exact b34_);rintro e w42 ⟨rfl,hi,hb,hk⟩;refine⟨_,rfl,?_⟩;have n0_:=am (KeepBut.blk hk (g':=gb433) (o:=.cells #[.int .i64 0,.int .i64 0,.bool false,.int .i64 0,.int .i64 0,.int .i64 0,.int .i64 0,.int .i64 0,.int .i64 0,.string (⟨#[]⟩:ByteArray)] 86 (0,0)) (b4_) NB433_0.out (b27_));have n1_:=am (KeepBut.blk hk (g':=gb446) (o:=.cells #[.int .i64 t434,.int .i64 t435,.bool t436,.int .i64 t437,.int .i64 t438,.int .i64 t439,.int .i64 t440,.int .i64 t441,.int .i64 t442,.string t443] 86 (0,0)) (b2_) NB446_0.out (b27_));have n2_:=am (KeepBut.trans (b9_) hk (.inl rfl));have n3_:=am (hb);have n4_:=am (hi);clear BK433 BK446 HK HB;(try clear HI0);have BK433:=n0_;have BK446:=n1_;have HK:=n2_;have HB:=n3_;have HI0:=n4_;clear n0_ n1_ n2_ n3_ n4_;(try clear hb);(try clear hb2);(try clear hk);(try clear hi);obtain⟨hcz43_0,hcz43_1,hcz43_2,hcz43_3,hcz43_4,hcz43_5,hcz43_6,hcz43_7,hcz43_8,hcz43_9⟩:=cC10 BK446.out;obtain⟨hfz43_0,hfz43_1,hfz43_2,hfz43_3,hfz43_4,hfz43_5,hfz43_6,hfz43_7,hfz43_8,hfz43_9⟩:=cF10 BK446.out)|((with_reducible refine gate_callee (f:=116) rfl ?_);refine goesA (some 11) rfl rfl Try.func116 #[.pointer (some ⟨g,0,none⟩),.int .i64 8] rfl ?_;(with_reducible refine(spec_l1Cur_pick.calls g s0_0 t448 t449 8 t450 t451 t452 w0 _ ?side1 ?side2 A4.out).mono ?_);(case side1=>exact b33_);(case side2=>exact b34_);rintro e w44 ⟨rfl,hi,hb,hk⟩;refine⟨_,rfl,?_⟩;have n0_:=am (KeepBut.blk hk (g':=gb433) (o:=.cells #[.int .i64 0,.int .i64 0,.bool false,.int .i64 0,.int .i64 0,.int .i64 0,.int .i64 0,.int .i64 0,.int .i64 0,.string (⟨#[]⟩:ByteArray)] 86 (0,0)) (b19_) NB433_0.out (b27_));have n1_:=am (KeepBut.blk hk (g':=gb446) (o:=.cells #[.int .i64 t434,.int .i64 t435,.bool t436,.int .i64 t447,.int .i64 t438,.int .i64 t439,.int .i64 t440,.int .i64 t441,.int .i64 t442,.string t443] 86 (0,0)) (b23_) NB446_0.out (b27_));have n2_:=am (KeepBut.trans (b9_) hk (.inl rfl));have n3_:=am (hb);have n4_:=am (hi);clear BK433 BK446 HK HB;(try clear HI0);have BK433:=n0_;have BK446:=n1_;have HK:=n2_;have HB:=n3_;have HI0:=n4_;clear n0_ n1_ n2_ n3_ n4_;(try clear hb);(try clear hb2);(try clear hk);(try clear hi);obtain⟨hcz45_0,hcz45_1,hcz45_2,hcz45_3,hcz45_4,hcz45_5,hcz45_6,hcz45_7,hcz45_8,hcz45_9⟩:=cC10 BK446.out;obtain⟨hfz45_0,hfz45_1,hfz45_2,hfz45_3,hfz45_4,hfz45_5,hfz45_6,hfz45_7,hfz45_8,hfz45_9⟩:=cF10 BK446.out)|((with_reducible refine gate_callee (f:=153) rfl ?_);refine goesA (some 14) rfl rfl Try.func153 #[.pointer (some ⟨g,0,none⟩),.int .i64 20] rfl ?_;(with_reducible refine(spec_l1Cur_one.calls g s0_0 t451 t452 20 false t454 t455 w0 _ ?side1 ?side2 A5.out).mono ?_);(case side1=>exact b33_);(case side2=>exact b34_);rintro e w46 ⟨rfl,hi,hb,hk⟩;refine⟨_,rfl,?_⟩;have n0_:=am (KeepBut.blk hk (g':=gb433) (o:=.cells #[.int .i64 0,.int .i64 0,.bool false,.int .i64 0,.int .i64 0,.int .i64 0,.int .i64 0,.int .i64 0,.int .i64 0,.string (⟨#[]⟩:ByteArray)] 86 (0,0)) (b19_) NB433_0.out (b27_));have n1_:=am (KeepBut.blk hk (g':=gb446) (o:=.cells #[.int .i64 t434,.int .i64 t435,.bool t436,.int .i64 t447,.int .i64 t438,.int .i64 t439,.int .i64 t450,.int .i64 t441,.int .i64 t442,.string t443] 86 (0,0)) (b24_) NB446_0.out (b27_));have n2_:=am (KeepBut.trans (b9_) hk (.inl rfl));have n3_:=am (hb);have n4_:=am (hi);clear BK433 BK446 HK HB;(try clear HI0);have BK433:=n0_;have BK446:=n1_;have HK:=n2_;have HB:=n3_;have HI0:=n4_;clear n0_ n1_ n2_ n3_ n4_;(try clear hb);(try clear hb2);(try clear hk);(try clear hi)))
  (try (rw[drewN_self w46];generalize hq_:World.drewN w46 _=w46;have n0_:=am (blk_at hq_ BK433.out);have n1_:=am (blk_at hq_ BK446.out);have n2_:=am (IsS138.at_ hq_ HI0.out);have n3_:=am (keep_at hq_ HK.out);have n4_:=am (below_at hq_ HB.out);clear hq_ BK433 BK446 HI0 HK HB;have BK433:=n0_;have BK446:=n1_;have HI0:=n2_;have HK:=n3_;have HB:=n4_;clear n0_ n1_ n2_ n3_ n4_))
  have n0_:=am (blk_drew BK433.out)
  have n1_:=am (blk_drew BK446.out)
  have n2_:=am (IsS138.drew HI0.out)
  have n3_:=am (keep_drew HK.out)
  have n4_:=am (below_drew1 HB.out)
  clear BK433 BK446 HI0 HK HB
  have BK433:=n0_
  have BK446:=n1_
  have HI0:=n2_
  have HK:=n3_
  have HB:=n4_
  clear n0_ n1_ n2_ n3_ n4_
  refine start_ (n:=5) (S:=fun w'=>w'.cell? ⟨gb446,0,none⟩=some (.int .i64 t434)∧w'.cell? ⟨gb446,1,none⟩=some (.int .i64 t435)∧w'.cell? ⟨gb446,2,none⟩=some (.bool t436)∧w'.cell? ⟨gb446,3,none⟩=some (.int .i64 t447)∧w'.cell? ⟨gb446,4,none⟩=some (.int .i64 t438)∧w'.cell? ⟨gb446,5,none⟩=some (.int .i64 t439)∧w'.cell? ⟨gb446,6,none⟩=some (.int .i64 t450)∧w'.cell? ⟨gb446,7,none⟩=some (.int .i64 t441)∧w'.cell? ⟨gb446,8,none⟩=some (.int .i64 t442)∧w'.cell? ⟨gb446,9,none⟩=some (.string t443)) (ds:=[]) #[false,false,false,false,false] (b6_) rfl rfl (cC10 BK446.out) (fun hHeld => ?_)
  generalize w46.drew=w47 at BK433 BK446 HI0 HK HB hHeld ⊢
  refine pure_ (i:=0) (N:=some 17) (v:=?_) (a':=?_) #[true,false,false,false,false] rfl rfl (b6_) (fun _ _ _ h=>h) (Or.inl ⟨by rfl,?_⟩) ?_ ?_
  rotate_left
  ·intro w'
   go_simp
   with_reducible rfl
  rotate_left
  ·simp only[Act.put,zA,zB,zC,i64_w,i32_w]
   rfl
  refine take_ (i:=2) (N:=some 19) (v:=?_) (a':=?_) #[true,false,true,false,false] rfl rfl (b6_) (fun _ _ _ h=>h) (Or.inl ⟨by rfl,?_⟩) hHeld ?_ ?_
  rotate_left
  ·rintro w' ⟨s0,s1,s2,s3,s4,s5,s6,s7,s8,s9⟩
   go_simp
   with_reducible rfl
  rotate_left
  ·simp only[Act.put,zA,zB,zC,i64_w,i32_w]
   rfl
  refine one_ (i:=1) (N:=some 18) #[true,true,true,false,false] rfl rfl (b6_) (b20_) (fun K hK => ?_)
  refine goes_ Try.func162 (b6_) rfl #[.pointer (some ⟨g,0,none⟩)] (by rfl) rfl rfl (b7_) ?_
  with_reducible refine(spec_l1Cur_plan.calls k g s0_0 t454 t455 t473 t476 t477 w0 _ ?side1 ?side2 A35.out).mono ?_
  (case side1=>exact b33_)
  (case side2=>exact b34_)
  rintro e w48 ⟨v474,rfl,ho0,hi,hb,hk⟩
  refine⟨_,rfl,?_⟩
  have n0_:=am (KeepBut.blk hk (g':=gb433) (o:=.cells #[.int .i64 0,.int .i64 0,.bool false,.int .i64 0,.int .i64 0,.int .i64 0,.int .i64 0,.int .i64 0,.int .i64 0,.string (⟨#[]⟩:ByteArray)] 86 (0,0)) (bL BK433.out) NB433_0.out (b27_))
  have n1_:=am (KeepBut.blk hk (g':=gb446) (o:=.cells #[.int .i64 t434,.int .i64 t435,.bool t436,.int .i64 t447,.int .i64 t438,.int .i64 t439,.int .i64 t450,.int .i64 t441,.int .i64 t442,.string t443] 86 (0,0)) (bL BK446.out) NB446_0.out (b27_))
  have n2_:=am (Kd.R_lower ho0 (keep_size (w:=w) (g:=g) (row:=none) (b9_)))
  have n3_:=am (KeepBut.trans (b9_) hk (.inl rfl))
  have n4_:=am (hb)
  have n5_:=am (hi)
  clear BK433 BK446 HK HB HI0
  have BK433:=n0_
  have BK446:=n1_
  have HO475:=n2_
  have HK:=n3_
  have HB:=n4_
  have HI0:=n5_
  clear n0_ n1_ n2_ n3_ n4_ n5_
  (try clear hb)
  (try clear hb2)
  (try clear hk)
  (try clear hi)
  (try clear ho0)
  refine hK.out _ _ (cC10 BK446.out) (fun hHeld => ?_)
  clear hK K
  refine norm_ (a':=?_) ?_ ?_
  rotate_left
  ·show Act.put _ (some 18) _=_
   simp only[Act.put,zA,zB,zC,i64_w,i32_w]
   rfl
  refine pure_ (i:=3) (N:=some 2) (v:=?_) (a':=?_) #[true,true,true,true,false] rfl rfl (b6_) (fun _ _ _ h=>h) (Or.inl ⟨by rfl,?_⟩) ?_ ?_
  rotate_left
  ·intro w'
   go_simp
   with_reducible rfl
  rotate_left
  ·simp only[Act.put,zA,zB,zC,i64_w,i32_w]
   rfl
  refine one_ (i:=4) (N:=none) #[true,true,true,true,true] rfl rfl (b6_) (b20_) (fun K hK => ?_)
  have hs49:w48.cell? ⟨gb433,0,none⟩=some (.int .i64 0):=(blk_cell BK433.out 0).trans rfl
  have hfs49:=blk_frozen BK433.out 0
  have hns49_1:=NB446_433.out
  have hms49_1:=NB433_446.out
  have hs50:w48.cell? ⟨gb433,1,none⟩=some (.int .i64 0):=(blk_cell BK433.out 1).trans rfl
  have hfs50:=blk_frozen BK433.out 1
  have hns50_1:=NB446_433.out
  have hms50_1:=NB433_446.out
  have hs51:w48.cell? ⟨gb433,2,none⟩=some (.bool false):=(blk_cell BK433.out 2).trans rfl
  have hfs51:=blk_frozen BK433.out 2
  have hns51_1:=NB446_433.out
  have hms51_1:=NB433_446.out
  have hs52:w48.cell? ⟨gb433,3,none⟩=some (.int .i64 0):=(blk_cell BK433.out 3).trans rfl
  have hfs52:=blk_frozen BK433.out 3
  have hns52_1:=NB446_433.out
  have hms52_1:=NB433_446.out
  have hs53:w48.cell? ⟨gb433,4,none⟩=some (.int .i64 0):=(blk_cell BK433.out 4).trans rfl
  have hfs53:=blk_frozen BK433.out 4
  have hns53_1:=NB446_433.out
  have hms53_1:=NB433_446.out
  have hs54:w48.cell? ⟨gb433,5,none⟩=some (.int .i64 0):=(blk_cell BK433.out 5).trans rfl
  have hfs54:=blk_frozen BK433.out 5
  have hns54_1:=NB446_433.out
  have hms54_1:=NB433_446.out
  have hs55:w48.cell? ⟨gb433,6,none⟩=some (.int .i64 0):=(blk_cell BK433.out 6).trans rfl
  have hfs55:=blk_frozen BK433.out 6
  have hns55_1:=NB446_433.out
  have hms55_1:=NB433_446.out
  have hs56:w48.cell? ⟨gb433,7,none⟩=some (.int .i64 0):=(blk_cell BK433.out 7).trans rfl
  have hfs56:=blk_frozen BK433.out 7
  have hns56_1:=NB446_433.out
  have hms56_1:=NB433_446.out
  have hs57:w48.cell? ⟨gb433,8,none⟩=some (.int .i64 0):=(blk_cell BK433.out 8).trans rfl
  have hfs57:=blk_frozen BK433.out 8
  have hns57_1:=NB446_433.out
  have hms57_1:=NB433_446.out
  have hs58:w48.cell? ⟨gb433,9,none⟩=some (.string (⟨#[]⟩:ByteArray)):=(blk_cell BK433.out 9).trans rfl
  have hfs58:=blk_frozen BK433.out 9
  have hns58_1:=NB446_433.out
  have hms58_1:=NB433_446.out
  refine skip_ (w1:=?_) (by rfl) rfl ?_ ?_
  rotate_left
  ·go_simp
   rfl
  refine hK.out _ _ ⟨(cf_ NB446_433.out ((cf_ NB446_433.out ((cf_ NB446_433.out ((cf_ NB446_433.out ((cf_ NB446_433.out ((cf_ NB446_433.out ((cf_ NB446_433.out ((cf_ NB446_433.out ((cf_ NB446_433.out ((cf_ NB446_433.out (hHeld.1)))))))))))))))))))),(cf_ NB446_433.out ((cf_ NB446_433.out ((cf_ NB446_433.out ((cf_ NB446_433.out ((cf_ NB446_433.out ((cf_ NB446_433.out ((cf_ NB446_433.out ((cf_ NB446_433.out ((cf_ NB446_433.out ((cf_ NB446_433.out (hHeld.2.1)))))))))))))))))))),(cf_ NB446_433.out ((cf_ NB446_433.out ((cf_ NB446_433.out ((cf_ NB446_433.out ((cf_ NB446_433.out ((cf_ NB446_433.out ((cf_ NB446_433.out ((cf_ NB446_433.out ((cf_ NB446_433.out ((cf_ NB446_433.out (hHeld.2.2.1)))))))))))))))))))),(cf_ NB446_433.out ((cf_ NB446_433.out ((cf_ NB446_433.out ((cf_ NB446_433.out ((cf_ NB446_433.out ((cf_ NB446_433.out ((cf_ NB446_433.out ((cf_ NB446_433.out ((cf_ NB446_433.out ((cf_ NB446_433.out (hHeld.2.2.2.1)))))))))))))))))))),(cf_ NB446_433.out ((cf_ NB446_433.out ((cf_ NB446_433.out ((cf_ NB446_433.out ((cf_ NB446_433.out ((cf_ NB446_433.out ((cf_ NB446_433.out ((cf_ NB446_433.out ((cf_ NB446_433.out ((cf_ NB446_433.out (hHeld.2.2.2.2.1)))))))))))))))))))),(cf_ NB446_433.out ((cf_ NB446_433.out ((cf_ NB446_433.out ((cf_ NB446_433.out ((cf_ NB446_433.out ((cf_ NB446_433.out ((cf_ NB446_433.out ((cf_ NB446_433.out ((cf_ NB446_433.out ((cf_ NB446_433.out (hHeld.2.2.2.2.2.1)))))))))))))))))))),(cf_ NB446_433.out ((cf_ NB446_433.out ((cf_ NB446_433.out ((cf_ NB446_433.out ((cf_ NB446_433.out ((cf_ NB446_433.out ((cf_ NB446_433.out ((cf_ NB446_433.out ((cf_ NB446_433.out ((cf_ NB446_433.out (hHeld.2.2.2.2.2.2.1)))))))))))))))))))),(cf_ NB446_433.out ((cf_ NB446_433.out ((cf_ NB446_433.out ((cf_ NB446_433.out ((cf_ NB446_433.out ((cf_ NB446_433.out ((cf_ NB446_433.out ((cf_ NB446_433.out ((cf_ NB446_433.out ((cf_ NB446_433.out (hHeld.2.2.2.2.2.2.2.1)))))))))))))))))))),(cf_ NB446_433.out ((cf_ NB446_433.out ((cf_ NB446_433.out ((cf_ NB446_433.out ((cf_ NB446_433.out ((cf_ NB446_433.out ((cf_ NB446_433.out ((cf_ NB446_433.out ((cf_ NB446_433.out ((cf_ NB446_433.out (hHeld.2.2.2.2.2.2.2.2.1)))))))))))))))))))),(cf_ NB446_433.out ((cf_ NB446_433.out ((cf_ NB446_433.out ((cf_ NB446_433.out ((cf_ NB446_433.out ((cf_ NB446_433.out ((cf_ NB446_433.out ((cf_ NB446_433.out ((cf_ NB446_433.out ((cf_ NB446_433.out (hHeld.2.2.2.2.2.2.2.2.2))))))))))))))))))))⟩ (fun hHeld => ?_)
  clear hK K
  refine done_ (b6_) ?_
  try go_wp2
  refine bodyPost_ret (results_tc rfl _ _ gb433 86 #[.int .i64 t434,.int .i64 t435,.bool t436,.int .i64 t447,.int .i64 t438,.int .i64 t439,.int .i64 t450,.int .i64 t441,.int .i64 t442,.string t443] (0,0) _ rfl (by(with_reducible repeat (first|refine blk_drewN ?_ _|refine blk_drew ?_|refine blk_alloc ?_ _));apply bU10;(with_reducible repeat (first|refine blk_drewN ?_ _|refine blk_drew ?_|refine blk_alloc ?_ _));exact BK433.out) Try.underlying86 rfl (b6_)) rfl ?_
  exact⟨_,by first|rfl|(simp[errW_none,errW_some]<;>rfl)|(simp[*,errW_none,errW_some]<;>rfl),by(with_reducible repeat (first|apply Kd.R_alloc|apply Kd.R_drewN|apply Kd.R_drew));exact Kd.R_mono (Kd.R_far (p:=⟨gb433,9,none⟩) (Kd.R_far (p:=⟨gb433,8,none⟩) (Kd.R_far (p:=⟨gb433,7,none⟩) (Kd.R_far (p:=⟨gb433,6,none⟩) (Kd.R_far (p:=⟨gb433,5,none⟩) (Kd.R_far (p:=⟨gb433,4,none⟩) (Kd.R_far (p:=⟨gb433,3,none⟩) (Kd.R_far (p:=⟨gb433,2,none⟩) (Kd.R_far (p:=⟨gb433,1,none⟩) (Kd.R_far (p:=⟨gb433,0,none⟩) (Kd.R_types HO475.out BK433.out (b20_)) (fun _ hk=>hk.2) (.int .i64 t434)) (fun _ hk=>hk.2) (.int .i64 t435)) (fun _ hk=>hk.2) (.bool t436)) (fun _ hk=>hk.2) (.int .i64 t447)) (fun _ hk=>hk.2) (.int .i64 t438)) (fun _ hk=>hk.2) (.int .i64 t439)) (fun _ hk=>hk.2) (.int .i64 t450)) (fun _ hk=>hk.2) (.int .i64 t441)) (fun _ hk=>hk.2) (.int .i64 t442)) (fun _ hk=>hk.2) (.string t443)) (fun _ hk=>trivial),by repeat (first|(with_reducible first|exact HI0.out|apply IsS138.alloc|apply IsS138.drewN|apply IsS138.drew|apply IsS138.set_1|apply IsS138.set_2|apply IsS138.far (hne:=NB0_433.out)|apply IsS138.far (hne:=NB0_446.out))|exact HI0.out),by repeat (first|(with_reducible first|exact HB.out|apply below_alloc|apply pw_below_drewN|apply below_drew1|refine below_set ?_ (IsS138.ge HI0.out)|refine below_set ?_ GE433.out|refine below_set ?_ GE446.out)|exact HB.out),by repeat (first|(with_reducible first|exact HK.out|apply KeepBut.set_|apply keep_drewN|apply keep_drew|apply keep_alloc|refine keep_far ?_ GW433.out _|refine keep_far ?_ GW446.out _)|exact HK.out)⟩

/-! ### spec_DrawFollowPlan: function 61 -/
def spec_DrawFollowPlan.f (k:Nat) (l0:List Int):Option ((List (S104)) × Int × Int × Bool × Int × Int × Int × Int × Int × Int × ByteArray × Int):=(spec_l1Cur_planned.f k l0 0 0).bind fun bt480=>((spec_l1Cur_pick.f l0 bt480.2.2.2.2.2.2.2.2.2.2.2.1 bt480.2.2.2.2.2.2.2.2.2.2.2.2 6).bind fun bt496=>(some (bt480.1,bt480.2.1,bt480.2.2.1,bt480.2.2.2.1,bt480.2.2.2.2.1,bt480.2.2.2.2.2.1,bt480.2.2.2.2.2.2.1,bt480.2.2.2.2.2.2.2.1,bt480.2.2.2.2.2.2.2.2.1,bt480.2.2.2.2.2.2.2.2.2.1,bt480.2.2.2.2.2.2.2.2.2.2.1,bt496.1)))
theorem spec_DrawFollowPlan.mono : ∀ a0 k,LeO (spec_DrawFollowPlan.f k a0) (spec_DrawFollowPlan.f (k+1) a0):=by
 intro a0 k
 unfold spec_DrawFollowPlan.f
 repeat' first
  | (with_reducible exact spec_l1Cur_planned.mono _ _ _ _)
  | (with_reducible exact LeO.refl _)
  | (with_reducible exact LeO.none _)
  | (with_reducible refine LeO.ite ?_ ?_)
  | (with_reducible refine LeO.bind ?_ (fun _ => ?_))
set_option maxHeartbeats 8000000 in
set_option maxRecDepth 100000 in
theorem spec_DrawFollowPlan.calls (k:Nat) (A0:Option Addr) (c0:Nat) (l0:List Int) (r1:List (S104)) (r2:Int) (r3:Int) (r4:Bool) (r5:Int) (r6:Int) (r7:Int) (r8:Int) (r9:Int) (r10:Int) (r11:ByteArray) (r12:Int) (w:World) (hr0:Kd.C (Kd.int .u8) w A0 l0.length l0) (hc0:l0.length≤c0) (h:spec_DrawFollowPlan.f k l0=some (r1,r2,r3,r4,r5,r6,r7,r8,r9,r10,r11,r12)) :
  Calls Try.prog 61 #[.slice A0 l0.length c0] w fun e w' => ∃ v0_:Value,e=.returned (.tuple #[v0_,.agg #[.int .i64 r2,.int .i64 r3,.bool r4,.int .i64 r5,.int .i64 r6,.int .i64 r7,.int .i64 r8,.int .i64 r9,.int .i64 r10,.string r11],.int .i64 r12])∧Kd.R k104 104 w' w.heap.size (fun _=>True) v0_ r1∧Below w.heap.size w w':=by
 have hu86:=Try.underlying86
 have hu138:=Try.underlying138
 have HR0:=am hr0
 have HC0:=am hc0
 clear hr0 hc0
 have HB:=am (Below.refl w.heap.size w)
 have H:((spec_l1Cur_planned.f k l0 0 0).bind fun bt480=>((spec_l1Cur_pick.f l0 bt480.2.2.2.2.2.2.2.2.2.2.2.1 bt480.2.2.2.2.2.2.2.2.2.2.2.2 6).bind fun bt496=>(some (bt480.1,bt480.2.1,bt480.2.2.1,bt480.2.2.2.1,bt480.2.2.2.2.1,bt480.2.2.2.2.2.1,bt480.2.2.2.2.2.2.1,bt480.2.2.2.2.2.2.2.1,bt480.2.2.2.2.2.2.2.2.1,bt480.2.2.2.2.2.2.2.2.2.1,bt480.2.2.2.2.2.2.2.2.2.2.1,bt496.1))))=some (r1,r2,r3,r4,r5,r6,r7,r8,r9,r10,r11,r12):=h
 clear h
 replace H:=bI_ H
 obtain⟨⟨t480,t483,t484,t485,t486,t487,t488,t489,t490,t491,t492,t493,t494⟩,A20,H⟩:=H
 replace H:((spec_l1Cur_pick.f l0 t493 t494 6).bind fun bt496=>(some (t480,t483,t484,t485,t486,t487,t488,t489,t490,t491,t492,bt496.1)))=some (r1,r2,r3,r4,r5,r6,r7,r8,r9,r10,r11,r12):=H
 have A2:=am A20
 clear A20
 replace H:=bI_ H
 obtain⟨⟨t496,t497,t498⟩,A30,H⟩:=H
 replace H:(some (t480,t483,t484,t485,t486,t487,t488,t489,t490,t491,t492,t496))=some (r1,r2,r3,r4,r5,r6,r7,r8,r9,r10,r11,r12):=H
 have A3:=am A30
 clear A30
 simp only[Option.some.injEq,Prod.mk.injEq] at H
 obtain⟨rfl,rfl,rfl,rfl,rfl,rfl,rfl,rfl,rfl,rfl,rfl,rfl⟩:=H
 go_enter Try.func61,Try.ntmps61
 try go_wp2_with (first|((with_reducible refine gate_dst (N:=3) rfl ?_);refine box_event ?hg (N:=3) ?hd (cs:=#[.int .i64 0,.int .i64 0,.bool false,.int .i64 0,.int .i64 0,.int .i64 0,.int .i64 0,.int .i64 0,.int .i64 0,.string (⟨#[]⟩:ByteArray)]) (t:=86) ?hr ?_;(case hd=>rfl);(case hg=>rfl);(case hr=>first|(go_simp;done)|(go_simp;rfl));intro gb478 hg w4 hbox hb;have n0_:=am (below_step (bB) hb);have n1_:=am (hbox);have n2_:=am ((bG:w.heap.size≤gb478));have n3_:=am ((bG:w.heap.size≤gb478));clear HB;have HB:=n0_;have BK478:=n1_;have GW478:=n2_;have GE478:=n3_;clear n0_ n1_ n2_ n3_;clear hb hbox hg)|((with_reducible refine gate_dst (N:=10) rfl ?_);refine box_event ?hg (N:=10) ?hd (cs:=#[.slice A0 l0.length c0,.int .i64 0,.int .u64 0]) (t:=138) ?hr ?_;(case hd=>rfl);(case hg=>rfl);(case hr=>first|(go_simp;done)|(go_simp;rfl));intro gb479 hg w5 hbox hb;have n0_:=am (bM BK478.out hb);have n1_:=am (below_step (bS GE478.out) hb);have n2_:=am (hbox);have n3_:=am ((by rw[hg];exact(below_size (bS GE478.out)):w.heap.size≤gb479));have n4_:=am ((by rw[hg];exact(below_size (bS GE478.out)):w.heap.size≤gb479));have n5_:=am ((bN BK478.out hg:gb478≠gb479));have n6_:=am ((bO BK478.out hg:gb479≠gb478));clear BK478 HB;have BK478:=n0_;have HB:=n1_;have BK479:=n2_;have GW479:=n3_;have GE479:=n4_;have NB478_479:=n5_;have NB479_478:=n6_;clear n0_ n1_ n2_ n3_ n4_ n5_ n6_;clear hb hbox hg)|((with_reducible refine gate_callee (f:=125) rfl ?_);refine goesA (some 13) rfl rfl Try.func125 #[.pointer (some ⟨gb479,0,none⟩)] rfl ?_;(with_reducible refine(spec_l1Cur_planned.calls k gb479 l0 0 0 t480 t483 t484 t485 t486 t487 t488 t489 t490 t491 t492 t493 t494 w _ ?side1 ?side2 A2.out).mono ?_);(case side1=>exact⟨_,_,(bL BK479.out),GE479.out,HR0.out⟩);(case side2=>repeat (first|(with_reducible first|exact HB.out|apply below_alloc|apply pw_below_drewN|apply below_drew1|refine below_set ?_ (IsS138.ge HI479.out)|refine below_set ?_ GE478.out)|exact HB.out));rintro e w6 ⟨v481,rfl,ho0,hi,hb,hk⟩;refine⟨_,rfl,?_⟩;have n0_:=am (KeepBut.blk hk (g':=gb478) (o:=.cells #[.int .i64 0,.int .i64 0,.bool false,.int .i64 0,.int .i64 0,.int .i64 0,.int .i64 0,.int .i64 0,.int .i64 0,.string (⟨#[]⟩:ByteArray)] 86 (0,0)) (bL BK478.out) NB478_479.out (b27_));have n1_:=am (Kd.R_lower ho0 (below_size (b21_)));have n2_:=am (hb);have n3_:=am (hi);clear BK478 HB BK479;have BK478:=n0_;have HO482:=n1_;have HB:=n2_;have HI479:=n3_;clear n0_ n1_ n2_ n3_;(try clear hb);(try clear hb2);(try clear hk);(try clear hi);(try clear ho0))|((with_reducible refine gate_dst (N:=7) rfl ?_);refine box_event ?hg (N:=7) ?hd (cs:=#[.int .i64 0,.int .i64 0,.bool false,.int .i64 0,.int .i64 0,.int .i64 0,.int .i64 0,.int .i64 0,.int .i64 0,.string (⟨#[]⟩:ByteArray)]) (t:=86) ?hr ?_;(case hd=>rfl);(case hg=>rfl);(case hr=>first|(go_simp;done)|(go_simp;rfl));intro gb495 hg w7 hbox hb;have n0_:=am (Kd.R_below (bK HO482.out) hb);have n1_:=am (bM BK478.out hb);have n2_:=am (IsS138.below (by repeat (first|(with_reducible first|exact HI479.out|apply IsS138.alloc|apply IsS138.drewN|apply IsS138.drew|apply IsS138.set_1|apply IsS138.set_2|apply IsS138.far (hne:=NB479_478.out))|exact HI479.out)) hb);have n3_:=am (below_step (b21_) hb);have n4_:=am (hbox);have n5_:=am ((by rw[hg];exact(below_size (b21_)):w.heap.size≤gb495));have n6_:=am ((by rw[hg];exact(below_size (b21_)):w.heap.size≤gb495));have n7_:=am ((bN BK478.out hg:gb478≠gb495));have n8_:=am ((bO BK478.out hg:gb495≠gb478));have n9_:=am ((by rw[hg];exact Nat.ne_of_lt (IsS138.lt (show IsS138 w _ gb479 l0 t493 t494 from by repeat (first|(with_reducible first|exact HI479.out|apply IsS138.alloc|apply IsS138.drewN|apply IsS138.drew|apply IsS138.set_1|apply IsS138.set_2|apply IsS138.far (hne:=NB479_478.out))|exact HI479.out))):gb479≠gb495));have n10_:=am ((by rw[hg];exact Nat.ne_of_gt (IsS138.lt (show IsS138 w _ gb479 l0 t493 t494 from by repeat (first|(with_reducible first|exact HI479.out|apply IsS138.alloc|apply IsS138.drewN|apply IsS138.drew|apply IsS138.set_1|apply IsS138.set_2|apply IsS138.far (hne:=NB479_478.out))|exact HI479.out))):gb495≠gb479));clear HO482 BK478;(try clear HI479);clear HB;have HO482:=n0_;have BK478:=n1_;have HI479:=n2_;have HB:=n3_;have BK495:=n4_;have GW495:=n5_;have GE495:=n6_;have NB478_495:=n7_;have NB495_478:=n8_;have NB479_495:=n9_;have NB495_479:=n10_;clear n0_ n1_ n2_ n3_ n4_ n5_ n6_ n7_ n8_ n9_ n10_;clear hb hbox hg;have hnb8:=NB495_478.out;have hnc8:=NB478_495.out;have hnb9:=NB495_479.out;have hnc9:=NB479_495.out;obtain⟨hcz10_0,hcz10_1,hcz10_2,hcz10_3,hcz10_4,hcz10_5,hcz10_6,hcz10_7,hcz10_8,hcz10_9⟩:=cC10 BK495.out;obtain⟨hfz10_0,hfz10_1,hfz10_2,hfz10_3,hfz10_4,hfz10_5,hfz10_6,hfz10_7,hfz10_8,hfz10_9⟩:=cF10 BK495.out))
 have n0_:Aside0 (Kd.R k104 104 ((((((((((w7.setCell ⟨gb495,0,none⟩ (.int .i64 t483)).setCell ⟨gb495,1,none⟩ (.int .i64 t484)).setCell ⟨gb495,2,none⟩ (.bool t485)).setCell ⟨gb495,3,none⟩ (.int .i64 t486)).setCell ⟨gb495,4,none⟩ (.int .i64 t487)).setCell ⟨gb495,5,none⟩ (.int .i64 t488)).setCell ⟨gb495,6,none⟩ (.int .i64 t489)).setCell ⟨gb495,7,none⟩ (.int .i64 t490)).setCell ⟨gb495,8,none⟩ (.int .i64 t491)).setCell ⟨gb495,9,none⟩ (.string t492)) w.heap.size (fun _=>True) v481 t480):=⟨by(with_reducible repeat (first|apply Kd.R_alloc|apply Kd.R_drewN|apply Kd.R_drew));exact Kd.R_mono (Kd.R_far (p:=⟨gb495,9,none⟩) (Kd.R_far (p:=⟨gb495,8,none⟩) (Kd.R_far (p:=⟨gb495,7,none⟩) (Kd.R_far (p:=⟨gb495,6,none⟩) (Kd.R_far (p:=⟨gb495,5,none⟩) (Kd.R_far (p:=⟨gb495,4,none⟩) (Kd.R_far (p:=⟨gb495,3,none⟩) (Kd.R_far (p:=⟨gb495,2,none⟩) (Kd.R_far (p:=⟨gb495,1,none⟩) (Kd.R_far (p:=⟨gb495,0,none⟩) (Kd.R_types HO482.out BK495.out (b20_)) (fun _ hk=>hk.2) (.int .i64 t483)) (fun _ hk=>hk.2) (.int .i64 t484)) (fun _ hk=>hk.2) (.bool t485)) (fun _ hk=>hk.2) (.int .i64 t486)) (fun _ hk=>hk.2) (.int .i64 t487)) (fun _ hk=>hk.2) (.int .i64 t488)) (fun _ hk=>hk.2) (.int .i64 t489)) (fun _ hk=>hk.2) (.int .i64 t490)) (fun _ hk=>hk.2) (.int .i64 t491)) (fun _ hk=>hk.2) (.string t492)) (fun _ hk=>trivial)⟩
 have n1_:Aside0 (((((((((((w7.setCell ⟨gb495,0,none⟩ (.int .i64 t483)).setCell ⟨gb495,1,none⟩ (.int .i64 t484)).setCell ⟨gb495,2,none⟩ (.bool t485)).setCell ⟨gb495,3,none⟩ (.int .i64 t486)).setCell ⟨gb495,4,none⟩ (.int .i64 t487)).setCell ⟨gb495,5,none⟩ (.int .i64 t488)).setCell ⟨gb495,6,none⟩ (.int .i64 t489)).setCell ⟨gb495,7,none⟩ (.int .i64 t490)).setCell ⟨gb495,8,none⟩ (.int .i64 t491)).setCell ⟨gb495,9,none⟩ (.string t492)).heap[gb478]?=some (.cells #[.int .i64 0,.int .i64 0,.bool false,.int .i64 0,.int .i64 0,.int .i64 0,.int .i64 0,.int .i64 0,.int .i64 0,.string (⟨#[]⟩:ByteArray)] 86 (0,0))):=⟨by(with_reducible repeat (first|refine blk_drewN ?_ _|refine blk_drew ?_|refine blk_alloc ?_ _));refine blk_far ?_ NB478_495.out _;(with_reducible repeat (first|refine blk_drewN ?_ _|refine blk_drew ?_|refine blk_alloc ?_ _));refine blk_far ?_ NB478_495.out _;(with_reducible repeat (first|refine blk_drewN ?_ _|refine blk_drew ?_|refine blk_alloc ?_ _));refine blk_far ?_ NB478_495.out _;(with_reducible repeat (first|refine blk_drewN ?_ _|refine blk_drew ?_|refine blk_alloc ?_ _));refine blk_far ?_ NB478_495.out _;(with_reducible repeat (first|refine blk_drewN ?_ _|refine blk_drew ?_|refine blk_alloc ?_ _));refine blk_far ?_ NB478_495.out _;(with_reducible repeat (first|refine blk_drewN ?_ _|refine blk_drew ?_|refine blk_alloc ?_ _));refine blk_far ?_ NB478_495.out _;(with_reducible repeat (first|refine blk_drewN ?_ _|refine blk_drew ?_|refine blk_alloc ?_ _));refine blk_far ?_ NB478_495.out _;(with_reducible repeat (first|refine blk_drewN ?_ _|refine blk_drew ?_|refine blk_alloc ?_ _));refine blk_far ?_ NB478_495.out _;(with_reducible repeat (first|refine blk_drewN ?_ _|refine blk_drew ?_|refine blk_alloc ?_ _));refine blk_far ?_ NB478_495.out _;(with_reducible repeat (first|refine blk_drewN ?_ _|refine blk_drew ?_|refine blk_alloc ?_ _));refine blk_far ?_ NB478_495.out _;(with_reducible repeat (first|refine blk_drewN ?_ _|refine blk_drew ?_|refine blk_alloc ?_ _));exact BK478.out⟩
 have n2_:Aside0 (((((((((((w7.setCell ⟨gb495,0,none⟩ (.int .i64 t483)).setCell ⟨gb495,1,none⟩ (.int .i64 t484)).setCell ⟨gb495,2,none⟩ (.bool t485)).setCell ⟨gb495,3,none⟩ (.int .i64 t486)).setCell ⟨gb495,4,none⟩ (.int .i64 t487)).setCell ⟨gb495,5,none⟩ (.int .i64 t488)).setCell ⟨gb495,6,none⟩ (.int .i64 t489)).setCell ⟨gb495,7,none⟩ (.int .i64 t490)).setCell ⟨gb495,8,none⟩ (.int .i64 t491)).setCell ⟨gb495,9,none⟩ (.string t492)).heap[gb495]?=some (.cells #[.int .i64 t483,.int .i64 t484,.bool t485,.int .i64 t486,.int .i64 t487,.int .i64 t488,.int .i64 t489,.int .i64 t490,.int .i64 t491,.string t492] 86 (0,0))):=⟨by(with_reducible repeat (first|refine blk_drewN ?_ _|refine blk_drew ?_|refine blk_alloc ?_ _));apply bU10;(with_reducible repeat (first|refine blk_drewN ?_ _|refine blk_drew ?_|refine blk_alloc ?_ _));exact BK495.out⟩
 have n3_:Aside0 (IsS138 w ((((((((((w7.setCell ⟨gb495,0,none⟩ (.int .i64 t483)).setCell ⟨gb495,1,none⟩ (.int .i64 t484)).setCell ⟨gb495,2,none⟩ (.bool t485)).setCell ⟨gb495,3,none⟩ (.int .i64 t486)).setCell ⟨gb495,4,none⟩ (.int .i64 t487)).setCell ⟨gb495,5,none⟩ (.int .i64 t488)).setCell ⟨gb495,6,none⟩ (.int .i64 t489)).setCell ⟨gb495,7,none⟩ (.int .i64 t490)).setCell ⟨gb495,8,none⟩ (.int .i64 t491)).setCell ⟨gb495,9,none⟩ (.string t492)) gb479 l0 t493 t494):=⟨by repeat (first|(with_reducible first|exact HI479.out|apply IsS138.alloc|apply IsS138.drewN|apply IsS138.drew|apply IsS138.set_1|apply IsS138.set_2|apply IsS138.far (hne:=NB479_478.out)|apply IsS138.far (hne:=NB479_495.out))|exact HI479.out)⟩
 have n4_:Aside0 (Below w.heap.size w ((((((((((w7.setCell ⟨gb495,0,none⟩ (.int .i64 t483)).setCell ⟨gb495,1,none⟩ (.int .i64 t484)).setCell ⟨gb495,2,none⟩ (.bool t485)).setCell ⟨gb495,3,none⟩ (.int .i64 t486)).setCell ⟨gb495,4,none⟩ (.int .i64 t487)).setCell ⟨gb495,5,none⟩ (.int .i64 t488)).setCell ⟨gb495,6,none⟩ (.int .i64 t489)).setCell ⟨gb495,7,none⟩ (.int .i64 t490)).setCell ⟨gb495,8,none⟩ (.int .i64 t491)).setCell ⟨gb495,9,none⟩ (.string t492))):=⟨by repeat (first|(with_reducible first|exact HB.out|apply below_alloc|apply pw_below_drewN|apply below_drew1|refine below_set ?_ (IsS138.ge HI479.out)|refine below_set ?_ GE478.out|refine below_set ?_ GE495.out)|exact HB.out)⟩
 (try clear HO482)
 (try clear BK478)
 (try clear BK495)
 (try clear HI479)
 (try clear HB)
 generalize ((((((((((w7.setCell ⟨gb495,0,none⟩ (.int .i64 t483)).setCell ⟨gb495,1,none⟩ (.int .i64 t484)).setCell ⟨gb495,2,none⟩ (.bool t485)).setCell ⟨gb495,3,none⟩ (.int .i64 t486)).setCell ⟨gb495,4,none⟩ (.int .i64 t487)).setCell ⟨gb495,5,none⟩ (.int .i64 t488)).setCell ⟨gb495,6,none⟩ (.int .i64 t489)).setCell ⟨gb495,7,none⟩ (.int .i64 t490)).setCell ⟨gb495,8,none⟩ (.int .i64 t491)).setCell ⟨gb495,9,none⟩ (.string t492))=w11 at n0_ n1_ n2_ n3_ n4_ ⊢
 have HO482:=n0_
 have BK478:=n1_
 have BK495:=n2_
 have HI479:=n3_
 have HB:=n4_
 clear n0_ n1_ n2_ n3_ n4_
 (try (rw[drewN_self w11];generalize hq_:World.drewN w11 _=w11;have n0_:=am (Kd.R_at hq_ HO482.out);have n1_:=am (blk_at hq_ BK478.out);have n2_:=am (blk_at hq_ BK495.out);have n3_:=am (IsS138.at_ hq_ HI479.out);have n4_:=am (below_at hq_ HB.out);clear hq_ HO482 BK478 BK495 HI479 HB;have HO482:=n0_;have BK478:=n1_;have BK495:=n2_;have HI479:=n3_;have HB:=n4_;clear n0_ n1_ n2_ n3_ n4_))
 have n0_:=am (Kd.R_drew HO482.out)
 have n1_:=am (blk_drew BK478.out)
 have n2_:=am (blk_drew BK495.out)
 have n3_:=am (IsS138.drew HI479.out)
 have n4_:=am (below_drew1 HB.out)
 clear HO482 BK478 BK495 HI479 HB
 have HO482:=n0_
 have BK478:=n1_
 have BK495:=n2_
 have HI479:=n3_
 have HB:=n4_
 clear n0_ n1_ n2_ n3_ n4_
 refine start_ (n:=7) (S:=fun w'=>w'.cell? ⟨gb495,0,none⟩=some (.int .i64 t483)∧w'.cell? ⟨gb495,1,none⟩=some (.int .i64 t484)∧w'.cell? ⟨gb495,2,none⟩=some (.bool t485)∧w'.cell? ⟨gb495,3,none⟩=some (.int .i64 t486)∧w'.cell? ⟨gb495,4,none⟩=some (.int .i64 t487)∧w'.cell? ⟨gb495,5,none⟩=some (.int .i64 t488)∧w'.cell? ⟨gb495,6,none⟩=some (.int .i64 t489)∧w'.cell? ⟨gb495,7,none⟩=some (.int .i64 t490)∧w'.cell? ⟨gb495,8,none⟩=some (.int .i64 t491)∧w'.cell? ⟨gb495,9,none⟩=some (.string t492)) (ds:=[]) #[false,false,false,false,false,false,false] (b6_) rfl rfl (cC10 BK495.out) (fun hHeld => ?_)
 generalize w11.drew=w12 at HO482 BK478 BK495 HI479 HB hHeld ⊢
 refine pure_ (i:=0) (N:=some 16) (v:=?_) (a':=?_) #[true,false,false,false,false,false,false] rfl rfl (b6_) (fun _ _ _ h=>h) (Or.inl ⟨by rfl,?_⟩) ?_ ?_
 rotate_left
 ·intro w'
  go_simp
  with_reducible rfl
 rotate_left
 ·simp only[Act.put,zA,zB,zC,i64_w,i32_w]
  rfl
 refine pure_ (i:=2) (N:=some 18) (v:=?_) (a':=?_) #[true,false,true,false,false,false,false] rfl rfl (b6_) (fun _ _ _ h=>h) (Or.inl ⟨by rfl,?_⟩) ?_ ?_
 rotate_left
 ·intro w'
  go_simp
  with_reducible rfl
 rotate_left
 ·simp only[Act.put,zA,zB,zC,i64_w,i32_w]
  rfl
 refine take_ (i:=1) (N:=some 17) (v:=?_) (a':=?_) #[true,true,true,false,false,false,false] rfl rfl (b6_) (fun _ _ _ h=>h) (Or.inl ⟨by rfl,?_⟩) hHeld ?_ ?_
 rotate_left
 ·rintro w' ⟨s0,s1,s2,s3,s4,s5,s6,s7,s8,s9⟩
  go_simp
  with_reducible rfl
 rotate_left
 ·simp only[Act.put,zA,zB,zC,i64_w,i32_w]
  rfl
 refine one_ (i:=3) (N:=some 19) #[true,true,true,true,false,false,false] rfl rfl (b6_) (b20_) (fun K hK => ?_)
 refine goes_ Try.func116 (b6_) rfl #[.pointer (some ⟨gb479,0,none⟩),.int .i64 6] (by rfl) rfl rfl (b7_) ?_
 with_reducible refine(spec_l1Cur_pick.calls gb479 l0 t493 t494 6 t496 t497 t498 w _ ?side1 ?side2 A3.out).mono ?_
 (case side1=>repeat (first|(with_reducible first|exact HI479.out|apply IsS138.alloc|apply IsS138.drewN|apply IsS138.drew|apply IsS138.set_1|apply IsS138.set_2|apply IsS138.far (hne:=NB479_478.out)|apply IsS138.far (hne:=NB479_495.out))|exact HI479.out))
 (case side2=>repeat (first|(with_reducible first|exact HB.out|apply below_alloc|apply pw_below_drewN|apply below_drew1|refine below_set ?_ (IsS138.ge HI479.out)|refine below_set ?_ GE478.out|refine below_set ?_ GE495.out)|exact HB.out))
 rintro e w13 ⟨rfl,hi,hb,hk⟩
 refine⟨_,rfl,?_⟩
 have n0_:=am (KeepBut.blk hk (g':=gb478) (o:=.cells #[.int .i64 0,.int .i64 0,.bool false,.int .i64 0,.int .i64 0,.int .i64 0,.int .i64 0,.int .i64 0,.int .i64 0,.string (⟨#[]⟩:ByteArray)] 86 (0,0)) (bL BK478.out) NB478_479.out (b27_))
 have n1_:=am (Kd.R_mono (Kd.R_keep (IsS138.apart (show IsS138 w _ gb479 l0 t493 t494 from by repeat (first|(with_reducible first|exact HI479.out|apply IsS138.alloc|apply IsS138.drewN|apply IsS138.drew|apply IsS138.set_1|apply IsS138.set_2|apply IsS138.far (hne:=NB479_478.out)|apply IsS138.far (hne:=NB479_495.out))|exact HI479.out)) (bK HO482.out) (b20_)) hk (fun _ h=>h.2)) (fun _ h=>h.1))
 have n2_:=am (KeepBut.blk hk (g':=gb495) (o:=.cells #[.int .i64 t483,.int .i64 t484,.bool t485,.int .i64 t486,.int .i64 t487,.int .i64 t488,.int .i64 t489,.int .i64 t490,.int .i64 t491,.string t492] 86 (0,0)) (bL BK495.out) NB495_479.out (b27_))
 have n3_:=am (hb)
 have n4_:=am (hi)
 clear BK478 HO482 BK495 HB HI479
 have BK478:=n0_
 have HO482:=n1_
 have BK495:=n2_
 have HB:=n3_
 have HI479:=n4_
 clear n0_ n1_ n2_ n3_ n4_
 (try clear hb)
 (try clear hb2)
 (try clear hk)
 (try clear hi)
 refine hK.out _ _ (cC10 BK495.out) (fun hHeld => ?_)
 clear hK K
 refine norm_ (a':=?_) ?_ ?_
 rotate_left
 ·show Act.put _ (some 19) _=_
  simp only[Act.put,zA,zB,zC,i64_w,i32_w]
  rfl
 refine pure_ (i:=4) (N:=some 2) (v:=?_) (a':=?_) #[true,true,true,true,true,false,false] rfl rfl (b6_) (fun _ _ _ h=>h) (Or.inl ⟨by rfl,?_⟩) ?_ ?_
 rotate_left
 ·intro w'
  go_simp
  with_reducible rfl
 rotate_left
 ·simp only[Act.put,zA,zB,zC,i64_w,i32_w]
  rfl
 refine one_ (i:=5) (N:=none) #[true,true,true,true,true,true,false] rfl rfl (b6_) (b20_) (fun K hK => ?_)
 have hs14:w13.cell? ⟨gb478,0,none⟩=some (.int .i64 0):=(blk_cell BK478.out 0).trans rfl
 have hfs14:=blk_frozen BK478.out 0
 have hns14_1:=NB495_478.out
 have hms14_1:=NB478_495.out
 have hs15:w13.cell? ⟨gb478,1,none⟩=some (.int .i64 0):=(blk_cell BK478.out 1).trans rfl
 have hfs15:=blk_frozen BK478.out 1
 have hns15_1:=NB495_478.out
 have hms15_1:=NB478_495.out
 have hs16:w13.cell? ⟨gb478,2,none⟩=some (.bool false):=(blk_cell BK478.out 2).trans rfl
 have hfs16:=blk_frozen BK478.out 2
 have hns16_1:=NB495_478.out
 have hms16_1:=NB478_495.out
 have hs17:w13.cell? ⟨gb478,3,none⟩=some (.int .i64 0):=(blk_cell BK478.out 3).trans rfl
 have hfs17:=blk_frozen BK478.out 3
 have hns17_1:=NB495_478.out
 have hms17_1:=NB478_495.out
 have hs18:w13.cell? ⟨gb478,4,none⟩=some (.int .i64 0):=(blk_cell BK478.out 4).trans rfl
 have hfs18:=blk_frozen BK478.out 4
 have hns18_1:=NB495_478.out
 have hms18_1:=NB478_495.out
 have hs19:w13.cell? ⟨gb478,5,none⟩=some (.int .i64 0):=(blk_cell BK478.out 5).trans rfl
 have hfs19:=blk_frozen BK478.out 5
 have hns19_1:=NB495_478.out
 have hms19_1:=NB478_495.out
 have hs20:w13.cell? ⟨gb478,6,none⟩=some (.int .i64 0):=(blk_cell BK478.out 6).trans rfl
 have hfs20:=blk_frozen BK478.out 6
 have hns20_1:=NB495_478.out
 have hms20_1:=NB478_495.out
 have hs21:w13.cell? ⟨gb478,7,none⟩=some (.int .i64 0):=(blk_cell BK478.out 7).trans rfl
 have hfs21:=blk_frozen BK478.out 7
 have hns21_1:=NB495_478.out
 have hms21_1:=NB478_495.out
 have hs22:w13.cell? ⟨gb478,8,none⟩=some (.int .i64 0):=(blk_cell BK478.out 8).trans rfl
 have hfs22:=blk_frozen BK478.out 8
 have hns22_1:=NB495_478.out
 have hms22_1:=NB478_495.out
 have hs23:w13.cell? ⟨gb478,9,none⟩=some (.string (⟨#[]⟩:ByteArray)):=(blk_cell BK478.out 9).trans rfl
 have hfs23:=blk_frozen BK478.out 9
 have hns23_1:=NB495_478.out
 have hms23_1:=NB478_495.out
 refine skip_ (w1:=?_) (by rfl) rfl ?_ ?_
 rotate_left
 ·go_simp
  rfl
 refine hK.out _ _ ⟨(cf_ NB495_478.out ((cf_ NB495_478.out ((cf_ NB495_478.out ((cf_ NB495_478.out ((cf_ NB495_478.out ((cf_ NB495_478.out ((cf_ NB495_478.out ((cf_ NB495_478.out ((cf_ NB495_478.out ((cf_ NB495_478.out (hHeld.1)))))))))))))))))))),(cf_ NB495_478.out ((cf_ NB495_478.out ((cf_ NB495_478.out ((cf_ NB495_478.out ((cf_ NB495_478.out ((cf_ NB495_478.out ((cf_ NB495_478.out ((cf_ NB495_478.out ((cf_ NB495_478.out ((cf_ NB495_478.out (hHeld.2.1)))))))))))))))))))),(cf_ NB495_478.out ((cf_ NB495_478.out ((cf_ NB495_478.out ((cf_ NB495_478.out ((cf_ NB495_478.out ((cf_ NB495_478.out ((cf_ NB495_478.out ((cf_ NB495_478.out ((cf_ NB495_478.out ((cf_ NB495_478.out (hHeld.2.2.1)))))))))))))))))))),(cf_ NB495_478.out ((cf_ NB495_478.out ((cf_ NB495_478.out ((cf_ NB495_478.out ((cf_ NB495_478.out ((cf_ NB495_478.out ((cf_ NB495_478.out ((cf_ NB495_478.out ((cf_ NB495_478.out ((cf_ NB495_478.out (hHeld.2.2.2.1)))))))))))))))))))),(cf_ NB495_478.out ((cf_ NB495_478.out ((cf_ NB495_478.out ((cf_ NB495_478.out ((cf_ NB495_478.out ((cf_ NB495_478.out ((cf_ NB495_478.out ((cf_ NB495_478.out ((cf_ NB495_478.out ((cf_ NB495_478.out (hHeld.2.2.2.2.1)))))))))))))))))))),(cf_ NB495_478.out ((cf_ NB495_478.out ((cf_ NB495_478.out ((cf_ NB495_478.out ((cf_ NB495_478.out ((cf_ NB495_478.out ((cf_ NB495_478.out ((cf_ NB495_478.out ((cf_ NB495_478.out ((cf_ NB495_478.out (hHeld.2.2.2.2.2.1)))))))))))))))))))),(cf_ NB495_478.out ((cf_ NB495_478.out ((cf_ NB495_478.out ((cf_ NB495_478.out ((cf_ NB495_478.out ((cf_ NB495_478.out ((cf_ NB495_478.out ((cf_ NB495_478.out ((cf_ NB495_478.out ((cf_ NB495_478.out (hHeld.2.2.2.2.2.2.1)))))))))))))))))))),(cf_ NB495_478.out ((cf_ NB495_478.out ((cf_ NB495_478.out ((cf_ NB495_478.out ((cf_ NB495_478.out ((cf_ NB495_478.out ((cf_ NB495_478.out ((cf_ NB495_478.out ((cf_ NB495_478.out ((cf_ NB495_478.out (hHeld.2.2.2.2.2.2.2.1)))))))))))))))))))),(cf_ NB495_478.out ((cf_ NB495_478.out ((cf_ NB495_478.out ((cf_ NB495_478.out ((cf_ NB495_478.out ((cf_ NB495_478.out ((cf_ NB495_478.out ((cf_ NB495_478.out ((cf_ NB495_478.out ((cf_ NB495_478.out (hHeld.2.2.2.2.2.2.2.2.1)))))))))))))))))))),(cf_ NB495_478.out ((cf_ NB495_478.out ((cf_ NB495_478.out ((cf_ NB495_478.out ((cf_ NB495_478.out ((cf_ NB495_478.out ((cf_ NB495_478.out ((cf_ NB495_478.out ((cf_ NB495_478.out ((cf_ NB495_478.out (hHeld.2.2.2.2.2.2.2.2.2))))))))))))))))))))⟩ (fun hHeld => ?_)
 clear hK K
 refine pure_ (i:=6) (N:=some 4) (v:=?_) (a':=?_) #[true,true,true,true,true,true,true] rfl rfl (b6_) (fun _ _ _ h=>h) (Or.inl ⟨by rfl,?_⟩) ?_ ?_
 rotate_left
 ·intro w'
  go_simp
  with_reducible rfl
 rotate_left
 ·simp only[Act.put,zA,zB,zC,i64_w,i32_w]
  rfl
 refine done_ (b6_) ?_
 try go_wp2
 refine bodyPost_ret (results_list (rs:=[.tmp 2,.cell 3 86,.tmp 4]) rfl (b27_) (.tmp (.cell gb478 86 #[.int .i64 t483,.int .i64 t484,.bool t485,.int .i64 t486,.int .i64 t487,.int .i64 t488,.int .i64 t489,.int .i64 t490,.int .i64 t491,.string t492] (0,0) _ rfl (by(with_reducible repeat (first|refine blk_drewN ?_ _|refine blk_drew ?_|refine blk_alloc ?_ _));apply bU10;(with_reducible repeat (first|refine blk_drewN ?_ _|refine blk_drew ?_|refine blk_alloc ?_ _));exact BK478.out) Try.underlying86 rfl (b6_) (.tmp .nil)))) rfl ?_
 exact⟨_,by first|rfl|(simp[errW_none,errW_some]<;>rfl)|(simp[*,errW_none,errW_some]<;>rfl),by(with_reducible repeat (first|apply Kd.R_alloc|apply Kd.R_drewN|apply Kd.R_drew));exact Kd.R_mono (Kd.R_far (p:=⟨gb478,9,none⟩) (Kd.R_far (p:=⟨gb478,8,none⟩) (Kd.R_far (p:=⟨gb478,7,none⟩) (Kd.R_far (p:=⟨gb478,6,none⟩) (Kd.R_far (p:=⟨gb478,5,none⟩) (Kd.R_far (p:=⟨gb478,4,none⟩) (Kd.R_far (p:=⟨gb478,3,none⟩) (Kd.R_far (p:=⟨gb478,2,none⟩) (Kd.R_far (p:=⟨gb478,1,none⟩) (Kd.R_far (p:=⟨gb478,0,none⟩) (Kd.R_types HO482.out BK478.out (b20_)) (fun _ hk=>hk.2) (.int .i64 t483)) (fun _ hk=>hk.2) (.int .i64 t484)) (fun _ hk=>hk.2) (.bool t485)) (fun _ hk=>hk.2) (.int .i64 t486)) (fun _ hk=>hk.2) (.int .i64 t487)) (fun _ hk=>hk.2) (.int .i64 t488)) (fun _ hk=>hk.2) (.int .i64 t489)) (fun _ hk=>hk.2) (.int .i64 t490)) (fun _ hk=>hk.2) (.int .i64 t491)) (fun _ hk=>hk.2) (.string t492)) (fun _ hk=>trivial),by repeat (first|(with_reducible first|exact HB.out|apply below_alloc|apply pw_below_drewN|apply below_drew1|refine below_set ?_ (IsS138.ge HI479.out)|refine below_set ?_ GE478.out|refine below_set ?_ GE495.out)|exact HB.out)⟩

/-! ### laws_sameInts: function 62 -/
def laws_sameInts.l0:Nat→List Int→List Int→Int→Int→Option (Bool)
 | 0,_,_,_,_=>none
 | k+1,x0,x1,x12,x13=>if x13 < x12 then (if 0≤x13 then (if x13 < (x0.length:Int) then (if x13 < (x1.length:Int) then (if (rd x0 x13)=(rd x1 x13) then (laws_sameInts.l0 k x0 x1 x12 (wrap64 (x13+1))) else (some false)) else (none)) else (none)) else (none)) else (some true)
def laws_sameInts.f (k:Nat) (l0:List Int) (l1:List Int):Option (Bool):=if (l0.length:Int)=(l1.length:Int) then (laws_sameInts.l0 k l0 l1 (l0.length:Int) 0) else (some false)
theorem laws_sameInts.mono_l : ∀ k,(∀ y0 y1 y2 y3,LeO (laws_sameInts.l0 k y0 y1 y2 y3) (laws_sameInts.l0 (k+1) y0 y1 y2 y3))
 | 0=>fun _ _ _ _ r h=>by simp[laws_sameInts.l0] at h
 | k+1=>by
  have ih0:=laws_sameInts.mono_l k
  ·intro y0 y1 y2 y3
   unfold laws_sameInts.l0
   repeat' first
   | (with_reducible exact ih0 _ _ _ _)
   | (with_reducible exact LeO.refl _)
   | (with_reducible exact LeO.none _)
   | (with_reducible refine LeO.ite ?_ ?_)
   | (with_reducible refine LeO.bind ?_ (fun _ => ?_))
theorem laws_sameInts.mono : ∀ a0 a1 k,LeO (laws_sameInts.f k a0 a1) (laws_sameInts.f (k+1) a0 a1):=by
 intro a0 a1 k
 have ih0:=laws_sameInts.mono_l k
 unfold laws_sameInts.f
 repeat' first
  | (with_reducible exact ih0 _ _ _ _)
  | (with_reducible exact LeO.refl _)
  | (with_reducible exact LeO.none _)
  | (with_reducible refine LeO.ite ?_ ?_)
  | (with_reducible refine LeO.bind ?_ (fun _ => ?_))
set_option maxHeartbeats 8000000 in
set_option maxRecDepth 100000 in
theorem laws_sameInts.calls (k:Nat) (A0:Option Addr) (c0:Nat) (l0:List Int) (A1:Option Addr) (c1:Nat) (l1:List Int) (r:Bool) (w:World) (hr0:Kd.C (Kd.int .i64) w A0 l0.length l0) (hc0:l0.length≤c0) (hr1:Kd.C (Kd.int .i64) w A1 l1.length l1) (hc1:l1.length≤c1) (h:laws_sameInts.f k l0 l1=some r) :
  Calls Try.prog 62 #[.slice A0 l0.length c0,.slice A1 l1.length c1] w fun e w'=>e=.returned (.bool r)∧Drawn0 w w':=by
 have HR0:=am hr0
 have HC0:=am hc0
 clear hr0 hc0
 have HR1:=am hr1
 have HC1:=am hc1
 clear hr1 hc1
 have H:(if (l0.length:Int)=(l1.length:Int) then (laws_sameInts.l0 k l0 l1 (l0.length:Int) 0) else (some false))=some r:=h
 clear h
 by_cases c3:(l0.length:Int)=(l1.length:Int)
 ·rw[if_pos c3] at H
  have c3b0:((l0.length:Int) == (l1.length:Int))=true:=beq_iff_eq.mpr c3
  have c3b1:((l0.length:Int) != (l1.length:Int))=false:=bne_eq_false_iff_eq.mpr c3
  have c3b2:(l0.length == l1.length)=true:=by first|simpa using c3|(simp at c3 ⊢;omega)
  clear c3
  have H':=am H
  clear H
  go_enter Try.func62,Try.ntmps62
  go_wp2
  repeat (go_quiet (fail);try go_wp2)
  go_loopg [13] k (fun kq v13 w' => ∃ (x13_1:Int),v13=.int .i64 x13_1∧Aside0 (laws_sameInts.l0 kq l0 l1 (l0.length:Int) x13_1=some r)∧Aside0 (kq≤k)∧Drawn0 w w')
  case atStart=>exact⟨(0),(bR),H',⟨Nat.le_refl _⟩,bW⟩
  case round =>
   clear H'
   try clear c1
   try clear p2
   try clear c3
   try clear c3b0
   try clear c3b1
   try clear c3b2
   obtain⟨x13_1,rfl,HA,HK1,⟨m1,rfl⟩⟩:=hrel
   cases gk with
   | zero=>exact absurd HA.out (by simp[laws_sameInts.l0])
   | succ k1 =>
    have H:=HA.out
    clear HA
    simp only[laws_sameInts.l0] at H
    by_cases c4:x13_1 < (l0.length:Int)
    ·rw[if_pos c4] at H
     have c4b0:decide (x13_1 < (l0.length:Int))=true:=decide_eq_true c4
     clear c4
     by_cases c5:0≤x13_1
     ·rw[if_pos c5] at H
      have c5b0:decide (0≤x13_1)=true:=decide_eq_true c5
      clear c5
      by_cases c6:x13_1 < (l0.length:Int)
      ·rw[if_pos c6] at H
       have c6b0:decide (x13_1 < (l0.length:Int))=true:=decide_eq_true c6
       clear c6
       by_cases c7:x13_1 < (l1.length:Int)
       ·rw[if_pos c7] at H
        have c7b0:decide (x13_1 < (l1.length:Int))=true:=decide_eq_true c7
        clear c7
        by_cases c8:(rd l0 x13_1)=(rd l1 x13_1)
        ·rw[if_pos c8] at H
         have c8b0:((rd l0 x13_1) == (rd l1 x13_1))=true:=beq_iff_eq.mpr c8
         have c8b1:((rd l0 x13_1) != (rd l1 x13_1))=false:=bne_eq_false_iff_eq.mpr c8
         clear c8
         have H':=am H
         clear H
         have p499:0≤(x13_1:Int):=bD_
         have q499:x13_1 < (l0.length:Int):=bD_
         obtain⟨ad499,e499,hx499_0⟩:=Kd.at_int HR0.out x13_1 p499 q499
         cases e499
         replace p499:=eq_true p499
         replace q499:=eq_true q499
         have p500:0≤(x13_1:Int):=bD_
         have q500:x13_1 < (l1.length:Int):=bD_
         obtain⟨ad500,e500,hx500_0⟩:=Kd.at_int HR1.out x13_1 p500 q500
         cases e500
         replace p500:=eq_true p500
         replace q500:=eq_true q500
         go_wp2
         repeat (go_quiet (fail);try go_wp2)
         go_roundg k1
         case measure=>have:=HK1.out;omega
         case rel=>exact⟨(wrap64 (x13_1+1)),(bR),H',⟨by have:=HK1.out;omega⟩,bW⟩
        ·rw[if_neg c8] at H
         have c8b0:((rd l0 x13_1) == (rd l1 x13_1))=false:=beq_eq_false_iff_ne.mpr c8
         have c8b1:((rd l0 x13_1) != (rd l1 x13_1))=true:=bne_iff_ne.mpr c8
         obtain rfl:=Option.some.inj H
         have p499:0≤(x13_1:Int):=bD_
         have q499:x13_1 < (l0.length:Int):=bD_
         obtain⟨ad499,e499,hx499_0⟩:=Kd.at_int HR0.out x13_1 p499 q499
         cases e499
         replace p499:=eq_true p499
         replace q499:=eq_true q499
         have p500:0≤(x13_1:Int):=bD_
         have q500:x13_1 < (l1.length:Int):=bD_
         obtain⟨ad500,e500,hx500_0⟩:=Kd.at_int HR1.out x13_1 p500 q500
         cases e500
         replace p500:=eq_true p500
         replace q500:=eq_true q500
         go_wp2
         repeat (go_quiet (fail);try go_wp2)
         go_ret
         exact⟨bR,bW⟩
       ·rw[if_neg c7] at H
        exact absurd H (b27_)
      ·rw[if_neg c6] at H
       exact absurd H (b27_)
     ·rw[if_neg c5] at H
      exact absurd H (b27_)
    ·rw[if_neg c4] at H
     have c4b0:decide (x13_1 < (l0.length:Int))=false:=decide_eq_false c4
     clear c4
     obtain rfl:=Option.some.inj H
     go_wp2
     repeat (go_quiet (fail);try go_wp2)
     go_ret
     exact⟨bR,bW⟩
 ·rw[if_neg c3] at H
  have c3b0:((l0.length:Int) == (l1.length:Int))=false:=beq_eq_false_iff_ne.mpr c3
  have c3b1:((l0.length:Int) != (l1.length:Int))=true:=bne_iff_ne.mpr c3
  have c3b2:(l0.length == l1.length)=false:=by first|simpa using c3|(simp at c3 ⊢;omega)
  obtain rfl:=Option.some.inj H
  go_enter Try.func62,Try.ntmps62
  go_wp2
  repeat (go_quiet (fail);try go_wp2)
  go_ret
  exact⟨bR,bW⟩

-- NOT PRINTED: function 148 (slices_IndexFunc_int_int)

-- NOT PRINTED: function 113 (slices_ContainsFunc_int_int)

/-- A state of type 3 at block g of W; what its slices lead to came in by w0. -/
def IsS3 (w0 W:World) (g:Nat) (f0:Int):Prop:=W.heap[g]?=some (.cells #[.int .i64 f0] 3 (0,0))∧w0.heap.size≤g
theorem IsS3.grown {w0 W:World} {g:Nat} {f0:Int} {W1:World} {row:Option Nat} (h:IsS3 w0 W g f0) (hw:W.grownBy W1 row) (hne:some g≠row):IsS3 w0 W1 g f0:=by
 obtain⟨hb,hg⟩:=h
 exact⟨blk_grown hb hw hne,hg⟩
theorem IsS3.own_neN {w0 W:World} {g:Nat} {f0:Int} {α:Type} {d:Kd α} {e:Nat} {base:Nat} {ok:Nat→Prop} {v:Value} {xs:List α} (h:IsS3 w0 W g f0) (ho:Kd.N d e W base ok v xs) (ht:e≠3):some g≠v.ownBlock:=by
 obtain⟨hb,hg⟩:=h
 exact Kd.N_ne ho hb ht
theorem IsS3.fresh {w0 W:World} {g:Nat} {f0:Int} (h:IsS3 w0 W g f0) : ∀ k,W.heap.size≤k→k≠g:=by
 obtain⟨hb,hg⟩:=h
 exact Kd.freshB hb
theorem IsS3.kept {w0 W:World} {g:Nat} {f0:Int} {W1:World} {S:Nat→Prop} (h:IsS3 w0 W g f0) (hk:Kept W W1 S) (hne : ¬ S g):IsS3 w0 W1 g f0:=by
 obtain⟨hb,hg⟩:=h
 exact⟨blk_kept hb hk hne,hg⟩
theorem IsS3.below {w0 W:World} {g:Nat} {f0:Int} {W1:World} (h:IsS3 w0 W g f0) (hw:Below W.heap.size W W1):IsS3 w0 W1 g f0:=h.grown (grown_of_below hw none) (b27_)
theorem IsS3.alloc {w0 W:World} {g:Nat} {f0:Int} (h:IsS3 w0 W g f0) (o:Obj):IsS3 w0 (W.alloc o) g f0:=h.below (below_alloc (Below.refl _ _) o)
theorem IsS3.drewN {w0 W:World} {g:Nat} {f0:Int} (h:IsS3 w0 W g f0) (m:Nat):IsS3 w0 (W.drewN m) g f0:=h
theorem IsS3.drew {w0 W:World} {g:Nat} {f0:Int} (h:IsS3 w0 W g f0):IsS3 w0 W.drew g f0:=h
theorem IsS3.at_ {w0 W:World} {g:Nat} {f0:Int} {w':World} {m:Nat} (hq:W.drewN m=w') (h:IsS3 w0 W g f0):IsS3 w0 w' g f0:=by subst hq;exact IsS3.drewN h m
theorem IsS3.apart {w0 W:World} {g:Nat} {f0:Int} {α:Type} {d:Kd α} {e:Nat} {base:Nat} {ok:Nat→Prop} {v:Value} {xs:List α} (h:IsS3 w0 W g f0) (ho:d.R e W base ok v xs) (ht : ∀ q,q ∈ e::d.E→q≠3):d.R e W base (fun k=>ok k∧k≠g) v xs:=by
 obtain⟨hb,hg⟩:=h
 exact Kd.R_types ho hb ht
theorem IsS3.own_ne {w0 W:World} {g:Nat} {f0:Int} {α:Type} {d:Kd α} {e:Nat} {base:Nat} {ok:Nat→Prop} {v:Value} {xs:List α} (h:IsS3 w0 W g f0) (ho:d.R e W base ok v xs) (ht:e≠3):some g≠v.ownBlock:=by
 obtain⟨hb,hg⟩:=h
 exact Kd.R_ne ho hb ht
theorem IsS3.apartQ {w0 W:World} {g:Nat} {f0:Int} {α:Type} {d:Kd α} {e:Nat} {base:Nat} {ok:Nat→Prop} {v:Value} {xs:List α} (h:IsS3 w0 W g f0) (ho:d.Q e W base ok v xs) (ht : ∀ q,q ∈ e::d.E→q≠3):d.Q e W base (fun k=>ok k∧k≠g) v xs:=by
 obtain⟨hb,hg⟩:=h
 exact Kd.Q_types ho hb ht
theorem IsS3.own_neQ {w0 W:World} {g:Nat} {f0:Int} {α:Type} {d:Kd α} {e:Nat} {base:Nat} {ok:Nat→Prop} {v:Value} {xs:List α} (h:IsS3 w0 W g f0) (ho:d.Q e W base ok v xs) (ht:e≠3):some g≠v.ownBlock:=by
 obtain⟨hb,hg⟩:=h
 exact Kd.Q_ne ho hb ht
theorem IsS3.apartS {w0 W:World} {g:Nat} {f0:Int} {α:Type} {d:Kd α} {e:Nat} {base:Nat} {ok:Nat→Prop} {v:Value} {xs:List α} (h:IsS3 w0 W g f0) (ho:d.S e W base ok v xs) (ht : ∀ q,q ∈ e::d.E→q≠3):d.S e W base (fun k=>ok k∧k≠g) v xs:=by
 obtain⟨hb,hg⟩:=h
 exact Kd.S_types ho hb ht
theorem IsS3.own_neS {w0 W:World} {g:Nat} {f0:Int} {α:Type} {d:Kd α} {e:Nat} {base:Nat} {ok:Nat→Prop} {v:Value} {xs:List α} (h:IsS3 w0 W g f0) (ho:d.S e W base ok v xs) (ht:e≠3):some g≠v.ownBlock:=by
 obtain⟨hb,hg⟩:=h
 exact Kd.S_ne ho hb ht
theorem IsS3.lt {w0 W:World} {g:Nat} {f0:Int} (h:IsS3 w0 W g f0):g < W.heap.size:=by
 obtain⟨hb,hg⟩:=h
 exact blk_lt hb
theorem IsS3.ge {w0 W:World} {g:Nat} {f0:Int} (h:IsS3 w0 W g f0):w0.heap.size≤g:=by
 obtain⟨hb,hg⟩:=h
 exact hg
theorem IsS3.ne_blk {w0 W:World} {g:Nat} {f0:Int} {a:Nat} {cs:Array Value} {t:TypeId} {fr:Nat × Nat} (h:IsS3 w0 W g f0) (hb2:W.heap[a]?=some (.cells cs t fr)) (ht:t≠3):g≠a:=by
 obtain⟨hb,hg⟩:=h
 rintro rfl
 rw[hb] at hb2
 injection hb2 with hb2
 injection hb2 with _ ht2
 exact ht ht2.symm
theorem IsS3.far {w0 W:World} {g:Nat} {f0:Int} {p:Addr} (h:IsS3 w0 W g f0) (hne:g≠p.block) (u:Value):IsS3 w0 (W.setCell p u) g f0:=by
 obtain⟨hb,hg⟩:=h
 exact⟨blk_far hb hne u,hg⟩
theorem cellS3_0 {W:World} {g:Nat} {f0:Int} (h:W.heap[g]?=some (.cells #[.int .i64 f0] 3 (0,0))):W.cell? ⟨g,0,none⟩=some (.int .i64 f0):=(blk_cell h 0).trans rfl
theorem IsS3.set_0 {w0 W:World} {g:Nat} {f0:Int} (h:IsS3 w0 W g f0) (x:Int):IsS3 w0 (W.setCell ⟨g,0,none⟩ (.int .i64 x)) g x:=by
 obtain⟨hb,hg⟩:=h
 exact⟨by simpa using blk_set hb 0 (.int .i64 x),hg⟩
theorem IsS3.new (w0 W:World) (f0:Int) (hB:Below w0.heap.size w0 W):IsS3 w0 (W.alloc (.cells #[.int .i64 f0] 3)) W.heap.size f0:=⟨by simpa using heap_alloc_new W _,hB.size⟩

/-! ### impl_areOf_lit1_captured: function 163 -/
def impl_areOf_lit1_captured.f (a0:Int) (s1_0:Int):Option (Bool × Int):=(impl_within.f a0 0 (wrap64 (s1_0 - 1))).bind fun t503=>(some (!t503,s1_0))
set_option maxHeartbeats 8000000 in
set_option maxRecDepth 100000 in
theorem impl_areOf_lit1_captured.calls (a0:Int) (g:Nat) (s1_0:Int) (r1:Bool) (r2:Int) (w0 w:World) (hI:IsS3 w0 w g s1_0) (hB:Below w0.heap.size w0 w) (h:impl_areOf_lit1_captured.f a0 s1_0=some (r1,r2)) :
  Calls Try.prog 163 #[.int .i64 a0,.pointer (some ⟨g,0,none⟩)] w fun e w'=>e=.returned (.bool r1)∧IsS3 w0 w' g r2∧Below w0.heap.size w0 w'∧KeepBut w w' g none:=by
 have HI1:=am hI
 have HK:=am (KeepBut.refl w g none)
 have HL:=am hB.size
 clear hI
 have HW0:=am hB.size
 have HB:=am hB
 clear hB
 have H:((impl_within.f a0 0 (wrap64 (s1_0 - 1))).bind fun t503=>(some (!t503,s1_0)))=some (r1,r2):=h
 clear h
 replace H:=bI_ H
 obtain⟨t503,A30,H⟩:=H
 replace H:(some (!t503,s1_0))=some (r1,r2):=H
 have A3:=am A30
 clear A30
 simp only[Option.some.injEq,Prod.mk.injEq] at H
 obtain⟨rfl,rfl⟩:=H
 obtain⟨HGz4,hgz4⟩:=HI1.out
 have hcz4_0:=cellS3_0 HGz4
 have hfz4_0:=blk_frozen HGz4 0
 clear HGz4 hgz4
 go_enter Try.func163,Try.ntmps163
 go_wp2_with (first|((with_reducible refine gate_callee (f:=79) rfl ?_);refine goesA (some 7) rfl rfl Try.func79 #[.int .i64 a0,.int .i64 0,.int .i64 (wrap64 (s1_0 - 1))] rfl ?_;(with_reducible refine(impl_within.calls a0 0 (wrap64 (s1_0 - 1)) t503 _ A3.out).mono ?_);rintro e w' ⟨rfl,⟨nd,rfl⟩⟩;refine⟨_,rfl,?_⟩))
 go_ret
 exact⟨bE,b46_,by repeat (first|(with_reducible first|exact HB.out|apply below_alloc|apply pw_below_drewN|apply below_drew1|refine below_set ?_ (IsS3.ge HI1.out))|exact HB.out),b42_⟩

end Go.Proofs.Yteneeohaoplpbaa.XFnFollow
