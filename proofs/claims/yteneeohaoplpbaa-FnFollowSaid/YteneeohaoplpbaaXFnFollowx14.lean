-- Written by this session's own program (wip/xprint.py) out of the translation; Lean checks it.
import Derived.Test.YteneeohaoplpbaaXFnFollowx0
import Derived.Test.YteneeohaoplpbaaXFnFollowx9
import Derived.Test.YteneeohaoplpbaaXFnFollowx10
import Derived.Test.YteneeohaoplpbaaXFnFollowx12
namespace Go.Proofs.Yteneeohaoplpbaa.XFnFollow
open Go.RowKit Go.Proofs.YteneeohaoplpbaaW.PrintWords Go.Proofs.YteneeohaoplpbaaW.PrintLast Go.Proofs.YteneeohaoplpbaaW.PrintMore
open Go.Proofs.YteneeohaoplpbaaW.PrintWords.Aside0 renaming mk → am
open List renaming setIfInBounds_toArray → zA, set_cons_zero → zB, set_cons_succ → zC
attribute [local go_sem] max2_int min2_int max_two min_two max_three min_three max_four min_four   -- for this text's walks alone
set_option linter.unusedVariables false
set_option linter.unusedSimpArgs false

/-! ### spec_l1Cur_whenTo: function 129 -/
def spec_l1Cur_whenTo.f (s0_0:List Int) (s0_1:Int) (s0_2:Int):Option (Int × Int × Int):=(spec_l1Cur_one.f s0_0 s0_1 s0_2 20).bind fun bt527=>(if bt527.1=true then ((spec_l1Cur_among.f s0_0 bt527.2.1 bt527.2.2 (([(-1),1000,1001]:List Int))).bind fun bt533=>(some (bt533.1,bt533.2.1,bt533.2.2))) else ((spec_l1Cur_pick.f s0_0 bt527.2.1 bt527.2.2 50).bind fun bt536=>(some (bt536.1,bt536.2.1,bt536.2.2))))
set_option maxHeartbeats 8000000 in
set_option maxRecDepth 100000 in
theorem spec_l1Cur_whenTo.calls (g:Nat) (s0_0:List Int) (s0_1:Int) (s0_2:Int) (r1:Int) (r2:Int) (r3:Int) (w0 w:World) (hI:IsS138 w0 w g s0_0 s0_1 s0_2) (hB:Below w0.heap.size w0 w) (h:spec_l1Cur_whenTo.f s0_0 s0_1 s0_2=some (r1,r2,r3)) :
  Calls Try.prog 129 #[.pointer (some ⟨g,0,none⟩)] w fun e w'=>e=.returned (.int .i64 r1)∧IsS138 w0 w' g s0_0 r2 r3∧Below w0.heap.size w0 w'∧KeepBut w w' g none:=by
 have HI0:=am hI
 have HK:=am (KeepBut.refl w g none)
 have HL:=am hB.size
 clear hI
 have HW0:=am hB.size
 have HB:=am hB
 clear hB
 have H:((spec_l1Cur_one.f s0_0 s0_1 s0_2 20).bind fun bt527=>(if bt527.1=true then ((spec_l1Cur_among.f s0_0 bt527.2.1 bt527.2.2 (([(-1),1000,1001]:List Int))).bind fun bt533=>(some (bt533.1,bt533.2.1,bt533.2.2))) else ((spec_l1Cur_pick.f s0_0 bt527.2.1 bt527.2.2 50).bind fun bt536=>(some (bt536.1,bt536.2.1,bt536.2.2)))))=some (r1,r2,r3):=h
 clear h
 replace H:=bI_ H
 obtain⟨⟨t527,t528,t529⟩,A20,H⟩:=H
 replace H:(if t527=true then ((spec_l1Cur_among.f s0_0 t528 t529 (([(-1),1000,1001]:List Int))).bind fun bt533=>(some (bt533.1,bt533.2.1,bt533.2.2))) else ((spec_l1Cur_pick.f s0_0 t528 t529 50).bind fun bt536=>(some (bt536.1,bt536.2.1,bt536.2.2))))=some (r1,r2,r3):=H
 have A2:=am A20
 clear A20
 by_cases c3:t527=true
 ·subst c3
  have H1:((spec_l1Cur_among.f s0_0 t528 t529 (([(-1),1000,1001]:List Int))).bind fun bt533=>(some (bt533.1,bt533.2.1,bt533.2.2)))=some (r1,r2,r3):=by rw[if_pos rfl] at H;exact H
  clear H
  have H:=H1
  clear H1
  obtain⟨y530,hy530⟩ : ∃ y_:List Int,y_=(([(-1),1000,1001]:List Int)):=⟨_,rfl⟩
  replace H:((spec_l1Cur_among.f s0_0 t528 t529 y530).bind fun bt533=>(some (bt533.1,bt533.2.1,bt533.2.2)))=some (r1,r2,r3):=by first|(rw[hy530];with_reducible exact H)|(have H2_:=(Option.bind_some _ _).symm.trans H;rw[hy530];with_reducible exact H2_)|(have H2_:=(Option.bind_some _ _).symm.trans H;with_reducible exact H2_)|with_reducible exact H|(rw[hy530];exact H)|exact H
  have Ny530:=am hy530
  clear hy530
  replace H:=bI_ H
  obtain⟨⟨t533,t534,t535⟩,A40,H⟩:=H
  replace H:(some (t533,t534,t535))=some (r1,r2,r3):=H
  have A4:=am A40
  clear A40
  simp only[Option.some.injEq,Prod.mk.injEq] at H
  obtain⟨rfl,rfl,rfl⟩:=H
  go_enter Try.func129,Try.ntmps129
  go_wp2_with (first|((with_reducible refine gate_callee (f:=153) rfl ?_);refine goesA (some 4) rfl rfl Try.func153 #[.pointer (some ⟨g,0,none⟩),.int .i64 20] rfl ?_;(with_reducible refine(spec_l1Cur_one.calls g s0_0 s0_1 s0_2 20 true t528 t529 w0 _ ?side1 ?side2 A2.out).mono ?_);(case side1=>exact b29_);(case side2=>exact b30_);rintro e w5 ⟨rfl,hi,hb,hk⟩;refine⟨_,rfl,?_⟩;have n0_:=am (KeepBut.trans (b0_) hk (.inl rfl));have n1_:=am (hb);have n2_:=am (hi);clear HK HB;(try clear HI0);have HK:=n0_;have HB:=n1_;have HI0:=n2_;clear n0_ n1_ n2_;(try clear hb);(try clear hb2);(try clear hk);(try clear hi))|((with_reducible refine gate_dst (N:=6) rfl ?_);refine Kd.R_lit (Kd.int .i64) _ 3 ?hg (N:=6) ?hd (xs:=([(-1),1000,1001]:List Int)) (inner:=[.int .i64 (-1),.int .i64 1000,.int .i64 1001]) (ok:=fun _=>True) (okp:=fun _=>True) ?hr ?hp (fun _ hk=>hk) trivial (Below.refl _ _) (Nat.le_refl _) (b27_) ?_;(case hd=>rfl);(case hg=>rfl);(case hr=>first|(go_simp;done)|(go_simp;rfl));(case hp=>exact(Reps.one (show Kd.M (Kd.int .i64) _ _ _ (-1) [.int .i64 (-1)] from rfl) (Reps.one (show Kd.M (Kd.int .i64) _ _ _ 1000 [.int .i64 1000] from rfl) (Reps.one (show Kd.M (Kd.int .i64) _ _ _ 1001 [.int .i64 1001] from rfl) (Reps.none _ _)))));intro v531 w6 ho7 hb hg_ hnew_;clear hg_ hnew_;(first|rw[← Ny530.out] at ho7|(simp only[Int.reduceToNat] at ho7;rw[← Ny530.out] at ho7));have n0_:=am (Kd.R_lower ho7 (keep_size (w:=w) (g:=g) (row:=none) (b0_)));have n1_:=am (IsS138.below (b13_) hb);have n2_:=am (KeepBut.trans (b0_) (KeepBut.of_below hb g none) (.inl rfl));have n3_:=am (below_step (b14_) hb);(try clear HI0);clear HK HB;have HO532:=n0_;have HI0:=n1_;have HK:=n2_;have HB:=n3_;clear n0_ n1_ n2_ n3_;clear hb ho7;obtain⟨Ao8,co8,eo8⟩:=Kd.R_slice HO532.out;subst eo8)|((with_reducible refine gate_callee (f:=154) rfl ?_);refine goesA (some 7) rfl rfl Try.func154 #[.pointer (some ⟨g,0,none⟩),.slice Ao8 y530.length co8] rfl ?_;(with_reducible refine(spec_l1Cur_among.calls g s0_0 t528 t529 _ _ y530 t533 t534 t535 w0 _ ?side1 ?side2 ?side3 ?side4 ?side5 A4.out).mono ?_);(case side1=>exact b29_);(case side2=>exact b30_);(case side3=>exact bT HO532.out);(case side4=>exact(Kd.R_reads' HO532.out).2.1);(case side5=>exact far_slice (IsS138.own_ne HI0.out HO532.out (b20_)));rintro e w9 ⟨rfl,hi,hb,hk⟩;refine⟨_,rfl,?_⟩;have n0_:=am (Kd.R_mono (Kd.R_keep (IsS138.apart (show IsS138 w0 _ g s0_0 t528 t529 from by repeat (first|(with_reducible first|exact HI0.out|apply IsS138.alloc|apply IsS138.drewN|apply IsS138.drew|apply IsS138.set_1|apply IsS138.set_2)|exact HI0.out)) (bK HO532.out) (b20_)) hk (fun _ h=>h.2)) (fun _ h=>h.1));have n1_:=am (KeepBut.trans (b0_) hk (.inl rfl));have n2_:=am (hb);have n3_:=am (hi);clear HO532 HK HB;(try clear HI0);have HO532:=n0_;have HK:=n1_;have HB:=n2_;have HI0:=n3_;clear n0_ n1_ n2_ n3_;(try clear hb);(try clear hb2);(try clear hk);(try clear hi)))
  go_ret
  exact⟨bE,b44_,by repeat (first|(with_reducible first|exact HB.out|apply below_alloc|apply pw_below_drewN|apply below_drew1|refine below_set ?_ (IsS138.ge HI0.out))|exact HB.out),b42_⟩
 ·replace c3:=Bool.eq_false_iff.mpr c3
  subst c3
  have H1:((spec_l1Cur_pick.f s0_0 t528 t529 50).bind fun bt536=>(some (bt536.1,bt536.2.1,bt536.2.2)))=some (r1,r2,r3):=by rw[if_neg (show ¬ (false=true) by decide)] at H;exact H
  clear H
  have H:=H1
  clear H1
  replace H:=bI_ H
  obtain⟨⟨t536,t537,t538⟩,A100,H⟩:=H
  replace H:(some (t536,t537,t538))=some (r1,r2,r3):=H
  have A10:=am A100
  clear A100
  simp only[Option.some.injEq,Prod.mk.injEq] at H
  obtain⟨rfl,rfl,rfl⟩:=H
  go_enter Try.func129,Try.ntmps129
  go_wp2_with (first|((with_reducible refine gate_callee (f:=153) rfl ?_);refine goesA (some 4) rfl rfl Try.func153 #[.pointer (some ⟨g,0,none⟩),.int .i64 20] rfl ?_;(with_reducible refine(spec_l1Cur_one.calls g s0_0 s0_1 s0_2 20 false t528 t529 w0 _ ?side1 ?side2 A2.out).mono ?_);(case side1=>exact b29_);(case side2=>exact b30_);rintro e w11 ⟨rfl,hi,hb,hk⟩;refine⟨_,rfl,?_⟩;have n0_:=am (KeepBut.trans (b0_) hk (.inl rfl));have n1_:=am (hb);have n2_:=am (hi);clear HK HB;(try clear HI0);have HK:=n0_;have HB:=n1_;have HI0:=n2_;clear n0_ n1_ n2_;(try clear hb);(try clear hb2);(try clear hk);(try clear hi))|((with_reducible refine gate_callee (f:=116) rfl ?_);refine goesA (some 9) rfl rfl Try.func116 #[.pointer (some ⟨g,0,none⟩),.int .i64 50] rfl ?_;(with_reducible refine(spec_l1Cur_pick.calls g s0_0 t528 t529 50 t536 t537 t538 w0 _ ?side1 ?side2 A10.out).mono ?_);(case side1=>exact b29_);(case side2=>exact b30_);rintro e w12 ⟨rfl,hi,hb,hk⟩;refine⟨_,rfl,?_⟩;have n0_:=am (KeepBut.trans (b0_) hk (.inl rfl));have n1_:=am (hb);have n2_:=am (hi);clear HK HB;(try clear HI0);have HK:=n0_;have HB:=n1_;have HI0:=n2_;clear n0_ n1_ n2_;(try clear hb);(try clear hb2);(try clear hk);(try clear hi)))
  go_ret
  exact⟨bE,b44_,by repeat (first|(with_reducible first|exact HB.out|apply below_alloc|apply pw_below_drewN|apply below_drew1|refine below_set ?_ (IsS138.ge HI0.out))|exact HB.out),b42_⟩

/-! ### spec_DrawForwardStep: function 65 -/
def spec_DrawForwardStep.f (k:Nat) (l0:List Int):Option ((List (S104)) × Int × Int × Bool × Int × Int × Int × Int × Int × Int × ByteArray × Int × Int × Int):=(spec_l1Cur_planned.f k l0 0 0).bind fun bt541=>((spec_l1Cur_pick.f l0 bt541.2.2.2.2.2.2.2.2.2.2.2.1 bt541.2.2.2.2.2.2.2.2.2.2.2.2 6).bind fun bt557=>((spec_l1Cur_whenTo.f l0 bt557.2.1 bt557.2.2).bind fun bt560=>((spec_l1Cur_pick.f l0 bt560.2.1 bt560.2.2 6).bind fun bt563=>(some (bt541.1,bt541.2.1,bt541.2.2.1,bt541.2.2.2.1,bt541.2.2.2.2.1,bt541.2.2.2.2.2.1,bt541.2.2.2.2.2.2.1,bt541.2.2.2.2.2.2.2.1,bt541.2.2.2.2.2.2.2.2.1,bt541.2.2.2.2.2.2.2.2.2.1,bt541.2.2.2.2.2.2.2.2.2.2.1,bt557.1,bt560.1,bt563.1)))))
theorem spec_DrawForwardStep.mono : ∀ a0 k,LeO (spec_DrawForwardStep.f k a0) (spec_DrawForwardStep.f (k+1) a0):=by
 intro a0 k
 unfold spec_DrawForwardStep.f
 repeat' first
  | (with_reducible exact spec_l1Cur_planned.mono _ _ _ _)
  | (with_reducible exact LeO.refl _)
  | (with_reducible exact LeO.none _)
  | (with_reducible refine LeO.ite ?_ ?_)
  | (with_reducible refine LeO.bind ?_ (fun _ => ?_))
def spec_DrawForwardStep.T3:Bool × List (List Nat × List Nat):=(true,[([],[]),([],[]),([],[]),([2],[2]),([],[]),([4,3],[4]),([],[]),([6,5],[6]),([0,7,0],[0]),([1,8,0,1,8],[1]),([3,9,0,1,2,3,8,9],[3]),([5,10,0,1,2,3,4,5,8,9,10],[5]),([7,11,0,1,2,3,4,5,6,7,8,9,10,11],[7])])
def spec_DrawForwardStep.B3:List Nat:=[0,0,0,4,0,28,0,124,253,511,1023,2047,4095]
theorem spec_DrawForwardStep.tab3:rtab .any (opsOf Try.f65 3)=spec_DrawForwardStep.T3:=by kernel_rfl
theorem spec_DrawForwardStep.bits3:waitsOk spec_DrawForwardStep.T3.2 spec_DrawForwardStep.B3=true:=by kernel_rfl
set_option maxHeartbeats 8000000 in
set_option maxRecDepth 100000 in
theorem spec_DrawForwardStep.calls (k:Nat) (A0:Option Addr) (c0:Nat) (l0:List Int) (r1:List (S104)) (r2:Int) (r3:Int) (r4:Bool) (r5:Int) (r6:Int) (r7:Int) (r8:Int) (r9:Int) (r10:Int) (r11:ByteArray) (r12:Int) (r13:Int) (r14:Int) (w:World) (hr0:Kd.C (Kd.int .u8) w A0 l0.length l0) (hc0:l0.length≤c0) (h:spec_DrawForwardStep.f k l0=some (r1,r2,r3,r4,r5,r6,r7,r8,r9,r10,r11,r12,r13,r14)) :
  Calls Try.prog 65 #[.slice A0 l0.length c0] w fun e w' => ∃ v0_:Value,e=.returned (.tuple #[v0_,.agg #[.int .i64 r2,.int .i64 r3,.bool r4,.int .i64 r5,.int .i64 r6,.int .i64 r7,.int .i64 r8,.int .i64 r9,.int .i64 r10,.string r11],.int .i64 r12,.int .i64 r13,.int .i64 r14])∧Kd.R k104 104 w' w.heap.size (fun _=>True) v0_ r1∧Below w.heap.size w w':=by
 have hu86:=Try.underlying86
 have hu138:=Try.underlying138
 have HR0:=am hr0
 have HC0:=am hc0
 clear hr0 hc0
 have HB:=am (Below.refl w.heap.size w)
 have H:((spec_l1Cur_planned.f k l0 0 0).bind fun bt541=>((spec_l1Cur_pick.f l0 bt541.2.2.2.2.2.2.2.2.2.2.2.1 bt541.2.2.2.2.2.2.2.2.2.2.2.2 6).bind fun bt557=>((spec_l1Cur_whenTo.f l0 bt557.2.1 bt557.2.2).bind fun bt560=>((spec_l1Cur_pick.f l0 bt560.2.1 bt560.2.2 6).bind fun bt563=>(some (bt541.1,bt541.2.1,bt541.2.2.1,bt541.2.2.2.1,bt541.2.2.2.2.1,bt541.2.2.2.2.2.1,bt541.2.2.2.2.2.2.1,bt541.2.2.2.2.2.2.2.1,bt541.2.2.2.2.2.2.2.2.1,bt541.2.2.2.2.2.2.2.2.2.1,bt541.2.2.2.2.2.2.2.2.2.2.1,bt557.1,bt560.1,bt563.1))))))=some (r1,r2,r3,r4,r5,r6,r7,r8,r9,r10,r11,r12,r13,r14):=h
 clear h
 replace H:=bI_ H
 obtain⟨⟨t541,t544,t545,t546,t547,t548,t549,t550,t551,t552,t553,t554,t555⟩,A20,H⟩:=H
 replace H:((spec_l1Cur_pick.f l0 t554 t555 6).bind fun bt557=>((spec_l1Cur_whenTo.f l0 bt557.2.1 bt557.2.2).bind fun bt560=>((spec_l1Cur_pick.f l0 bt560.2.1 bt560.2.2 6).bind fun bt563=>(some (t541,t544,t545,t546,t547,t548,t549,t550,t551,t552,t553,bt557.1,bt560.1,bt563.1)))))=some (r1,r2,r3,r4,r5,r6,r7,r8,r9,r10,r11,r12,r13,r14):=H
 have A2:=am A20
 clear A20
 replace H:=bI_ H
 obtain⟨⟨t557,t558,t559⟩,A30,H⟩:=H
 replace H:((spec_l1Cur_whenTo.f l0 t558 t559).bind fun bt560=>((spec_l1Cur_pick.f l0 bt560.2.1 bt560.2.2 6).bind fun bt563=>(some (t541,t544,t545,t546,t547,t548,t549,t550,t551,t552,t553,t557,bt560.1,bt563.1))))=some (r1,r2,r3,r4,r5,r6,r7,r8,r9,r10,r11,r12,r13,r14):=H
 have A3:=am A30
 clear A30
 replace H:=bI_ H
 obtain⟨⟨t560,t561,t562⟩,A40,H⟩:=H
 replace H:((spec_l1Cur_pick.f l0 t561 t562 6).bind fun bt563=>(some (t541,t544,t545,t546,t547,t548,t549,t550,t551,t552,t553,t557,t560,bt563.1)))=some (r1,r2,r3,r4,r5,r6,r7,r8,r9,r10,r11,r12,r13,r14):=H
 have A4:=am A40
 clear A40
 replace H:=bI_ H
 obtain⟨⟨t563,t564,t565⟩,A50,H⟩:=H
 replace H:(some (t541,t544,t545,t546,t547,t548,t549,t550,t551,t552,t553,t557,t560,t563))=some (r1,r2,r3,r4,r5,r6,r7,r8,r9,r10,r11,r12,r13,r14):=H
 have A5:=am A50
 clear A50
 simp only[Option.some.injEq,Prod.mk.injEq] at H
 obtain⟨rfl,rfl,rfl,rfl,rfl,rfl,rfl,rfl,rfl,rfl,rfl,rfl,rfl,rfl⟩:=H
 go_enter Try.func65,Try.ntmps65
 try go_wp2_with (first|((with_reducible refine gate_dst (N:=3) rfl ?_);refine box_event ?hg (N:=3) ?hd (cs:=#[.int .i64 0,.int .i64 0,.bool false,.int .i64 0,.int .i64 0,.int .i64 0,.int .i64 0,.int .i64 0,.int .i64 0,.string (⟨#[]⟩:ByteArray)]) (t:=86) ?hr ?_;(case hd=>rfl);(case hg=>rfl);(case hr=>first|(go_simp;done)|(go_simp;rfl));intro gb539 hg w6 hbox hb;have n0_:=am (below_step (bB) hb);have n1_:=am (hbox);have n2_:=am ((bG:w.heap.size≤gb539));have n3_:=am ((bG:w.heap.size≤gb539));clear HB;have HB:=n0_;have BK539:=n1_;have GW539:=n2_;have GE539:=n3_;clear n0_ n1_ n2_ n3_;clear hb hbox hg)|((with_reducible refine gate_dst (N:=12) rfl ?_);refine box_event ?hg (N:=12) ?hd (cs:=#[.slice A0 l0.length c0,.int .i64 0,.int .u64 0]) (t:=138) ?hr ?_;(case hd=>rfl);(case hg=>rfl);(case hr=>first|(go_simp;done)|(go_simp;rfl));intro gb540 hg w7 hbox hb;have n0_:=am (bM BK539.out hb);have n1_:=am (below_step (bS GE539.out) hb);have n2_:=am (hbox);have n3_:=am ((by rw[hg];exact(below_size (bS GE539.out)):w.heap.size≤gb540));have n4_:=am ((by rw[hg];exact(below_size (bS GE539.out)):w.heap.size≤gb540));have n5_:=am ((bN BK539.out hg:gb539≠gb540));have n6_:=am ((bO BK539.out hg:gb540≠gb539));clear BK539 HB;have BK539:=n0_;have HB:=n1_;have BK540:=n2_;have GW540:=n3_;have GE540:=n4_;have NB539_540:=n5_;have NB540_539:=n6_;clear n0_ n1_ n2_ n3_ n4_ n5_ n6_;clear hb hbox hg)|((with_reducible refine gate_callee (f:=125) rfl ?_);refine goesA (some 15) rfl rfl Try.func125 #[.pointer (some ⟨gb540,0,none⟩)] rfl ?_;(with_reducible refine(spec_l1Cur_planned.calls k gb540 l0 0 0 t541 t544 t545 t546 t547 t548 t549 t550 t551 t552 t553 t554 t555 w _ ?side1 ?side2 A2.out).mono ?_);(case side1=>exact⟨_,_,(bL BK540.out),GE540.out,HR0.out⟩);(case side2=>repeat (first|(with_reducible first|exact HB.out|apply below_alloc|apply pw_below_drewN|apply below_drew1|refine below_set ?_ (IsS138.ge HI540.out)|refine below_set ?_ GE539.out)|exact HB.out));rintro e w8 ⟨v542,rfl,ho0,hi,hb,hk⟩;refine⟨_,rfl,?_⟩;have n0_:=am (KeepBut.blk hk (g':=gb539) (o:=.cells #[.int .i64 0,.int .i64 0,.bool false,.int .i64 0,.int .i64 0,.int .i64 0,.int .i64 0,.int .i64 0,.int .i64 0,.string (⟨#[]⟩:ByteArray)] 86 (0,0)) (bL BK539.out) NB539_540.out (b27_));have n1_:=am (Kd.R_lower ho0 (below_size (b22_)));have n2_:=am (hb);have n3_:=am (hi);clear BK539 HB BK540;have BK539:=n0_;have HO543:=n1_;have HB:=n2_;have HI540:=n3_;clear n0_ n1_ n2_ n3_;(try clear hb);(try clear hb2);(try clear hk);(try clear hi);(try clear ho0))|((with_reducible refine gate_dst (N:=9) rfl ?_);refine box_event ?hg (N:=9) ?hd (cs:=#[.int .i64 0,.int .i64 0,.bool false,.int .i64 0,.int .i64 0,.int .i64 0,.int .i64 0,.int .i64 0,.int .i64 0,.string (⟨#[]⟩:ByteArray)]) (t:=86) ?hr ?_;(case hd=>rfl);(case hg=>rfl);(case hr=>first|(go_simp;done)|(go_simp;rfl));intro gb556 hg w9 hbox hb;have n0_:=am (Kd.R_below (bK HO543.out) hb);have n1_:=am (bM BK539.out hb);have n2_:=am (IsS138.below (by repeat (first|(with_reducible first|exact HI540.out|apply IsS138.alloc|apply IsS138.drewN|apply IsS138.drew|apply IsS138.set_1|apply IsS138.set_2|apply IsS138.far (hne:=NB540_539.out))|exact HI540.out)) hb);have n3_:=am (below_step (b22_) hb);have n4_:=am (hbox);have n5_:=am ((by rw[hg];exact(below_size (b22_)):w.heap.size≤gb556));have n6_:=am ((by rw[hg];exact(below_size (b22_)):w.heap.size≤gb556));have n7_:=am ((bN BK539.out hg:gb539≠gb556));have n8_:=am ((bO BK539.out hg:gb556≠gb539));have n9_:=am ((by rw[hg];exact Nat.ne_of_lt (IsS138.lt (show IsS138 w _ gb540 l0 t554 t555 from by repeat (first|(with_reducible first|exact HI540.out|apply IsS138.alloc|apply IsS138.drewN|apply IsS138.drew|apply IsS138.set_1|apply IsS138.set_2|apply IsS138.far (hne:=NB540_539.out))|exact HI540.out))):gb540≠gb556));have n10_:=am ((by rw[hg];exact Nat.ne_of_gt (IsS138.lt (show IsS138 w _ gb540 l0 t554 t555 from by repeat (first|(with_reducible first|exact HI540.out|apply IsS138.alloc|apply IsS138.drewN|apply IsS138.drew|apply IsS138.set_1|apply IsS138.set_2|apply IsS138.far (hne:=NB540_539.out))|exact HI540.out))):gb556≠gb540));clear HO543 BK539;(try clear HI540);clear HB;have HO543:=n0_;have BK539:=n1_;have HI540:=n2_;have HB:=n3_;have BK556:=n4_;have GW556:=n5_;have GE556:=n6_;have NB539_556:=n7_;have NB556_539:=n8_;have NB540_556:=n9_;have NB556_540:=n10_;clear n0_ n1_ n2_ n3_ n4_ n5_ n6_ n7_ n8_ n9_ n10_;clear hb hbox hg;have hnb10:=NB556_539.out;have hnc10:=NB539_556.out;have hnb11:=NB556_540.out;have hnc11:=NB540_556.out;obtain⟨hcz12_0,hcz12_1,hcz12_2,hcz12_3,hcz12_4,hcz12_5,hcz12_6,hcz12_7,hcz12_8,hcz12_9⟩:=cC10 BK556.out;obtain⟨hfz12_0,hfz12_1,hfz12_2,hfz12_3,hfz12_4,hfz12_5,hfz12_6,hfz12_7,hfz12_8,hfz12_9⟩:=cF10 BK556.out))
 have n0_:Aside0 (Kd.R k104 104 ((((((((((w9.setCell ⟨gb556,0,none⟩ (.int .i64 t544)).setCell ⟨gb556,1,none⟩ (.int .i64 t545)).setCell ⟨gb556,2,none⟩ (.bool t546)).setCell ⟨gb556,3,none⟩ (.int .i64 t547)).setCell ⟨gb556,4,none⟩ (.int .i64 t548)).setCell ⟨gb556,5,none⟩ (.int .i64 t549)).setCell ⟨gb556,6,none⟩ (.int .i64 t550)).setCell ⟨gb556,7,none⟩ (.int .i64 t551)).setCell ⟨gb556,8,none⟩ (.int .i64 t552)).setCell ⟨gb556,9,none⟩ (.string t553)) w.heap.size (fun _=>True) v542 t541):=⟨by(with_reducible repeat (first|apply Kd.R_alloc|apply Kd.R_drewN|apply Kd.R_drew));exact Kd.R_mono (Kd.R_far (p:=⟨gb556,9,none⟩) (Kd.R_far (p:=⟨gb556,8,none⟩) (Kd.R_far (p:=⟨gb556,7,none⟩) (Kd.R_far (p:=⟨gb556,6,none⟩) (Kd.R_far (p:=⟨gb556,5,none⟩) (Kd.R_far (p:=⟨gb556,4,none⟩) (Kd.R_far (p:=⟨gb556,3,none⟩) (Kd.R_far (p:=⟨gb556,2,none⟩) (Kd.R_far (p:=⟨gb556,1,none⟩) (Kd.R_far (p:=⟨gb556,0,none⟩) (Kd.R_types HO543.out BK556.out (b20_)) (fun _ hk=>hk.2) (.int .i64 t544)) (fun _ hk=>hk.2) (.int .i64 t545)) (fun _ hk=>hk.2) (.bool t546)) (fun _ hk=>hk.2) (.int .i64 t547)) (fun _ hk=>hk.2) (.int .i64 t548)) (fun _ hk=>hk.2) (.int .i64 t549)) (fun _ hk=>hk.2) (.int .i64 t550)) (fun _ hk=>hk.2) (.int .i64 t551)) (fun _ hk=>hk.2) (.int .i64 t552)) (fun _ hk=>hk.2) (.string t553)) (fun _ hk=>trivial)⟩
 have n1_:Aside0 (((((((((((w9.setCell ⟨gb556,0,none⟩ (.int .i64 t544)).setCell ⟨gb556,1,none⟩ (.int .i64 t545)).setCell ⟨gb556,2,none⟩ (.bool t546)).setCell ⟨gb556,3,none⟩ (.int .i64 t547)).setCell ⟨gb556,4,none⟩ (.int .i64 t548)).setCell ⟨gb556,5,none⟩ (.int .i64 t549)).setCell ⟨gb556,6,none⟩ (.int .i64 t550)).setCell ⟨gb556,7,none⟩ (.int .i64 t551)).setCell ⟨gb556,8,none⟩ (.int .i64 t552)).setCell ⟨gb556,9,none⟩ (.string t553)).heap[gb539]?=some (.cells #[.int .i64 0,.int .i64 0,.bool false,.int .i64 0,.int .i64 0,.int .i64 0,.int .i64 0,.int .i64 0,.int .i64 0,.string (⟨#[]⟩:ByteArray)] 86 (0,0))):=⟨by(with_reducible repeat (first|refine blk_drewN ?_ _|refine blk_drew ?_|refine blk_alloc ?_ _));refine blk_far ?_ NB539_556.out _;(with_reducible repeat (first|refine blk_drewN ?_ _|refine blk_drew ?_|refine blk_alloc ?_ _));refine blk_far ?_ NB539_556.out _;(with_reducible repeat (first|refine blk_drewN ?_ _|refine blk_drew ?_|refine blk_alloc ?_ _));refine blk_far ?_ NB539_556.out _;(with_reducible repeat (first|refine blk_drewN ?_ _|refine blk_drew ?_|refine blk_alloc ?_ _));refine blk_far ?_ NB539_556.out _;(with_reducible repeat (first|refine blk_drewN ?_ _|refine blk_drew ?_|refine blk_alloc ?_ _));refine blk_far ?_ NB539_556.out _;(with_reducible repeat (first|refine blk_drewN ?_ _|refine blk_drew ?_|refine blk_alloc ?_ _));refine blk_far ?_ NB539_556.out _;(with_reducible repeat (first|refine blk_drewN ?_ _|refine blk_drew ?_|refine blk_alloc ?_ _));refine blk_far ?_ NB539_556.out _;(with_reducible repeat (first|refine blk_drewN ?_ _|refine blk_drew ?_|refine blk_alloc ?_ _));refine blk_far ?_ NB539_556.out _;(with_reducible repeat (first|refine blk_drewN ?_ _|refine blk_drew ?_|refine blk_alloc ?_ _));refine blk_far ?_ NB539_556.out _;(with_reducible repeat (first|refine blk_drewN ?_ _|refine blk_drew ?_|refine blk_alloc ?_ _));refine blk_far ?_ NB539_556.out _;(with_reducible repeat (first|refine blk_drewN ?_ _|refine blk_drew ?_|refine blk_alloc ?_ _));exact BK539.out⟩
 have n2_:Aside0 (((((((((((w9.setCell ⟨gb556,0,none⟩ (.int .i64 t544)).setCell ⟨gb556,1,none⟩ (.int .i64 t545)).setCell ⟨gb556,2,none⟩ (.bool t546)).setCell ⟨gb556,3,none⟩ (.int .i64 t547)).setCell ⟨gb556,4,none⟩ (.int .i64 t548)).setCell ⟨gb556,5,none⟩ (.int .i64 t549)).setCell ⟨gb556,6,none⟩ (.int .i64 t550)).setCell ⟨gb556,7,none⟩ (.int .i64 t551)).setCell ⟨gb556,8,none⟩ (.int .i64 t552)).setCell ⟨gb556,9,none⟩ (.string t553)).heap[gb556]?=some (.cells #[.int .i64 t544,.int .i64 t545,.bool t546,.int .i64 t547,.int .i64 t548,.int .i64 t549,.int .i64 t550,.int .i64 t551,.int .i64 t552,.string t553] 86 (0,0))):=⟨by(with_reducible repeat (first|refine blk_drewN ?_ _|refine blk_drew ?_|refine blk_alloc ?_ _));apply bU10;(with_reducible repeat (first|refine blk_drewN ?_ _|refine blk_drew ?_|refine blk_alloc ?_ _));exact BK556.out⟩
 have n3_:Aside0 (IsS138 w ((((((((((w9.setCell ⟨gb556,0,none⟩ (.int .i64 t544)).setCell ⟨gb556,1,none⟩ (.int .i64 t545)).setCell ⟨gb556,2,none⟩ (.bool t546)).setCell ⟨gb556,3,none⟩ (.int .i64 t547)).setCell ⟨gb556,4,none⟩ (.int .i64 t548)).setCell ⟨gb556,5,none⟩ (.int .i64 t549)).setCell ⟨gb556,6,none⟩ (.int .i64 t550)).setCell ⟨gb556,7,none⟩ (.int .i64 t551)).setCell ⟨gb556,8,none⟩ (.int .i64 t552)).setCell ⟨gb556,9,none⟩ (.string t553)) gb540 l0 t554 t555):=⟨by repeat (first|(with_reducible first|exact HI540.out|apply IsS138.alloc|apply IsS138.drewN|apply IsS138.drew|apply IsS138.set_1|apply IsS138.set_2|apply IsS138.far (hne:=NB540_539.out)|apply IsS138.far (hne:=NB540_556.out))|exact HI540.out)⟩
 have n4_:Aside0 (Below w.heap.size w ((((((((((w9.setCell ⟨gb556,0,none⟩ (.int .i64 t544)).setCell ⟨gb556,1,none⟩ (.int .i64 t545)).setCell ⟨gb556,2,none⟩ (.bool t546)).setCell ⟨gb556,3,none⟩ (.int .i64 t547)).setCell ⟨gb556,4,none⟩ (.int .i64 t548)).setCell ⟨gb556,5,none⟩ (.int .i64 t549)).setCell ⟨gb556,6,none⟩ (.int .i64 t550)).setCell ⟨gb556,7,none⟩ (.int .i64 t551)).setCell ⟨gb556,8,none⟩ (.int .i64 t552)).setCell ⟨gb556,9,none⟩ (.string t553))):=⟨by repeat (first|(with_reducible first|exact HB.out|apply below_alloc|apply pw_below_drewN|apply below_drew1|refine below_set ?_ (IsS138.ge HI540.out)|refine below_set ?_ GE539.out|refine below_set ?_ GE556.out)|exact HB.out)⟩
 (try clear HO543)
 (try clear BK539)
 (try clear BK556)
 (try clear HI540)
 (try clear HB)
 generalize ((((((((((w9.setCell ⟨gb556,0,none⟩ (.int .i64 t544)).setCell ⟨gb556,1,none⟩ (.int .i64 t545)).setCell ⟨gb556,2,none⟩ (.bool t546)).setCell ⟨gb556,3,none⟩ (.int .i64 t547)).setCell ⟨gb556,4,none⟩ (.int .i64 t548)).setCell ⟨gb556,5,none⟩ (.int .i64 t549)).setCell ⟨gb556,6,none⟩ (.int .i64 t550)).setCell ⟨gb556,7,none⟩ (.int .i64 t551)).setCell ⟨gb556,8,none⟩ (.int .i64 t552)).setCell ⟨gb556,9,none⟩ (.string t553))=w13 at n0_ n1_ n2_ n3_ n4_ ⊢
 have HO543:=n0_
 have BK539:=n1_
 have BK556:=n2_
 have HI540:=n3_
 have HB:=n4_
 clear n0_ n1_ n2_ n3_ n4_
 (try (rw[drewN_self w13];generalize hq_:World.drewN w13 _=w13;have n0_:=am (Kd.R_at hq_ HO543.out);have n1_:=am (blk_at hq_ BK539.out);have n2_:=am (blk_at hq_ BK556.out);have n3_:=am (IsS138.at_ hq_ HI540.out);have n4_:=am (below_at hq_ HB.out);clear hq_ HO543 BK539 BK556 HI540 HB;have HO543:=n0_;have BK539:=n1_;have BK556:=n2_;have HI540:=n3_;have HB:=n4_;clear n0_ n1_ n2_ n3_ n4_))
 have n0_:=am (Kd.R_drew HO543.out)
 have n1_:=am (blk_drew BK539.out)
 have n2_:=am (blk_drew BK556.out)
 have n3_:=am (IsS138.drew HI540.out)
 have n4_:=am (below_drew1 HB.out)
 clear HO543 BK539 BK556 HI540 HB
 have HO543:=n0_
 have BK539:=n1_
 have BK556:=n2_
 have HI540:=n3_
 have HB:=n4_
 clear n0_ n1_ n2_ n3_ n4_
 refine start_ (n:=13) (S:=fun w'=>w'.cell? ⟨gb556,0,none⟩=some (.int .i64 t544)∧w'.cell? ⟨gb556,1,none⟩=some (.int .i64 t545)∧w'.cell? ⟨gb556,2,none⟩=some (.bool t546)∧w'.cell? ⟨gb556,3,none⟩=some (.int .i64 t547)∧w'.cell? ⟨gb556,4,none⟩=some (.int .i64 t548)∧w'.cell? ⟨gb556,5,none⟩=some (.int .i64 t549)∧w'.cell? ⟨gb556,6,none⟩=some (.int .i64 t550)∧w'.cell? ⟨gb556,7,none⟩=some (.int .i64 t551)∧w'.cell? ⟨gb556,8,none⟩=some (.int .i64 t552)∧w'.cell? ⟨gb556,9,none⟩=some (.string t553)) (ds:=[]) #[false,false,false,false,false,false,false,false,false,false,false,false,false] (b6_) rfl rfl (cC10 BK556.out) (fun hHeld => ?_);refine with_tabW spec_DrawForwardStep.tab3 spec_DrawForwardStep.bits3 (fun HT_ HW_ => ?_)
 generalize w13.drew=w14 at HO543 BK539 BK556 HI540 HB hHeld ⊢
 refine pure_ (i:=0) (N:=some 18) (v:=?_) (a':=?_) #[true,false,false,false,false,false,false,false,false,false,false,false,false] rfl rfl (any_of HT_.out (b6_)) (fun _ _ _ h=>h) (Or.inl ⟨by rfl,?_⟩) ?_ ?_
 rotate_left
 ·intro w'
  go_simp
  with_reducible rfl
 rotate_left
 ·simp only[Act.put,zA,zB,zC,i64_w,i32_w]
  rfl
 refine pure_ (i:=2) (N:=some 20) (v:=?_) (a':=?_) #[true,false,true,false,false,false,false,false,false,false,false,false,false] rfl rfl (any_of HT_.out (b6_)) (fun _ _ _ h=>h) (Or.inl ⟨by rfl,?_⟩) ?_ ?_
 rotate_left
 ·intro w'
  go_simp
  with_reducible rfl
 rotate_left
 ·simp only[Act.put,zA,zB,zC,i64_w,i32_w]
  rfl
 refine pure_ (i:=4) (N:=some 22) (v:=?_) (a':=?_) #[true,false,true,false,true,false,false,false,false,false,false,false,false] rfl rfl (any_of HT_.out (b6_)) (fun _ _ _ h=>h) (Or.inl ⟨by rfl,?_⟩) ?_ ?_
 rotate_left
 ·intro w'
  go_simp
  with_reducible rfl
 rotate_left
 ·simp only[Act.put,zA,zB,zC,i64_w,i32_w]
  rfl
 refine pure_ (i:=6) (N:=some 24) (v:=?_) (a':=?_) #[true,false,true,false,true,false,true,false,false,false,false,false,false] rfl rfl (any_of HT_.out (b6_)) (fun _ _ _ h=>h) (Or.inl ⟨by rfl,?_⟩) ?_ ?_
 rotate_left
 ·intro w'
  go_simp
  with_reducible rfl
 rotate_left
 ·simp only[Act.put,zA,zB,zC,i64_w,i32_w]
  rfl
 refine take_ (i:=1) (N:=some 19) (v:=?_) (a':=?_) #[true,true,true,false,true,false,true,false,false,false,false,false,false] rfl rfl (take_ofW HT_.out HW_.out (b6_)) (fun _ _ _ h=>h) (Or.inl ⟨by rfl,?_⟩) hHeld ?_ ?_
 rotate_left
 ·rintro w' ⟨s0,s1,s2,s3,s4,s5,s6,s7,s8,s9⟩
  go_simp
  with_reducible rfl
 rotate_left
 ·simp only[Act.put,zA,zB,zC,i64_w,i32_w]
  rfl
 refine one_ (i:=3) (N:=some 21) #[true,true,true,true,true,false,true,false,false,false,false,false,false] rfl rfl (one_of HT_.out (b6_)) (b20_) (fun K hK => ?_)
 refine goes_ Try.func116 (b6_) rfl #[.pointer (some ⟨gb540,0,none⟩),.int .i64 6] (by rfl) rfl rfl (b7_) ?_
 with_reducible refine(spec_l1Cur_pick.calls gb540 l0 t554 t555 6 t557 t558 t559 w _ ?side1 ?side2 A3.out).mono ?_
 (case side1=>exact b39_)
 (case side2=>exact b40_)
 rintro e w15 ⟨rfl,hi,hb,hk⟩
 refine⟨_,rfl,?_⟩
 have n0_:=am (KeepBut.blk hk (g':=gb539) (o:=.cells #[.int .i64 0,.int .i64 0,.bool false,.int .i64 0,.int .i64 0,.int .i64 0,.int .i64 0,.int .i64 0,.int .i64 0,.string (⟨#[]⟩:ByteArray)] 86 (0,0)) (bL BK539.out) NB539_540.out (b27_))
 have n1_:=am (Kd.R_mono (Kd.R_keep (IsS138.apart (show IsS138 w _ gb540 l0 t554 t555 from by repeat (first|(with_reducible first|exact HI540.out|apply IsS138.alloc|apply IsS138.drewN|apply IsS138.drew|apply IsS138.set_1|apply IsS138.set_2|apply IsS138.far (hne:=NB540_539.out)|apply IsS138.far (hne:=NB540_556.out))|exact HI540.out)) (bK HO543.out) (b20_)) hk (fun _ h=>h.2)) (fun _ h=>h.1))
 have n2_:=am (KeepBut.blk hk (g':=gb556) (o:=.cells #[.int .i64 t544,.int .i64 t545,.bool t546,.int .i64 t547,.int .i64 t548,.int .i64 t549,.int .i64 t550,.int .i64 t551,.int .i64 t552,.string t553] 86 (0,0)) (bL BK556.out) NB556_540.out (b27_))
 have n3_:=am (hb)
 have n4_:=am (hi)
 clear BK539 HO543 BK556 HB HI540
 have BK539:=n0_
 have HO543:=n1_
 have BK556:=n2_
 have HB:=n3_
 have HI540:=n4_
 clear n0_ n1_ n2_ n3_ n4_
 (try clear hb)
 (try clear hb2)
 (try clear hk)
 (try clear hi)
 refine hK.out _ _ (cC10 BK556.out) (fun hHeld => ?_)
 clear hK K
 refine norm_ (a':=?_) ?_ ?_
 rotate_left
 ·show Act.put _ (some 21) _=_
  simp only[Act.put,zA,zB,zC,i64_w,i32_w]
  rfl
 refine one_ (i:=5) (N:=some 23) #[true,true,true,true,true,true,true,false,false,false,false,false,false] rfl rfl (one_of HT_.out (b6_)) (b20_) (fun K hK => ?_)
 refine goes_ Try.func129 (b6_) rfl #[.pointer (some ⟨gb540,0,none⟩)] (by rfl) rfl rfl (b7_) ?_
 with_reducible refine(spec_l1Cur_whenTo.calls gb540 l0 t558 t559 t560 t561 t562 w _ ?side1 ?side2 A4.out).mono ?_
 (case side1=>exact b39_)
 (case side2=>exact b40_)
 rintro e w16 ⟨rfl,hi,hb,hk⟩
 refine⟨_,rfl,?_⟩
 have n0_:=am (KeepBut.blk hk (g':=gb539) (o:=.cells #[.int .i64 0,.int .i64 0,.bool false,.int .i64 0,.int .i64 0,.int .i64 0,.int .i64 0,.int .i64 0,.int .i64 0,.string (⟨#[]⟩:ByteArray)] 86 (0,0)) (bL BK539.out) NB539_540.out (b27_))
 have n1_:=am (Kd.R_mono (Kd.R_keep (IsS138.apart (show IsS138 w _ gb540 l0 t558 t559 from by repeat (first|(with_reducible first|exact HI540.out|apply IsS138.alloc|apply IsS138.drewN|apply IsS138.drew|apply IsS138.set_1|apply IsS138.set_2|apply IsS138.far (hne:=NB540_539.out)|apply IsS138.far (hne:=NB540_556.out))|exact HI540.out)) (bK HO543.out) (b20_)) hk (fun _ h=>h.2)) (fun _ h=>h.1))
 have n2_:=am (KeepBut.blk hk (g':=gb556) (o:=.cells #[.int .i64 t544,.int .i64 t545,.bool t546,.int .i64 t547,.int .i64 t548,.int .i64 t549,.int .i64 t550,.int .i64 t551,.int .i64 t552,.string t553] 86 (0,0)) (bL BK556.out) NB556_540.out (b27_))
 have n3_:=am (hb)
 have n4_:=am (hi)
 clear BK539 HO543 BK556 HB HI540
 have BK539:=n0_
 have HO543:=n1_
 have BK556:=n2_
 have HB:=n3_
 have HI540:=n4_
 clear n0_ n1_ n2_ n3_ n4_
 (try clear hb)
 (try clear hb2)
 (try clear hk)
 (try clear hi)
 refine hK.out _ _ (cC10 BK556.out) (fun hHeld => ?_)
 clear hK K
 refine norm_ (a':=?_) ?_ ?_
 rotate_left
 ·show Act.put _ (some 23) _=_
  simp only[Act.put,zA,zB,zC,i64_w,i32_w]
  rfl
 refine one_ (i:=7) (N:=some 25) #[true,true,true,true,true,true,true,true,false,false,false,false,false] rfl rfl (one_of HT_.out (b6_)) (b20_) (fun K hK => ?_)
 refine goes_ Try.func116 (b6_) rfl #[.pointer (some ⟨gb540,0,none⟩),.int .i64 6] (by rfl) rfl rfl (b7_) ?_
 with_reducible refine(spec_l1Cur_pick.calls gb540 l0 t561 t562 6 t563 t564 t565 w _ ?side1 ?side2 A5.out).mono ?_
 (case side1=>exact b39_)
 (case side2=>exact b40_)
 rintro e w17 ⟨rfl,hi,hb,hk⟩
 refine⟨_,rfl,?_⟩
 have n0_:=am (KeepBut.blk hk (g':=gb539) (o:=.cells #[.int .i64 0,.int .i64 0,.bool false,.int .i64 0,.int .i64 0,.int .i64 0,.int .i64 0,.int .i64 0,.int .i64 0,.string (⟨#[]⟩:ByteArray)] 86 (0,0)) (bL BK539.out) NB539_540.out (b27_))
 have n1_:=am (Kd.R_mono (Kd.R_keep (IsS138.apart (show IsS138 w _ gb540 l0 t561 t562 from by repeat (first|(with_reducible first|exact HI540.out|apply IsS138.alloc|apply IsS138.drewN|apply IsS138.drew|apply IsS138.set_1|apply IsS138.set_2|apply IsS138.far (hne:=NB540_539.out)|apply IsS138.far (hne:=NB540_556.out))|exact HI540.out)) (bK HO543.out) (b20_)) hk (fun _ h=>h.2)) (fun _ h=>h.1))
 have n2_:=am (KeepBut.blk hk (g':=gb556) (o:=.cells #[.int .i64 t544,.int .i64 t545,.bool t546,.int .i64 t547,.int .i64 t548,.int .i64 t549,.int .i64 t550,.int .i64 t551,.int .i64 t552,.string t553] 86 (0,0)) (bL BK556.out) NB556_540.out (b27_))
 have n3_:=am (hb)
 have n4_:=am (hi)
 clear BK539 HO543 BK556 HB HI540
 have BK539:=n0_
 have HO543:=n1_
 have BK556:=n2_
 have HB:=n3_
 have HI540:=n4_
 clear n0_ n1_ n2_ n3_ n4_
 (try clear hb)
 (try clear hb2)
 (try clear hk)
 (try clear hi)
 refine hK.out _ _ (cC10 BK556.out) (fun hHeld => ?_)
 clear hK K
 refine norm_ (a':=?_) ?_ ?_
 rotate_left
 ·show Act.put _ (some 25) _=_
  simp only[Act.put,zA,zB,zC,i64_w,i32_w]
  rfl
 refine pure_ (i:=8) (N:=some 2) (v:=?_) (a':=?_) #[true,true,true,true,true,true,true,true,true,false,false,false,false] rfl rfl (any_of HT_.out (b6_)) (fun _ _ _ h=>h) (Or.inl ⟨by rfl,?_⟩) ?_ ?_
 rotate_left
 ·intro w'
  go_simp
  with_reducible rfl
 rotate_left
 ·simp only[Act.put,zA,zB,zC,i64_w,i32_w]
  rfl
 refine one_ (i:=9) (N:=none) #[true,true,true,true,true,true,true,true,true,true,false,false,false] rfl rfl (one_of HT_.out (b6_)) (b20_) (fun K hK => ?_)
 have hs18:w17.cell? ⟨gb539,0,none⟩=some (.int .i64 0):=(blk_cell BK539.out 0).trans rfl
 have hfs18:=blk_frozen BK539.out 0
 have hns18_1:=NB556_539.out
 have hms18_1:=NB539_556.out
 have hs19:w17.cell? ⟨gb539,1,none⟩=some (.int .i64 0):=(blk_cell BK539.out 1).trans rfl
 have hfs19:=blk_frozen BK539.out 1
 have hns19_1:=NB556_539.out
 have hms19_1:=NB539_556.out
 have hs20:w17.cell? ⟨gb539,2,none⟩=some (.bool false):=(blk_cell BK539.out 2).trans rfl
 have hfs20:=blk_frozen BK539.out 2
 have hns20_1:=NB556_539.out
 have hms20_1:=NB539_556.out
 have hs21:w17.cell? ⟨gb539,3,none⟩=some (.int .i64 0):=(blk_cell BK539.out 3).trans rfl
 have hfs21:=blk_frozen BK539.out 3
 have hns21_1:=NB556_539.out
 have hms21_1:=NB539_556.out
 have hs22:w17.cell? ⟨gb539,4,none⟩=some (.int .i64 0):=(blk_cell BK539.out 4).trans rfl
 have hfs22:=blk_frozen BK539.out 4
 have hns22_1:=NB556_539.out
 have hms22_1:=NB539_556.out
 have hs23:w17.cell? ⟨gb539,5,none⟩=some (.int .i64 0):=(blk_cell BK539.out 5).trans rfl
 have hfs23:=blk_frozen BK539.out 5
 have hns23_1:=NB556_539.out
 have hms23_1:=NB539_556.out
 have hs24:w17.cell? ⟨gb539,6,none⟩=some (.int .i64 0):=(blk_cell BK539.out 6).trans rfl
 have hfs24:=blk_frozen BK539.out 6
 have hns24_1:=NB556_539.out
 have hms24_1:=NB539_556.out
 have hs25:w17.cell? ⟨gb539,7,none⟩=some (.int .i64 0):=(blk_cell BK539.out 7).trans rfl
 have hfs25:=blk_frozen BK539.out 7
 have hns25_1:=NB556_539.out
 have hms25_1:=NB539_556.out
 have hs26:w17.cell? ⟨gb539,8,none⟩=some (.int .i64 0):=(blk_cell BK539.out 8).trans rfl
 have hfs26:=blk_frozen BK539.out 8
 have hns26_1:=NB556_539.out
 have hms26_1:=NB539_556.out
 have hs27:w17.cell? ⟨gb539,9,none⟩=some (.string (⟨#[]⟩:ByteArray)):=(blk_cell BK539.out 9).trans rfl
 have hfs27:=blk_frozen BK539.out 9
 have hns27_1:=NB556_539.out
 have hms27_1:=NB539_556.out
 refine skip_ (w1:=?_) (by rfl) rfl ?_ ?_
 rotate_left
 ·go_simp
  rfl
 refine hK.out _ _ ⟨(cf_ NB556_539.out ((cf_ NB556_539.out ((cf_ NB556_539.out ((cf_ NB556_539.out ((cf_ NB556_539.out ((cf_ NB556_539.out ((cf_ NB556_539.out ((cf_ NB556_539.out ((cf_ NB556_539.out ((cf_ NB556_539.out (hHeld.1)))))))))))))))))))),(cf_ NB556_539.out ((cf_ NB556_539.out ((cf_ NB556_539.out ((cf_ NB556_539.out ((cf_ NB556_539.out ((cf_ NB556_539.out ((cf_ NB556_539.out ((cf_ NB556_539.out ((cf_ NB556_539.out ((cf_ NB556_539.out (hHeld.2.1)))))))))))))))))))),(cf_ NB556_539.out ((cf_ NB556_539.out ((cf_ NB556_539.out ((cf_ NB556_539.out ((cf_ NB556_539.out ((cf_ NB556_539.out ((cf_ NB556_539.out ((cf_ NB556_539.out ((cf_ NB556_539.out ((cf_ NB556_539.out (hHeld.2.2.1)))))))))))))))))))),(cf_ NB556_539.out ((cf_ NB556_539.out ((cf_ NB556_539.out ((cf_ NB556_539.out ((cf_ NB556_539.out ((cf_ NB556_539.out ((cf_ NB556_539.out ((cf_ NB556_539.out ((cf_ NB556_539.out ((cf_ NB556_539.out (hHeld.2.2.2.1)))))))))))))))))))),(cf_ NB556_539.out ((cf_ NB556_539.out ((cf_ NB556_539.out ((cf_ NB556_539.out ((cf_ NB556_539.out ((cf_ NB556_539.out ((cf_ NB556_539.out ((cf_ NB556_539.out ((cf_ NB556_539.out ((cf_ NB556_539.out (hHeld.2.2.2.2.1)))))))))))))))))))),(cf_ NB556_539.out ((cf_ NB556_539.out ((cf_ NB556_539.out ((cf_ NB556_539.out ((cf_ NB556_539.out ((cf_ NB556_539.out ((cf_ NB556_539.out ((cf_ NB556_539.out ((cf_ NB556_539.out ((cf_ NB556_539.out (hHeld.2.2.2.2.2.1)))))))))))))))))))),(cf_ NB556_539.out ((cf_ NB556_539.out ((cf_ NB556_539.out ((cf_ NB556_539.out ((cf_ NB556_539.out ((cf_ NB556_539.out ((cf_ NB556_539.out ((cf_ NB556_539.out ((cf_ NB556_539.out ((cf_ NB556_539.out (hHeld.2.2.2.2.2.2.1)))))))))))))))))))),(cf_ NB556_539.out ((cf_ NB556_539.out ((cf_ NB556_539.out ((cf_ NB556_539.out ((cf_ NB556_539.out ((cf_ NB556_539.out ((cf_ NB556_539.out ((cf_ NB556_539.out ((cf_ NB556_539.out ((cf_ NB556_539.out (hHeld.2.2.2.2.2.2.2.1)))))))))))))))))))),(cf_ NB556_539.out ((cf_ NB556_539.out ((cf_ NB556_539.out ((cf_ NB556_539.out ((cf_ NB556_539.out ((cf_ NB556_539.out ((cf_ NB556_539.out ((cf_ NB556_539.out ((cf_ NB556_539.out ((cf_ NB556_539.out (hHeld.2.2.2.2.2.2.2.2.1)))))))))))))))))))),(cf_ NB556_539.out ((cf_ NB556_539.out ((cf_ NB556_539.out ((cf_ NB556_539.out ((cf_ NB556_539.out ((cf_ NB556_539.out ((cf_ NB556_539.out ((cf_ NB556_539.out ((cf_ NB556_539.out ((cf_ NB556_539.out (hHeld.2.2.2.2.2.2.2.2.2))))))))))))))))))))⟩ (fun hHeld => ?_)
 clear hK K
 refine pure_ (i:=10) (N:=some 4) (v:=?_) (a':=?_) #[true,true,true,true,true,true,true,true,true,true,true,false,false] rfl rfl (any_of HT_.out (b6_)) (fun _ _ _ h=>h) (Or.inl ⟨by rfl,?_⟩) ?_ ?_
 rotate_left
 ·intro w'
  go_simp
  with_reducible rfl
 rotate_left
 ·simp only[Act.put,zA,zB,zC,i64_w,i32_w]
  rfl
 refine pure_ (i:=11) (N:=some 5) (v:=?_) (a':=?_) #[true,true,true,true,true,true,true,true,true,true,true,true,false] rfl rfl (any_of HT_.out (b6_)) (fun _ _ _ h=>h) (Or.inl ⟨by rfl,?_⟩) ?_ ?_
 rotate_left
 ·intro w'
  go_simp
  with_reducible rfl
 rotate_left
 ·simp only[Act.put,zA,zB,zC,i64_w,i32_w]
  rfl
 refine pure_ (i:=12) (N:=some 6) (v:=?_) (a':=?_) #[true,true,true,true,true,true,true,true,true,true,true,true,true] rfl rfl (any_of HT_.out (b6_)) (fun _ _ _ h=>h) (Or.inl ⟨by rfl,?_⟩) ?_ ?_
 rotate_left
 ·intro w'
  go_simp
  with_reducible rfl
 rotate_left
 ·simp only[Act.put,zA,zB,zC,i64_w,i32_w]
  rfl
 refine done_ (done_of HT_.out (b6_)) ?_
 try go_wp2
 refine bodyPost_ret (results_list (rs:=[.tmp 2,.cell 3 86,.tmp 4,.tmp 5,.tmp 6]) rfl (b27_) (.tmp (.cell gb539 86 #[.int .i64 t544,.int .i64 t545,.bool t546,.int .i64 t547,.int .i64 t548,.int .i64 t549,.int .i64 t550,.int .i64 t551,.int .i64 t552,.string t553] (0,0) _ rfl (by(with_reducible repeat (first|refine blk_drewN ?_ _|refine blk_drew ?_|refine blk_alloc ?_ _));apply bU10;(with_reducible repeat (first|refine blk_drewN ?_ _|refine blk_drew ?_|refine blk_alloc ?_ _));exact BK539.out) Try.underlying86 rfl (b6_) (.tmp (.tmp (.tmp .nil)))))) rfl ?_
 exact⟨_,by first|rfl|(simp[errW_none,errW_some]<;>rfl)|(simp[*,errW_none,errW_some]<;>rfl),by(with_reducible repeat (first|apply Kd.R_alloc|apply Kd.R_drewN|apply Kd.R_drew));exact Kd.R_mono (Kd.R_far (p:=⟨gb539,9,none⟩) (Kd.R_far (p:=⟨gb539,8,none⟩) (Kd.R_far (p:=⟨gb539,7,none⟩) (Kd.R_far (p:=⟨gb539,6,none⟩) (Kd.R_far (p:=⟨gb539,5,none⟩) (Kd.R_far (p:=⟨gb539,4,none⟩) (Kd.R_far (p:=⟨gb539,3,none⟩) (Kd.R_far (p:=⟨gb539,2,none⟩) (Kd.R_far (p:=⟨gb539,1,none⟩) (Kd.R_far (p:=⟨gb539,0,none⟩) (Kd.R_types HO543.out BK539.out (b20_)) (fun _ hk=>hk.2) (.int .i64 t544)) (fun _ hk=>hk.2) (.int .i64 t545)) (fun _ hk=>hk.2) (.bool t546)) (fun _ hk=>hk.2) (.int .i64 t547)) (fun _ hk=>hk.2) (.int .i64 t548)) (fun _ hk=>hk.2) (.int .i64 t549)) (fun _ hk=>hk.2) (.int .i64 t550)) (fun _ hk=>hk.2) (.int .i64 t551)) (fun _ hk=>hk.2) (.int .i64 t552)) (fun _ hk=>hk.2) (.string t553)) (fun _ hk=>trivial),by repeat (first|(with_reducible first|exact HB.out|apply below_alloc|apply pw_below_drewN|apply below_drew1|refine below_set ?_ (IsS138.ge HI540.out)|refine below_set ?_ GE539.out|refine below_set ?_ GE556.out)|exact HB.out)⟩

end Go.Proofs.Yteneeohaoplpbaa.XFnFollow
