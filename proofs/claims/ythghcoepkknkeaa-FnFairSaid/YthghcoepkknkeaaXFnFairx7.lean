-- Written by this session's own program (wip/xprint.py) out of the translation; Lean checks it.
import Derived.Test.YthghcoepkknkeaaXFnFairx0
import Derived.Test.YthghcoepkknkeaaXFnFairx5
import Derived.Test.YthghcoepkknkeaaXFnFairx6
namespace Go.Proofs.Ythghcoepkknkeaa.XFnFair
open Go.RowKit Go.Proofs.YthghcoepkknkeaaW.PrintWords Go.Proofs.YthghcoepkknkeaaW.PrintLast Go.Proofs.YthghcoepkknkeaaW.PrintMore
open Go.Proofs.YthghcoepkknkeaaW.PrintWords.Aside0 renaming mk → am
open List renaming setIfInBounds_toArray → zA, set_cons_zero → zB, set_cons_succ → zC
attribute [local go_sem] max2_int min2_int max_two min_two max_three min_three max_four min_four   -- for this text's walks alone
set_option linter.unusedVariables false
set_option linter.unusedSimpArgs false

/-! ### spec_l1Cur_turns: function 28 -/
mutual
def spec_l1Cur_turns.j0:Nat→List Int→Int→Int→Int→List (S34)→Int→Option (Int × (List (S34)) × Int × Int × Int)
 | 0,_,_,_,_,_,_=>none
 | k+1,x1000,x1001,x1002,x228000,x228001,x228002=>(spec_l1Cur_pick.f x1000 x1001 x1002 20).bind fun bt234=>(spec_l1Cur_turns.l0 k bt234.1 x1000 bt234.2.1 bt234.2.2 x228000 x228001 x228002)
def spec_l1Cur_turns.l0:Nat→Int→List Int→Int→Int→Int→List (S34)→Int→Option (Int × (List (S34)) × Int × Int × Int)
 | 0,_,_,_,_,_,_,_=>none
 | k+1,x5,x1000,x1001,x1002,x228000,x228001,x228002=>if x5 > 0 then ((spec_l1Cur_one.f x1000 x1001 x1002 5).bind fun bt237=>(if bt237.1=true then ((spec_NextRound.f k x228000 x228001 x228002).bind fun bt240=>(if bt240.2.2.2.2=true then (spec_l1Cur_turns.l0 k (wrap64 (x5 - 1)) x1000 bt237.2.1 bt237.2.2 bt240.1 bt240.2.1 bt240.2.2.1) else (spec_l1Cur_turns.l0 k (wrap64 (x5 - 1)) x1000 bt237.2.1 bt237.2.2 x228000 x228001 x228002))) else ((spec_l1Cur_pick.f x1000 bt237.2.1 bt237.2.2 (x228001.length:Int)).bind fun bt250=>((spec_l1Cur_pick.f x1000 bt250.2.1 bt250.2.2 30).bind fun bt253=>((spec_PutLong.f k x228000 x228001 x228002 bt250.1 (wrap64 (1+bt253.1))).bind fun bt256=>(if bt256.2.2.2=true then (spec_l1Cur_turns.l0 k (wrap64 (x5 - 1)) x1000 bt253.2.1 bt253.2.2 bt256.1 bt256.2.1 bt256.2.2.1) else (spec_l1Cur_turns.l0 k (wrap64 (x5 - 1)) x1000 bt253.2.1 bt253.2.2 x228000 x228001 x228002))))))) else ((spec_l1Cur_pick.f x1000 x1001 x1002 40).bind fun bt263=>(if bt263.1=0 then ((spec_l1Cur_among.f x1000 bt263.2.1 bt263.2.2 (([(-1),100,101]:List Int))).bind fun bt269=>(if 0 < (x228001.length:Int) then (some (x228000,(x228001.set (0:Int).toNat (⟨(rd_T34 x228001 0).f0,bt269.1,(rd_T34 x228001 0).f2⟩:S34)),x228002,bt269.2.1,bt269.2.2)) else (none))) else (if bt263.1=1 then ((spec_l1Cur_among.f x1000 bt263.2.1 bt263.2.2 (([(-1),1000000,1000001]:List Int))).bind fun bt276=>(some (x228000,x228001,bt276.1,bt276.2.1,bt276.2.2))) else (some (x228000,x228001,x228002,bt263.2.1,bt263.2.2)))))
end
def spec_l1Cur_turns.f (k:Nat) (s0_0:List Int) (s0_1:Int) (s0_2:Int):Option (Int × (List (S34)) × Int × Int × Int):=(spec_l1Cur_pick.f s0_0 s0_1 s0_2 20).bind fun bt215=>((spec_l1Cur_pick.f s0_0 bt215.2.1 bt215.2.2 4).bind fun bt218=>((spec_NewTurns.f (wrap64 (1+bt215.1)) (wrap64 (1+bt218.1))).bind fun bt221=>(if bt221.2.2.2=true then (spec_l1Cur_turns.j0 k s0_0 bt218.2.1 bt218.2.2 bt221.1 bt221.2.1 bt221.2.2.1) else ((spec_NewTurns.f 5 2).bind fun bt228=>(spec_l1Cur_turns.j0 k s0_0 bt218.2.1 bt218.2.2 bt228.1 bt228.2.1 bt228.2.2.1)))))
theorem spec_l1Cur_turns.mono_l : ∀ k,(∀ y0 y1 y2 y3 y4 y5,LeO (spec_l1Cur_turns.j0 k y0 y1 y2 y3 y4 y5) (spec_l1Cur_turns.j0 (k+1) y0 y1 y2 y3 y4 y5))∧(∀ y0 y1 y2 y3 y4 y5 y6,LeO (spec_l1Cur_turns.l0 k y0 y1 y2 y3 y4 y5 y6) (spec_l1Cur_turns.l0 (k+1) y0 y1 y2 y3 y4 y5 y6))
 | 0=>⟨fun _ _ _ _ _ _ r h=>by simp[spec_l1Cur_turns.j0] at h,fun _ _ _ _ _ _ _ r h=>by simp[spec_l1Cur_turns.l0] at h⟩
 | k+1=>by
  obtain⟨ih0,ih1⟩:=spec_l1Cur_turns.mono_l k
  refine⟨?_,?_⟩
  ·intro y0 y1 y2 y3 y4 y5
   unfold spec_l1Cur_turns.j0
   repeat' first
   | (with_reducible exact ih0 _ _ _ _ _ _)
   | (with_reducible exact ih1 _ _ _ _ _ _ _)
   | (with_reducible exact spec_NextRound.mono _ _ _ _)
   | (with_reducible exact spec_PutLong.mono _ _ _ _ _ _)
   | (with_reducible exact LeO.refl _)
   | (with_reducible exact LeO.none _)
   | (with_reducible refine LeO.ite ?_ ?_)
   | (with_reducible refine LeO.bind ?_ (fun _ => ?_))
  ·intro y0 y1 y2 y3 y4 y5 y6
   unfold spec_l1Cur_turns.l0
   repeat' first
   | (with_reducible exact ih0 _ _ _ _ _ _)
   | (with_reducible exact ih1 _ _ _ _ _ _ _)
   | (with_reducible exact spec_NextRound.mono _ _ _ _)
   | (with_reducible exact spec_PutLong.mono _ _ _ _ _ _)
   | (with_reducible exact LeO.refl _)
   | (with_reducible exact LeO.none _)
   | (with_reducible refine LeO.ite ?_ ?_)
   | (with_reducible refine LeO.bind ?_ (fun _ => ?_))
theorem spec_l1Cur_turns.mono : ∀ a0 a1 a2 k,LeO (spec_l1Cur_turns.f k a0 a1 a2) (spec_l1Cur_turns.f (k+1) a0 a1 a2):=by
 intro a0 a1 a2 k
 obtain⟨ih0,ih1⟩:=spec_l1Cur_turns.mono_l k
 unfold spec_l1Cur_turns.f
 repeat' first
  | (with_reducible exact ih0 _ _ _ _ _ _)
  | (with_reducible exact ih1 _ _ _ _ _ _ _)
  | (with_reducible exact spec_NextRound.mono _ _ _ _)
  | (with_reducible exact spec_PutLong.mono _ _ _ _ _ _)
  | (with_reducible exact LeO.refl _)
  | (with_reducible exact LeO.none _)
  | (with_reducible refine LeO.ite ?_ ?_)
  | (with_reducible refine LeO.bind ?_ (fun _ => ?_))
def spec_l1Cur_turns.T11:Bool × List (List Nat × List Nat):=(true,[([],[]),([],[]),([],[]),([2],[2]),([3],[3]),([1,4],[1,4]),([],[]),([6,5],[6]),([7],[7]),([0,5,8,7],[0,5,8]),([9],[9]),([10],[10]),([10],[10]),([],[]),([13,11,9,0,1,2,3,4,5,6,7,8,9,10,11,13],[11,13]),([12,14,0,1,2,3,4,5,6,7,8,9,10,11,12,13,14],[12])])
def spec_l1Cur_turns.B11:List Nat:=[0,0,0,4,12,30,0,126,254,511,1023,2047,2047,0,12287,32767]
theorem spec_l1Cur_turns.tab11:rtab .any (opsOf Try.f28 11)=spec_l1Cur_turns.T11:=by kernel_rfl
theorem spec_l1Cur_turns.bits11:waitsOk spec_l1Cur_turns.T11.2 spec_l1Cur_turns.B11=true:=by kernel_rfl
def spec_l1Cur_turns.T16:Bool × List (List Nat × List Nat):=(true,[([],[]),([0],[0]),([],[]),([],[]),([2,3],[2,3]),([1,0,1,2,3,4],[1]),([5,0,1,2,3,4],[5]),([6,4,4,0,1,2,3,4],[4,6])])
def spec_l1Cur_turns.B16:List Nat:=[0,1,0,0,12,31,63,127]
theorem spec_l1Cur_turns.tab16:rtab .any (opsOf Try.f28 16)=spec_l1Cur_turns.T16:=by kernel_rfl
theorem spec_l1Cur_turns.bits16:waitsOk spec_l1Cur_turns.T16.2 spec_l1Cur_turns.B16=true:=by kernel_rfl
set_option maxHeartbeats 8000000 in
set_option maxRecDepth 100000 in
theorem spec_l1Cur_turns.calls (k:Nat) (g:Nat) (s0_0:List Int) (s0_1:Int) (s0_2:Int) (r1:Int) (r2:List (S34)) (r3:Int) (r4:Int) (r5:Int) (w0 w:World) (hI:IsS58 w0 w g s0_0 s0_1 s0_2) (hB:Below w0.heap.size w0 w) (h:spec_l1Cur_turns.f k s0_0 s0_1 s0_2=some (r1,r2,r3,r4,r5)) :
  Calls Try.prog 28 #[.pointer (some ⟨g,0,none⟩)] w fun e w' => ∃ v1_:Value,e=.returned (.agg #[.int .i64 r1,v1_,.int .i64 r3])∧Kd.S k34 34 w' w.heap.size (fun _=>True) v1_ r2∧IsS58 w0 w' g s0_0 r4 r5∧Below w0.heap.size w0 w'∧KeepBut w w' g none:=by
 have hu25:=Try.underlying25
 have HI0:=am hI
 have HK:=am (KeepBut.refl w g none)
 have HL:=am hB.size
 clear hI
 have HW0:=am hB.size
 have HB:=am hB
 clear hB
 have H:((spec_l1Cur_pick.f s0_0 s0_1 s0_2 20).bind fun bt215=>((spec_l1Cur_pick.f s0_0 bt215.2.1 bt215.2.2 4).bind fun bt218=>((spec_NewTurns.f (wrap64 (1+bt215.1)) (wrap64 (1+bt218.1))).bind fun bt221=>(if bt221.2.2.2=true then (spec_l1Cur_turns.j0 k s0_0 bt218.2.1 bt218.2.2 bt221.1 bt221.2.1 bt221.2.2.1) else ((spec_NewTurns.f 5 2).bind fun bt228=>(spec_l1Cur_turns.j0 k s0_0 bt218.2.1 bt218.2.2 bt228.1 bt228.2.1 bt228.2.2.1))))))=some (r1,r2,r3,r4,r5):=h
 clear h
 replace H:=bI_ H
 obtain⟨⟨t215,t216,t217⟩,A20,H⟩:=H
 replace H:((spec_l1Cur_pick.f s0_0 t216 t217 4).bind fun bt218=>((spec_NewTurns.f (wrap64 (1+t215)) (wrap64 (1+bt218.1))).bind fun bt221=>(if bt221.2.2.2=true then (spec_l1Cur_turns.j0 k s0_0 bt218.2.1 bt218.2.2 bt221.1 bt221.2.1 bt221.2.2.1) else ((spec_NewTurns.f 5 2).bind fun bt228=>(spec_l1Cur_turns.j0 k s0_0 bt218.2.1 bt218.2.2 bt228.1 bt228.2.1 bt228.2.2.1)))))=some (r1,r2,r3,r4,r5):=H
 have A2:=am A20
 clear A20
 replace H:=bI_ H
 obtain⟨⟨t218,t219,t220⟩,A30,H⟩:=H
 replace H:((spec_NewTurns.f (wrap64 (1+t215)) (wrap64 (1+t218))).bind fun bt221=>(if bt221.2.2.2=true then (spec_l1Cur_turns.j0 k s0_0 t219 t220 bt221.1 bt221.2.1 bt221.2.2.1) else ((spec_NewTurns.f 5 2).bind fun bt228=>(spec_l1Cur_turns.j0 k s0_0 t219 t220 bt228.1 bt228.2.1 bt228.2.2.1))))=some (r1,r2,r3,r4,r5):=H
 have A3:=am A30
 clear A30
 replace H:=bI_ H
 obtain⟨⟨t221,t222,t225,t226⟩,A40,H⟩:=H
 replace H:(if t226=true then (spec_l1Cur_turns.j0 k s0_0 t219 t220 t221 t222 t225) else ((spec_NewTurns.f 5 2).bind fun bt228=>(spec_l1Cur_turns.j0 k s0_0 t219 t220 bt228.1 bt228.2.1 bt228.2.2.1)))=some (r1,r2,r3,r4,r5):=H
 have A4:=am A40
 clear A40
 have HC5:=am H
 clear H
 go_enter Try.func28,Try.ntmps28
 go_upto_if 22 with (first|((with_reducible refine gate_dst (N:=2) rfl ?_);refine box_event ?hg (N:=2) ?hd (cs:=#[.int .i64 0,.slice none 0 0,.int .i64 0]) (t:=25) ?hr ?_;(case hd=>rfl);(case hg=>rfl);(case hr=>first|(go_simp;done)|(go_simp;rfl));intro gb214 hg w6 hbox hb;have n0_:=am (IsS58.below (by repeat (first|(with_reducible first|exact HI0.out|apply IsS58.alloc|apply IsS58.drewN|apply IsS58.drew|apply IsS58.set_1|apply IsS58.set_2)|exact HI0.out)) hb);have n1_:=am (KeepBut.trans (by repeat (first|(with_reducible first|exact HK.out|apply KeepBut.set_|apply keep_drewN|apply keep_drew|apply keep_alloc)|exact HK.out)) (KeepBut.of_below hb g none) (.inl rfl));have n2_:=am (below_step (by repeat (first|(with_reducible first|exact HB.out|apply below_alloc|apply pw_below_drewN|apply below_drew1|refine below_set ?_ (IsS58.ge HI0.out))|exact HB.out)) hb);have n3_:=am (hbox);have n4_:=am ((by rw[hg];exact(keep_size (w:=w) (g:=g) (row:=none) (by repeat (first|(with_reducible first|exact HK.out|apply KeepBut.set_|apply keep_drewN|apply keep_drew|apply keep_alloc)|exact HK.out))):w.heap.size≤gb214));have n5_:=am ((Nat.le_trans HW0.out (by rw[hg];exact(keep_size (w:=w) (g:=g) (row:=none) (by repeat (first|(with_reducible first|exact HK.out|apply KeepBut.set_|apply keep_drewN|apply keep_drew|apply keep_alloc)|exact HK.out))):w.heap.size≤gb214):w0.heap.size≤gb214));have n6_:=am ((by rw[hg];exact Nat.ne_of_lt (IsS58.lt (show IsS58 w0 _ g s0_0 s0_1 s0_2 from by repeat (first|(with_reducible first|exact HI0.out|apply IsS58.alloc|apply IsS58.drewN|apply IsS58.drew|apply IsS58.set_1|apply IsS58.set_2)|exact HI0.out))):g≠gb214));have n7_:=am ((by rw[hg];exact Nat.ne_of_gt (IsS58.lt (show IsS58 w0 _ g s0_0 s0_1 s0_2 from by repeat (first|(with_reducible first|exact HI0.out|apply IsS58.alloc|apply IsS58.drewN|apply IsS58.drew|apply IsS58.set_1|apply IsS58.set_2)|exact HI0.out))):gb214≠g));(try clear HI0);clear HK HB;have HI0:=n0_;have HK:=n1_;have HB:=n2_;have BK214:=n3_;have GW214:=n4_;have GE214:=n5_;have NB0_214:=n6_;have NB214_0:=n7_;clear n0_ n1_ n2_ n3_ n4_ n5_ n6_ n7_;clear hb hbox hg)|((with_reducible refine gate_callee (f:=29) rfl ?_);refine goesA (some 13) rfl rfl Try.func29 #[.pointer (some ⟨g,0,none⟩),.int .i64 20] rfl ?_;(with_reducible refine(spec_l1Cur_pick.calls g s0_0 s0_1 s0_2 20 t215 t216 t217 w0 _ ?side1 ?side2 A2.out).mono ?_);(case side1=>repeat (first|(with_reducible first|exact HI0.out|apply IsS58.alloc|apply IsS58.drewN|apply IsS58.drew|apply IsS58.set_1|apply IsS58.set_2|apply IsS58.far (hne:=NB0_214.out))|exact HI0.out));(case side2=>repeat (first|(with_reducible first|exact HB.out|apply below_alloc|apply pw_below_drewN|apply below_drew1|refine below_set ?_ (IsS58.ge HI0.out)|refine below_set ?_ GE214.out)|exact HB.out));rintro e w7 ⟨rfl,hi,hb,hk⟩;refine⟨_,rfl,?_⟩;have n0_:=am (KeepBut.blk hk (g':=gb214) (o:=.cells #[.int .i64 0,.slice none 0 0,.int .i64 0] 25 (0,0)) (bL BK214.out) NB214_0.out (by simp));have n1_:=am (KeepBut.trans (by repeat (first|(with_reducible first|exact HK.out|apply KeepBut.set_|apply keep_drewN|apply keep_drew|apply keep_alloc|refine keep_far ?_ GW214.out _)|exact HK.out)) hk (.inl rfl));have n2_:=am (hb);have n3_:=am (hi);clear BK214 HK HB;(try clear HI0);have BK214:=n0_;have HK:=n1_;have HB:=n2_;have HI0:=n3_;clear n0_ n1_ n2_ n3_;(try clear hb);(try clear hb2);(try clear hk);(try clear hi))|((with_reducible refine gate_callee (f:=29) rfl ?_);refine goesA (some 16) rfl rfl Try.func29 #[.pointer (some ⟨g,0,none⟩),.int .i64 4] rfl ?_;(with_reducible refine(spec_l1Cur_pick.calls g s0_0 t216 t217 4 t218 t219 t220 w0 _ ?side1 ?side2 A3.out).mono ?_);(case side1=>repeat (first|(with_reducible first|exact HI0.out|apply IsS58.alloc|apply IsS58.drewN|apply IsS58.drew|apply IsS58.set_1|apply IsS58.set_2|apply IsS58.far (hne:=NB0_214.out))|exact HI0.out));(case side2=>repeat (first|(with_reducible first|exact HB.out|apply below_alloc|apply pw_below_drewN|apply below_drew1|refine below_set ?_ (IsS58.ge HI0.out)|refine below_set ?_ GE214.out)|exact HB.out));rintro e w8 ⟨rfl,hi,hb,hk⟩;refine⟨_,rfl,?_⟩;have n0_:=am (KeepBut.blk hk (g':=gb214) (o:=.cells #[.int .i64 0,.slice none 0 0,.int .i64 0] 25 (0,0)) (bL BK214.out) NB214_0.out (by simp));have n1_:=am (KeepBut.trans (by repeat (first|(with_reducible first|exact HK.out|apply KeepBut.set_|apply keep_drewN|apply keep_drew|apply keep_alloc|refine keep_far ?_ GW214.out _)|exact HK.out)) hk (.inl rfl));have n2_:=am (hb);have n3_:=am (hi);clear BK214 HK HB;(try clear HI0);have BK214:=n0_;have HK:=n1_;have HB:=n2_;have HI0:=n3_;clear n0_ n1_ n2_ n3_;(try clear hb);(try clear hb2);(try clear hk);(try clear hi))|((with_reducible refine gate_callee (f:=35) rfl ?_);refine goesA (some 18) rfl rfl Try.func35 #[.int .i64 (wrap64 (1+t215)),.int .i64 (wrap64 (1+t218))] rfl ?_;(with_reducible refine(spec_NewTurns.calls (wrap64 (1+t215)) (wrap64 (1+t218)) t221 t222 t225 t226 _ A4.out).mono ?_);rintro e w9 ⟨v223,rfl,ho0,hb⟩;refine⟨_,rfl,?_⟩;have n0_:=am (Kd.S_lower ho0 (keep_size (w:=w) (g:=g) (row:=none) (by repeat (first|(with_reducible first|exact HK.out|apply KeepBut.set_|apply keep_drewN|apply keep_drew|apply keep_alloc|refine keep_far ?_ GW214.out _)|exact HK.out))));have n1_:=am (IsS58.below (by repeat (first|(with_reducible first|exact HI0.out|apply IsS58.alloc|apply IsS58.drewN|apply IsS58.drew|apply IsS58.set_1|apply IsS58.set_2|apply IsS58.far (hne:=NB0_214.out))|exact HI0.out)) hb);have n2_:=am (bM BK214.out hb);have n3_:=am (KeepBut.trans (by repeat (first|(with_reducible first|exact HK.out|apply KeepBut.set_|apply keep_drewN|apply keep_drew|apply keep_alloc|refine keep_far ?_ GW214.out _)|exact HK.out)) (KeepBut.of_below hb g none) (.inl rfl));have n4_:=am (below_step (by repeat (first|(with_reducible first|exact HB.out|apply below_alloc|apply pw_below_drewN|apply below_drew1|refine below_set ?_ (IsS58.ge HI0.out)|refine below_set ?_ GE214.out)|exact HB.out)) hb);(try clear HI0);clear BK214 HK HB;have HO224:=n0_;have HI0:=n1_;have BK214:=n2_;have HK:=n3_;have HB:=n4_;clear n0_ n1_ n2_ n3_ n4_;(try clear hb);(try clear hb2);(try clear hk);(try clear hi);(try clear ho0))|((with_reducible refine gate_dst (N:=3) rfl ?_);refine box_event ?hg (N:=3) ?hd (cs:=#[.int .i64 0,.slice none 0 0,.int .i64 0]) (t:=25) ?hr ?_;(case hd=>rfl);(case hg=>rfl);(case hr=>first|(go_simp;done)|(go_simp;rfl));intro gb227 hg w10 hbox hb;have n0_:=am (Kd.S_below (by(with_reducible repeat (first|apply Kd.S_alloc|apply Kd.S_drewN|apply Kd.S_drew));exact HO224.out) hb);have n1_:=am (IsS58.below (by repeat (first|(with_reducible first|exact HI0.out|apply IsS58.alloc|apply IsS58.drewN|apply IsS58.drew|apply IsS58.set_1|apply IsS58.set_2|apply IsS58.far (hne:=NB0_214.out))|exact HI0.out)) hb);have n2_:=am (bM BK214.out hb);have n3_:=am (KeepBut.trans (by repeat (first|(with_reducible first|exact HK.out|apply KeepBut.set_|apply keep_drewN|apply keep_drew|apply keep_alloc|refine keep_far ?_ GW214.out _)|exact HK.out)) (KeepBut.of_below hb g none) (.inl rfl));have n4_:=am (below_step (by repeat (first|(with_reducible first|exact HB.out|apply below_alloc|apply pw_below_drewN|apply below_drew1|refine below_set ?_ (IsS58.ge HI0.out)|refine below_set ?_ GE214.out)|exact HB.out)) hb);have n5_:=am (hbox);have n6_:=am ((by rw[hg];exact(keep_size (w:=w) (g:=g) (row:=none) (by repeat (first|(with_reducible first|exact HK.out|apply KeepBut.set_|apply keep_drewN|apply keep_drew|apply keep_alloc|refine keep_far ?_ GW214.out _)|exact HK.out))):w.heap.size≤gb227));have n7_:=am ((Nat.le_trans HW0.out (by rw[hg];exact(keep_size (w:=w) (g:=g) (row:=none) (by repeat (first|(with_reducible first|exact HK.out|apply KeepBut.set_|apply keep_drewN|apply keep_drew|apply keep_alloc|refine keep_far ?_ GW214.out _)|exact HK.out))):w.heap.size≤gb227):w0.heap.size≤gb227));have n8_:=am ((bN BK214.out hg:gb214≠gb227));have n9_:=am ((bO BK214.out hg:gb227≠gb214));have n10_:=am ((by rw[hg];exact Nat.ne_of_lt (IsS58.lt (show IsS58 w0 _ g s0_0 t219 t220 from by repeat (first|(with_reducible first|exact HI0.out|apply IsS58.alloc|apply IsS58.drewN|apply IsS58.drew|apply IsS58.set_1|apply IsS58.set_2|apply IsS58.far (hne:=NB0_214.out))|exact HI0.out))):g≠gb227));have n11_:=am ((by rw[hg];exact Nat.ne_of_gt (IsS58.lt (show IsS58 w0 _ g s0_0 t219 t220 from by repeat (first|(with_reducible first|exact HI0.out|apply IsS58.alloc|apply IsS58.drewN|apply IsS58.drew|apply IsS58.set_1|apply IsS58.set_2|apply IsS58.far (hne:=NB0_214.out))|exact HI0.out))):gb227≠g));clear HO224;(try clear HI0);clear BK214 HK HB;have HO224:=n0_;have HI0:=n1_;have BK214:=n2_;have HK:=n3_;have HB:=n4_;have BK227:=n5_;have GW227:=n6_;have GE227:=n7_;have NB214_227:=n8_;have NB227_214:=n9_;have NB0_227:=n10_;have NB227_0:=n11_;clear n0_ n1_ n2_ n3_ n4_ n5_ n6_ n7_ n8_ n9_ n10_ n11_;clear hb hbox hg;have hnb11:=NB227_214.out;have hnc11:=NB214_227.out;have hnb12:=NB227_0.out;have hnc12:=NB0_227.out;obtain⟨hcz13_0,hcz13_1,hcz13_2⟩:=cC3 BK227.out;obtain⟨hfz13_0,hfz13_1,hfz13_2⟩:=cF3 BK227.out;obtain⟨Ao14,co14,eo14⟩:=Kd.S_slice HO224.out;subst eo14))
 (try simp only[Act.put,zA,zB,zC])
 go_cut [] (fun wc => ∃ (kq:Nat) (x228000_4:Int) (x228001_4:List (S34)) (x228002_4:Int) (u228001:Value),Aside0 (spec_l1Cur_turns.j0 kq s0_0 t219 t220 x228000_4 x228001_4 x228002_4=some (r1,r2,r3,r4,r5))∧Aside0 (kq≤k)∧Aside0 (Kd.S k34 34 wc w.heap.size (fun _=>True) u228001 x228001_4)∧Aside0 (wc.heap[gb214]?=some (.cells #[.int .i64 0,(.slice none 0 0),.int .i64 0] 25 (0,0)))∧Aside0 (wc.heap[gb227]?=some (.cells #[.int .i64 x228000_4,u228001,.int .i64 x228002_4] 25 (0,0)))∧Aside0 (IsS58 w0 wc g s0_0 t219 t220)∧Aside0 (KeepBut w wc g none)∧Aside0 (Below w0.heap.size w0 wc))
 case first =>
  have H:=HC5.out
  clear HC5
  by_cases c15:t226=true
  ·subst c15
   have H1:(spec_l1Cur_turns.j0 k s0_0 t219 t220 t221 t222 t225)=some (r1,r2,r3,r4,r5):=by rw[if_pos rfl] at H;exact H
   clear H
   have H:=H1
   clear H1
   have H':=am H
   clear H
   go_wp2
   go_meet
   case rel=>exact⟨_,(t221),(t222),(t225),(.slice Ao14 t222.length co14),H',⟨by first|omega|exact Nat.le_refl _⟩,⟨by(with_reducible repeat (first|apply Kd.S_alloc|apply Kd.S_drewN|apply Kd.S_drew));exact Kd.S_mono (Kd.S_far (p:=⟨gb227,2,none⟩) (Kd.S_far (p:=⟨gb227,1,none⟩) (Kd.S_far (p:=⟨gb227,0,none⟩) (Kd.S_types HO224.out BK227.out (by decide)) (fun _ hk=>hk.2) (.int .i64 t221)) (fun _ hk=>hk.2) (.slice Ao14 t222.length co14)) (fun _ hk=>hk.2) (.int .i64 t225)) (fun _ hk=>trivial)⟩,⟨by(with_reducible repeat (first|refine blk_drewN ?_ _|refine blk_drew ?_|refine blk_alloc ?_ _));refine blk_far ?_ NB214_227.out _;(with_reducible repeat (first|refine blk_drewN ?_ _|refine blk_drew ?_|refine blk_alloc ?_ _));refine blk_far ?_ NB214_227.out _;(with_reducible repeat (first|refine blk_drewN ?_ _|refine blk_drew ?_|refine blk_alloc ?_ _));refine blk_far ?_ NB214_227.out _;(with_reducible repeat (first|refine blk_drewN ?_ _|refine blk_drew ?_|refine blk_alloc ?_ _));exact BK214.out⟩,⟨by(with_reducible repeat (first|refine blk_drewN ?_ _|refine blk_drew ?_|refine blk_alloc ?_ _));apply bU3;(with_reducible repeat (first|refine blk_drewN ?_ _|refine blk_drew ?_|refine blk_alloc ?_ _));exact BK227.out⟩,⟨by repeat (first|(with_reducible first|exact HI0.out|apply IsS58.alloc|apply IsS58.drewN|apply IsS58.drew|apply IsS58.set_1|apply IsS58.set_2|apply IsS58.far (hne:=NB0_214.out)|apply IsS58.far (hne:=NB0_227.out))|exact HI0.out)⟩,⟨by repeat (first|(with_reducible first|exact HK.out|apply KeepBut.set_|apply keep_drewN|apply keep_drew|apply keep_alloc|refine keep_far ?_ GW214.out _|refine keep_far ?_ GW227.out _)|exact HK.out)⟩,⟨by repeat (first|(with_reducible first|exact HB.out|apply below_alloc|apply pw_below_drewN|apply below_drew1|refine below_set ?_ (IsS58.ge HI0.out)|refine below_set ?_ GE214.out|refine below_set ?_ GE227.out)|exact HB.out)⟩⟩
  ·replace c15:=Bool.eq_false_iff.mpr c15
   subst c15
   have H1:((spec_NewTurns.f 5 2).bind fun bt228=>(spec_l1Cur_turns.j0 k s0_0 t219 t220 bt228.1 bt228.2.1 bt228.2.2.1))=some (r1,r2,r3,r4,r5):=by rw[if_neg (show ¬ (false=true) by decide)] at H;exact H
   clear H
   have H:=H1
   clear H1
   replace H:=bI_ H
   obtain⟨⟨t228,t229,t232,t233⟩,A160,H⟩:=H
   replace H:(spec_l1Cur_turns.j0 k s0_0 t219 t220 t228 t229 t232)=some (r1,r2,r3,r4,r5):=H
   have A16:=am A160
   clear A160
   have H':=am H
   clear H
   go_wp2_with (first|((with_reducible refine gate_callee (f:=35) rfl ?_);refine goesA (some 24) rfl rfl Try.func35 #[.int .i64 5,.int .i64 2] rfl ?_;(with_reducible refine(spec_NewTurns.calls 5 2 t228 t229 t232 t233 _ A16.out).mono ?_);rintro e w17 ⟨v230,rfl,ho0,hb⟩;refine⟨_,rfl,?_⟩;have n0_:=am (Kd.S_elder' (by(with_reducible repeat (first|apply Kd.S_alloc|apply Kd.S_drewN|apply Kd.S_drew));exact(Kd.S_mono (Kd.S_far (p:=⟨gb227,2,none⟩) (Kd.S_far (p:=⟨gb227,1,none⟩) (Kd.S_far (p:=⟨gb227,0,none⟩) (Kd.S_types HO224.out BK227.out (by decide)) (fun _ hk=>hk.2) (.int .i64 t221)) (fun _ hk=>hk.2) (.slice Ao14 t222.length co14)) (fun _ hk=>hk.2) (.int .i64 t225)) (fun _ h_=>h_.1))) (Kd.S_base ho0) hb);have n1_:=am (Kd.S_lower (Kd.S_new' ho0 (Kd.S_lt (by(with_reducible repeat (first|apply Kd.S_alloc|apply Kd.S_drewN|apply Kd.S_drew));exact(Kd.S_mono (Kd.S_far (p:=⟨gb227,2,none⟩) (Kd.S_far (p:=⟨gb227,1,none⟩) (Kd.S_far (p:=⟨gb227,0,none⟩) (Kd.S_types HO224.out BK227.out (by decide)) (fun _ hk=>hk.2) (.int .i64 t221)) (fun _ hk=>hk.2) (.slice Ao14 t222.length co14)) (fun _ hk=>hk.2) (.int .i64 t225)) (fun _ h_=>h_.1))))) (keep_size (w:=w) (g:=g) (row:=none) (by repeat (first|(with_reducible first|exact HK.out|apply KeepBut.set_|apply keep_drewN|apply keep_drew|apply keep_alloc|refine keep_far ?_ GW214.out _|refine keep_far ?_ GW227.out _)|exact HK.out))));have n2_:=am (IsS58.below (show IsS58 w0 (((w10.setCell ⟨gb227,0,none⟩ (.int .i64 t221)).setCell ⟨gb227,1,none⟩ (.slice Ao14 t222.length co14)).setCell ⟨gb227,2,none⟩ (.int .i64 t225)) g s0_0 t219 t220 from by repeat (first|(with_reducible first|exact HI0.out|apply IsS58.alloc|apply IsS58.drewN|apply IsS58.drew|apply IsS58.set_1|apply IsS58.set_2|apply IsS58.far (hne:=NB0_214.out)|apply IsS58.far (hne:=NB0_227.out))|exact HI0.out)) hb);have n3_:=am (blk_below (g:=gb214) (o:=.cells #[.int .i64 0,.slice none 0 0,.int .i64 0] 25 (0,0)) (by(with_reducible repeat (first|refine blk_drewN ?_ _|refine blk_drew ?_|refine blk_alloc ?_ _));refine blk_far ?_ NB214_227.out _;(with_reducible repeat (first|refine blk_drewN ?_ _|refine blk_drew ?_|refine blk_alloc ?_ _));refine blk_far ?_ NB214_227.out _;(with_reducible repeat (first|refine blk_drewN ?_ _|refine blk_drew ?_|refine blk_alloc ?_ _));refine blk_far ?_ NB214_227.out _;(with_reducible repeat (first|refine blk_drewN ?_ _|refine blk_drew ?_|refine blk_alloc ?_ _));exact BK214.out) hb);have n4_:=am (blk_below (g:=gb227) (o:=.cells #[.int .i64 t221,.slice Ao14 t222.length co14,.int .i64 t225] 25 (0,0)) (by(with_reducible repeat (first|refine blk_drewN ?_ _|refine blk_drew ?_|refine blk_alloc ?_ _));apply bU3;(with_reducible repeat (first|refine blk_drewN ?_ _|refine blk_drew ?_|refine blk_alloc ?_ _));exact BK227.out) hb);have n5_:=am (KeepBut.trans (by repeat (first|(with_reducible first|exact HK.out|apply KeepBut.set_|apply keep_drewN|apply keep_drew|apply keep_alloc|refine keep_far ?_ GW214.out _|refine keep_far ?_ GW227.out _)|exact HK.out)) (KeepBut.of_below hb g none) (.inl rfl));have n6_:=am (below_step (by repeat (first|(with_reducible first|exact HB.out|apply below_alloc|apply pw_below_drewN|apply below_drew1|refine below_set ?_ (IsS58.ge HI0.out)|refine below_set ?_ GE214.out|refine below_set ?_ GE227.out)|exact HB.out)) hb);clear HO224;(try clear HI0);clear BK214 BK227 HK HB;have HO224:=n0_;have HO231:=n1_;have HI0:=n2_;have BK214:=n3_;have BK227:=n4_;have HK:=n5_;have HB:=n6_;clear n0_ n1_ n2_ n3_ n4_ n5_ n6_;(try clear hb);(try clear hb2);(try clear hk);(try clear hi);(try clear ho0);have hnb18:=NB227_214.out;have hnc18:=NB214_227.out;have hnb19:=NB227_0.out;have hnc19:=NB0_227.out;obtain⟨hcz20_0,hcz20_1,hcz20_2⟩:=cC3 BK227.out;obtain⟨hfz20_0,hfz20_1,hfz20_2⟩:=cF3 BK227.out;obtain⟨Ao21,co21,eo21⟩:=Kd.S_slice HO231.out;subst eo21))
   go_meet
   case rel=>exact⟨_,(t228),(t229),(t232),(.slice Ao21 t229.length co21),H',⟨by first|omega|exact Nat.le_refl _⟩,⟨by(with_reducible repeat (first|apply Kd.S_alloc|apply Kd.S_drewN|apply Kd.S_drew));exact Kd.S_mono (Kd.S_far (p:=⟨gb227,2,none⟩) (Kd.S_far (p:=⟨gb227,1,none⟩) (Kd.S_far (p:=⟨gb227,0,none⟩) (Kd.S_types HO231.out BK227.out (by decide)) (fun _ hk=>hk.2) (.int .i64 t228)) (fun _ hk=>hk.2) (.slice Ao21 t229.length co21)) (fun _ hk=>hk.2) (.int .i64 t232)) (fun _ hk=>trivial)⟩,⟨by(with_reducible repeat (first|refine blk_drewN ?_ _|refine blk_drew ?_|refine blk_alloc ?_ _));refine blk_far ?_ NB214_227.out _;(with_reducible repeat (first|refine blk_drewN ?_ _|refine blk_drew ?_|refine blk_alloc ?_ _));refine blk_far ?_ NB214_227.out _;(with_reducible repeat (first|refine blk_drewN ?_ _|refine blk_drew ?_|refine blk_alloc ?_ _));refine blk_far ?_ NB214_227.out _;(with_reducible repeat (first|refine blk_drewN ?_ _|refine blk_drew ?_|refine blk_alloc ?_ _));exact BK214.out⟩,⟨by(with_reducible repeat (first|refine blk_drewN ?_ _|refine blk_drew ?_|refine blk_alloc ?_ _));apply bU3;(with_reducible repeat (first|refine blk_drewN ?_ _|refine blk_drew ?_|refine blk_alloc ?_ _));exact BK227.out⟩,⟨by repeat (first|(with_reducible first|exact HI0.out|apply IsS58.alloc|apply IsS58.drewN|apply IsS58.drew|apply IsS58.set_1|apply IsS58.set_2|apply IsS58.far (hne:=NB0_214.out)|apply IsS58.far (hne:=NB0_227.out))|exact HI0.out)⟩,⟨by repeat (first|(with_reducible first|exact HK.out|apply KeepBut.set_|apply keep_drewN|apply keep_drew|apply keep_alloc|refine keep_far ?_ GW214.out _|refine keep_far ?_ GW227.out _)|exact HK.out)⟩,⟨by repeat (first|(with_reducible first|exact HB.out|apply below_alloc|apply pw_below_drewN|apply below_drew1|refine below_set ?_ (IsS58.ge HI0.out)|refine below_set ?_ GE214.out|refine below_set ?_ GE227.out)|exact HB.out)⟩⟩
 case rest =>
  clear HC5
  try clear c1
  try clear c2
  try clear p2
  try clear c3
  try clear p6
  try clear c11
  try clear c12
  try clear c15
  try clear c18
  try clear c19
  try clear hcz13_0 hcz13_1 hcz13_2
  try clear hcz20_0 hcz20_1 hcz20_2
  try clear hfz13_0 hfz13_1 hfz13_2
  try clear hfz20_0 hfz20_1 hfz20_2
  obtain⟨kq,x228000_4,x228001_4,x228002_4,u228001,HA,HJ4,HO_228001,BK214,BK227,HI0,HK,HB⟩:=hcut
  cases kq with
  | zero=>exact absurd HA.out (by simp[spec_l1Cur_turns.j0])
  | succ kj4 =>
   have H:=HA.out
   clear HA
   simp only[spec_l1Cur_turns.j0] at H
   replace H:=bI_ H
   obtain⟨⟨t234,t235,t236⟩,A220,H⟩:=H
   replace H:(spec_l1Cur_turns.l0 kj4 t234 s0_0 t235 t236 x228000_4 x228001_4 x228002_4)=some (r1,r2,r3,r4,r5):=H
   have A22:=am A220
   clear A220
   have H':=am H
   clear H
   go_wp2_with (first|((with_reducible refine gate_callee (f:=29) rfl ?_);refine goesA (some 28) rfl rfl Try.func29 #[.pointer (some ⟨g,0,none⟩),.int .i64 20] rfl ?_;(with_reducible refine(spec_l1Cur_pick.calls g s0_0 t219 t220 20 t234 t235 t236 w0 _ ?side1 ?side2 A22.out).mono ?_);(case side1=>repeat (first|(with_reducible first|exact HI0.out|apply IsS58.alloc|apply IsS58.drewN|apply IsS58.drew|apply IsS58.set_1|apply IsS58.set_2|apply IsS58.far (hne:=NB0_214.out)|apply IsS58.far (hne:=NB0_227.out))|exact HI0.out));(case side2=>repeat (first|(with_reducible first|exact HB.out|apply below_alloc|apply pw_below_drewN|apply below_drew1|refine below_set ?_ (IsS58.ge HI0.out)|refine below_set ?_ GE214.out|refine below_set ?_ GE227.out)|exact HB.out));rintro e w23 ⟨rfl,hi,hb,hk⟩;refine⟨_,rfl,?_⟩;have n0_:=am (Kd.S_mono (Kd.S_keep (IsS58.apartS (show IsS58 w0 _ g s0_0 t219 t220 from by repeat (first|(with_reducible first|exact HI0.out|apply IsS58.alloc|apply IsS58.drewN|apply IsS58.drew|apply IsS58.set_1|apply IsS58.set_2|apply IsS58.far (hne:=NB0_214.out)|apply IsS58.far (hne:=NB0_227.out))|exact HI0.out)) (by(with_reducible repeat (first|apply Kd.S_alloc|apply Kd.S_drewN|apply Kd.S_drew));exact HO_228001.out) (by decide)) hk (fun _ h=>h.2)) (fun _ h=>h.1));have n1_:=am (KeepBut.blk hk (g':=gb214) (o:=.cells #[.int .i64 0,.slice none 0 0,.int .i64 0] 25 (0,0)) (bL BK214.out) NB214_0.out (by simp));have n2_:=am (KeepBut.blk hk (g':=gb227) (o:=.cells #[.int .i64 x228000_4,u228001,.int .i64 x228002_4] 25 (0,0)) (bL BK227.out) NB227_0.out (by simp));have n3_:=am (KeepBut.trans (by repeat (first|(with_reducible first|exact HK.out|apply KeepBut.set_|apply keep_drewN|apply keep_drew|apply keep_alloc|refine keep_far ?_ GW214.out _|refine keep_far ?_ GW227.out _)|exact HK.out)) hk (.inl rfl));have n4_:=am (hb);have n5_:=am (hi);clear HO_228001 BK214 BK227 HK HB;(try clear HI0);have HO_228001:=n0_;have BK214:=n1_;have BK227:=n2_;have HK:=n3_;have HB:=n4_;have HI0:=n5_;clear n0_ n1_ n2_ n3_ n4_ n5_;(try clear hb);(try clear hb2);(try clear hk);(try clear hi)))
   go_loopg [5] kj4 (fun kq v5 w' => ∃ (x5_2:Int) (x1001_2:Int) (x1002_2:Int) (x228000_2:Int) (x228001_2:List (S34)) (x228002_2:Int) (u228001:Value),v5=.int .i64 x5_2∧Aside0 (spec_l1Cur_turns.l0 kq x5_2 s0_0 x1001_2 x1002_2 x228000_2 x228001_2 x228002_2=some (r1,r2,r3,r4,r5))∧Aside0 (kq≤kj4)∧Aside0 (Kd.S k34 34 w' w.heap.size (fun _=>True) u228001 x228001_2)∧Aside0 (w'.heap[gb214]?=some (.cells #[.int .i64 0,(.slice none 0 0),.int .i64 0] 25 (0,0)))∧Aside0 (w'.heap[gb227]?=some (.cells #[.int .i64 x228000_2,u228001,.int .i64 x228002_2] 25 (0,0)))∧Aside0 (IsS58 w0 w' g s0_0 x1001_2 x1002_2)∧Aside0 (KeepBut w w' g none)∧Aside0 (Below w0.heap.size w0 w'))
   case atStart=>exact⟨(t234),(t235),(t236),(x228000_4),(x228001_4),(x228002_4),(u228001),(bR),H',⟨Nat.le_refl _⟩,⟨by(with_reducible repeat (first|apply Kd.S_alloc|apply Kd.S_drewN|apply Kd.S_drew));exact HO_228001.out⟩,⟨by(with_reducible repeat (first|refine blk_drewN ?_ _|refine blk_drew ?_|refine blk_alloc ?_ _));exact BK214.out⟩,⟨by(with_reducible repeat (first|refine blk_drewN ?_ _|refine blk_drew ?_|refine blk_alloc ?_ _));exact BK227.out⟩,⟨by repeat (first|(with_reducible first|exact HI0.out|apply IsS58.alloc|apply IsS58.drewN|apply IsS58.drew|apply IsS58.set_1|apply IsS58.set_2|apply IsS58.far (hne:=NB0_214.out)|apply IsS58.far (hne:=NB0_227.out))|exact HI0.out)⟩,⟨by repeat (first|(with_reducible first|exact HK.out|apply KeepBut.set_|apply keep_drewN|apply keep_drew|apply keep_alloc|refine keep_far ?_ GW214.out _|refine keep_far ?_ GW227.out _)|exact HK.out)⟩,⟨by repeat (first|(with_reducible first|exact HB.out|apply below_alloc|apply pw_below_drewN|apply below_drew1|refine below_set ?_ (IsS58.ge HI0.out)|refine below_set ?_ GE214.out|refine below_set ?_ GE227.out)|exact HB.out)⟩⟩
   case round =>
    clear H'
    try clear c1
    try clear c2
    try clear p2
    try clear c3
    try clear p6
    try clear c11
    try clear c12
    try clear c15
    try clear c18
    try clear c19
    try clear hcz13_0 hcz13_1 hcz13_2
    try clear hcz20_0 hcz20_1 hcz20_2
    try clear hfz13_0 hfz13_1 hfz13_2
    try clear hfz20_0 hfz20_1 hfz20_2
    try clear p2
    try clear p6
    obtain⟨x5_2,x1001_2,x1002_2,x228000_2,x228001_2,x228002_2,u228001,rfl,HA,HK2,HO_228001,BK214,BK227,HI0,HK,HB⟩:=hrel
    cases gk with
    | zero=>exact absurd HA.out (by simp[spec_l1Cur_turns.l0])
    | succ k2 =>
     have H:=HA.out
     clear HA
     simp only[spec_l1Cur_turns.l0] at H
     by_cases c24:x5_2 > 0
     ·rw[if_pos c24] at H
      have c24b0:decide (0 < x5_2)=true:=decide_eq_true c24
      clear c24
      replace H:=bI_ H
      obtain⟨⟨t237,t238,t239⟩,A250,H⟩:=H
      replace H:(if t237=true then ((spec_NextRound.f k2 x228000_2 x228001_2 x228002_2).bind fun bt240=>(if bt240.2.2.2.2=true then (spec_l1Cur_turns.l0 k2 (wrap64 (x5_2 - 1)) s0_0 t238 t239 bt240.1 bt240.2.1 bt240.2.2.1) else (spec_l1Cur_turns.l0 k2 (wrap64 (x5_2 - 1)) s0_0 t238 t239 x228000_2 x228001_2 x228002_2))) else ((spec_l1Cur_pick.f s0_0 t238 t239 (x228001_2.length:Int)).bind fun bt250=>((spec_l1Cur_pick.f s0_0 bt250.2.1 bt250.2.2 30).bind fun bt253=>((spec_PutLong.f k2 x228000_2 x228001_2 x228002_2 bt250.1 (wrap64 (1+bt253.1))).bind fun bt256=>(if bt256.2.2.2=true then (spec_l1Cur_turns.l0 k2 (wrap64 (x5_2 - 1)) s0_0 bt253.2.1 bt253.2.2 bt256.1 bt256.2.1 bt256.2.2.1) else (spec_l1Cur_turns.l0 k2 (wrap64 (x5_2 - 1)) s0_0 bt253.2.1 bt253.2.2 x228000_2 x228001_2 x228002_2))))))=some (r1,r2,r3,r4,r5):=H
      have A25:=am A250
      clear A250
      by_cases c26:t237=true
      ·subst c26
       have H1:((spec_NextRound.f k2 x228000_2 x228001_2 x228002_2).bind fun bt240=>(if bt240.2.2.2.2=true then (spec_l1Cur_turns.l0 k2 (wrap64 (x5_2 - 1)) s0_0 t238 t239 bt240.1 bt240.2.1 bt240.2.2.1) else (spec_l1Cur_turns.l0 k2 (wrap64 (x5_2 - 1)) s0_0 t238 t239 x228000_2 x228001_2 x228002_2)))=some (r1,r2,r3,r4,r5):=by rw[if_pos rfl] at H;exact H
       clear H
       have H:=H1
       clear H1
       replace H:=bI_ H
       obtain⟨⟨t240,t241,t244,t245,t248⟩,A270,H⟩:=H
       replace H:(if t248=true then (spec_l1Cur_turns.l0 k2 (wrap64 (x5_2 - 1)) s0_0 t238 t239 t240 t241 t244) else (spec_l1Cur_turns.l0 k2 (wrap64 (x5_2 - 1)) s0_0 t238 t239 x228000_2 x228001_2 x228002_2))=some (r1,r2,r3,r4,r5):=H
       have A27:=am A270
       clear A270
       by_cases c28:t248=true
       ·subst c28
        have H1:(spec_l1Cur_turns.l0 k2 (wrap64 (x5_2 - 1)) s0_0 t238 t239 t240 t241 t244)=some (r1,r2,r3,r4,r5):=by rw[if_pos rfl] at H;exact H
        clear H
        have H:=H1
        clear H1
        have H':=am H
        clear H
        go_wp2_with (first|((with_reducible refine gate_callee (f:=36) rfl ?_);refine goesA (some 34) rfl rfl Try.func36 #[.pointer (some ⟨g,0,none⟩),.int .i64 5] rfl ?_;(with_reducible refine(spec_l1Cur_one.calls g s0_0 x1001_2 x1002_2 5 true t238 t239 w0 _ ?side1 ?side2 A25.out).mono ?_);(case side1=>repeat (first|(with_reducible first|exact HI0.out|apply IsS58.alloc|apply IsS58.drewN|apply IsS58.drew|apply IsS58.set_1|apply IsS58.set_2|apply IsS58.far (hne:=NB0_214.out)|apply IsS58.far (hne:=NB0_227.out))|exact HI0.out));(case side2=>repeat (first|(with_reducible first|exact HB.out|apply below_alloc|apply pw_below_drewN|apply below_drew1|refine below_set ?_ (IsS58.ge HI0.out)|refine below_set ?_ GE214.out|refine below_set ?_ GE227.out)|exact HB.out));rintro e w29 ⟨rfl,hi,hb,hk⟩;refine⟨_,rfl,?_⟩;have n0_:=am (Kd.S_mono (Kd.S_keep (IsS58.apartS (show IsS58 w0 _ g s0_0 x1001_2 x1002_2 from by repeat (first|(with_reducible first|exact HI0.out|apply IsS58.alloc|apply IsS58.drewN|apply IsS58.drew|apply IsS58.set_1|apply IsS58.set_2|apply IsS58.far (hne:=NB0_214.out)|apply IsS58.far (hne:=NB0_227.out))|exact HI0.out)) (by(with_reducible repeat (first|apply Kd.S_alloc|apply Kd.S_drewN|apply Kd.S_drew));exact HO_228001.out) (by decide)) hk (fun _ h=>h.2)) (fun _ h=>h.1));have n1_:=am (KeepBut.blk hk (g':=gb214) (o:=.cells #[.int .i64 0,.slice none 0 0,.int .i64 0] 25 (0,0)) (bL BK214.out) NB214_0.out (by simp));have n2_:=am (KeepBut.blk hk (g':=gb227) (o:=.cells #[.int .i64 x228000_2,u228001,.int .i64 x228002_2] 25 (0,0)) (bL BK227.out) NB227_0.out (by simp));have n3_:=am (KeepBut.trans (by repeat (first|(with_reducible first|exact HK.out|apply KeepBut.set_|apply keep_drewN|apply keep_drew|apply keep_alloc|refine keep_far ?_ GW214.out _|refine keep_far ?_ GW227.out _)|exact HK.out)) hk (.inl rfl));have n4_:=am (hb);have n5_:=am (hi);clear HO_228001 BK214 BK227 HK HB;(try clear HI0);have HO_228001:=n0_;have BK214:=n1_;have BK227:=n2_;have HK:=n3_;have HB:=n4_;have HI0:=n5_;clear n0_ n1_ n2_ n3_ n4_ n5_;(try clear hb);(try clear hb2);(try clear hk);(try clear hi);have hnb30:=NB227_214.out;have hnc30:=NB214_227.out;have hnb31:=NB227_0.out;have hnc31:=NB0_227.out;obtain⟨hcz32_0,hcz32_1,hcz32_2⟩:=cC3 BK227.out;obtain⟨hfz32_0,hfz32_1,hfz32_2⟩:=cF3 BK227.out;obtain⟨Ao33,co33,eo33⟩:=Kd.S_slice HO_228001.out;subst eo33)|((with_reducible refine gate_callee (f:=7) rfl ?_);refine goesA (some 37) rfl rfl Try.func7 #[.agg #[.int .i64 x228000_2,.slice Ao33 x228001_2.length co33,.int .i64 x228002_2]] rfl ?_;(with_reducible refine(spec_NextRound.calls k2 x228000_2 _ _ x228001_2 x228002_2 t240 t241 t244 t245 true _ ?side1 ?side2 A27.out).mono ?_);(case side1=>repeat (first|exact(Kd.S_reads' HO_228001.out).2.2|(with_reducible refine Kd.C_alloc ?_ _)|(with_reducible refine Kd.C_drewN ?_ _)|(with_reducible refine Kd.C_drew ?_)));(case side2=>exact(Kd.S_reads' HO_228001.out).2.1);rintro e w34 ⟨v242,v246,rfl,ho0,ho1,hb⟩;refine⟨_,rfl,?_⟩;have n0_:=am (Kd.S_mono (Kd.S_told (Kd.S_told (Kd.S_old (by(with_reducible repeat (first|apply Kd.S_alloc|apply Kd.S_drewN|apply Kd.S_drew));exact HO_228001.out) hb) (Kd.S_base ho0)) (Kd.R_base ho1)) (fun _ h_=>h_.1));have n1_:=am (Kd.S_lower (Kd.S_new' ho0 (Kd.S_lt (by(with_reducible repeat (first|apply Kd.S_alloc|apply Kd.S_drewN|apply Kd.S_drew));exact HO_228001.out))) (keep_size (w:=w) (g:=g) (row:=none) (by repeat (first|(with_reducible first|exact HK.out|apply KeepBut.set_|apply keep_drewN|apply keep_drew|apply keep_alloc|refine keep_far ?_ GW214.out _|refine keep_far ?_ GW227.out _)|exact HK.out))));have n2_:=am (Kd.R_lower ho1 (keep_size (w:=w) (g:=g) (row:=none) (by repeat (first|(with_reducible first|exact HK.out|apply KeepBut.set_|apply keep_drewN|apply keep_drew|apply keep_alloc|refine keep_far ?_ GW214.out _|refine keep_far ?_ GW227.out _)|exact HK.out))));have n3_:=am (bM BK214.out hb);have n4_:=am (bM BK227.out hb);have n5_:=am (IsS58.below (by repeat (first|(with_reducible first|exact HI0.out|apply IsS58.alloc|apply IsS58.drewN|apply IsS58.drew|apply IsS58.set_1|apply IsS58.set_2|apply IsS58.far (hne:=NB0_214.out)|apply IsS58.far (hne:=NB0_227.out))|exact HI0.out)) hb);have n6_:=am (KeepBut.trans (by repeat (first|(with_reducible first|exact HK.out|apply KeepBut.set_|apply keep_drewN|apply keep_drew|apply keep_alloc|refine keep_far ?_ GW214.out _|refine keep_far ?_ GW227.out _)|exact HK.out)) (KeepBut.of_below hb g none) (.inl rfl));have n7_:=am (below_step (by repeat (first|(with_reducible first|exact HB.out|apply below_alloc|apply pw_below_drewN|apply below_drew1|refine below_set ?_ (IsS58.ge HI0.out)|refine below_set ?_ GE214.out|refine below_set ?_ GE227.out)|exact HB.out)) hb);clear HO_228001 BK214 BK227;(try clear HI0);clear HK HB;have HO_228001:=n0_;have HO243:=n1_;have HO247:=n2_;have BK214:=n3_;have BK227:=n4_;have HI0:=n5_;have HK:=n6_;have HB:=n7_;clear n0_ n1_ n2_ n3_ n4_ n5_ n6_ n7_;(try clear hb);(try clear hb2);(try clear hk);(try clear hi);(try clear ho0);(try clear ho1))|((with_reducible refine gate_dst (N:=6) rfl ?_);refine box_event ?hg (N:=6) ?hd (cs:=#[.int .i64 0,.slice none 0 0,.int .i64 0]) (t:=25) ?hr ?_;(case hd=>rfl);(case hg=>rfl);(case hr=>first|(go_simp;done)|(go_simp;rfl));intro gb249 hg w35 hbox hb;have n0_:=am (Kd.S_below (by(with_reducible repeat (first|apply Kd.S_alloc|apply Kd.S_drewN|apply Kd.S_drew));exact HO_228001.out) hb);have n1_:=am (Kd.S_below (by(with_reducible repeat (first|apply Kd.S_alloc|apply Kd.S_drewN|apply Kd.S_drew));exact HO243.out) hb);have n2_:=am (Kd.R_below (bK HO247.out) hb);have n3_:=am (bM BK214.out hb);have n4_:=am (bM BK227.out hb);have n5_:=am (IsS58.below (by repeat (first|(with_reducible first|exact HI0.out|apply IsS58.alloc|apply IsS58.drewN|apply IsS58.drew|apply IsS58.set_1|apply IsS58.set_2|apply IsS58.far (hne:=NB0_214.out)|apply IsS58.far (hne:=NB0_227.out))|exact HI0.out)) hb);have n6_:=am (KeepBut.trans (by repeat (first|(with_reducible first|exact HK.out|apply KeepBut.set_|apply keep_drewN|apply keep_drew|apply keep_alloc|refine keep_far ?_ GW214.out _|refine keep_far ?_ GW227.out _)|exact HK.out)) (KeepBut.of_below hb g none) (.inl rfl));have n7_:=am (below_step (by repeat (first|(with_reducible first|exact HB.out|apply below_alloc|apply pw_below_drewN|apply below_drew1|refine below_set ?_ (IsS58.ge HI0.out)|refine below_set ?_ GE214.out|refine below_set ?_ GE227.out)|exact HB.out)) hb);have n8_:=am (hbox);have n9_:=am ((by rw[hg];exact(keep_size (w:=w) (g:=g) (row:=none) (by repeat (first|(with_reducible first|exact HK.out|apply KeepBut.set_|apply keep_drewN|apply keep_drew|apply keep_alloc|refine keep_far ?_ GW214.out _|refine keep_far ?_ GW227.out _)|exact HK.out))):w.heap.size≤gb249));have n10_:=am ((Nat.le_trans HW0.out (by rw[hg];exact(keep_size (w:=w) (g:=g) (row:=none) (by repeat (first|(with_reducible first|exact HK.out|apply KeepBut.set_|apply keep_drewN|apply keep_drew|apply keep_alloc|refine keep_far ?_ GW214.out _|refine keep_far ?_ GW227.out _)|exact HK.out))):w.heap.size≤gb249):w0.heap.size≤gb249));have n11_:=am ((bN BK214.out hg:gb214≠gb249));have n12_:=am ((bO BK214.out hg:gb249≠gb214));have n13_:=am ((bN BK227.out hg:gb227≠gb249));have n14_:=am ((bO BK227.out hg:gb249≠gb227));have n15_:=am ((by rw[hg];exact Nat.ne_of_lt (IsS58.lt (show IsS58 w0 _ g s0_0 t238 t239 from by repeat (first|(with_reducible first|exact HI0.out|apply IsS58.alloc|apply IsS58.drewN|apply IsS58.drew|apply IsS58.set_1|apply IsS58.set_2|apply IsS58.far (hne:=NB0_214.out)|apply IsS58.far (hne:=NB0_227.out))|exact HI0.out))):g≠gb249));have n16_:=am ((by rw[hg];exact Nat.ne_of_gt (IsS58.lt (show IsS58 w0 _ g s0_0 t238 t239 from by repeat (first|(with_reducible first|exact HI0.out|apply IsS58.alloc|apply IsS58.drewN|apply IsS58.drew|apply IsS58.set_1|apply IsS58.set_2|apply IsS58.far (hne:=NB0_214.out)|apply IsS58.far (hne:=NB0_227.out))|exact HI0.out))):gb249≠g));clear HO_228001 HO243 HO247 BK214 BK227;(try clear HI0);clear HK HB;have HO_228001:=n0_;have HO243:=n1_;have HO247:=n2_;have BK214:=n3_;have BK227:=n4_;have HI0:=n5_;have HK:=n6_;have HB:=n7_;have BK249:=n8_;have GW249:=n9_;have GE249:=n10_;have NB214_249:=n11_;have NB249_214:=n12_;have NB227_249:=n13_;have NB249_227:=n14_;have NB0_249:=n15_;have NB249_0:=n16_;clear n0_ n1_ n2_ n3_ n4_ n5_ n6_ n7_ n8_ n9_ n10_ n11_ n12_ n13_ n14_ n15_ n16_;clear hb hbox hg;have hnb36:=NB249_214.out;have hnc36:=NB214_249.out;have hnb37:=NB249_227.out;have hnc37:=NB227_249.out;have hnb38:=NB249_0.out;have hnc38:=NB0_249.out;obtain⟨hcz39_0,hcz39_1,hcz39_2⟩:=cC3 BK249.out;obtain⟨hfz39_0,hfz39_1,hfz39_2⟩:=cF3 BK249.out;obtain⟨Ao40,co40,eo40⟩:=Kd.S_slice HO243.out;subst eo40;obtain⟨hcz41_0,hcz41_1,hcz41_2⟩:=cC3 BK227.out;obtain⟨hfz41_0,hfz41_1,hfz41_2⟩:=cF3 BK227.out))
        go_roundg k2
        case measure=>have:=HJ4.out;have:=HK2.out;omega
        case rel=>exact⟨(wrap64 (x5_2 - 1)),(t238),(t239),(t240),(t241),(t244),(.slice Ao40 t241.length co40),(bR),H',⟨by have:=HJ4.out;have:=HK2.out;omega⟩,⟨by(with_reducible repeat (first|apply Kd.S_alloc|apply Kd.S_drewN|apply Kd.S_drew));exact Kd.S_mono (Kd.S_far (p:=⟨gb227,2,none⟩) (Kd.S_far (p:=⟨gb227,1,none⟩) (Kd.S_far (p:=⟨gb227,0,none⟩) (Kd.S_far (p:=⟨gb249,2,none⟩) (Kd.S_far (p:=⟨gb249,1,none⟩) (Kd.S_far (p:=⟨gb249,0,none⟩) (Kd.S_types (Kd.S_types HO243.out BK249.out (by decide)) BK227.out (by decide)) (fun _ hk=>hk.1.2) (.int .i64 t240)) (fun _ hk=>hk.1.2) (.slice Ao40 t241.length co40)) (fun _ hk=>hk.1.2) (.int .i64 t244)) (fun _ hk=>hk.2) (.int .i64 t240)) (fun _ hk=>hk.2) (.slice Ao40 t241.length co40)) (fun _ hk=>hk.2) (.int .i64 t244)) (fun _ hk=>trivial)⟩,⟨by(with_reducible repeat (first|refine blk_drewN ?_ _|refine blk_drew ?_|refine blk_alloc ?_ _));refine blk_far ?_ NB214_227.out _;(with_reducible repeat (first|refine blk_drewN ?_ _|refine blk_drew ?_|refine blk_alloc ?_ _));refine blk_far ?_ NB214_227.out _;(with_reducible repeat (first|refine blk_drewN ?_ _|refine blk_drew ?_|refine blk_alloc ?_ _));refine blk_far ?_ NB214_227.out _;(with_reducible repeat (first|refine blk_drewN ?_ _|refine blk_drew ?_|refine blk_alloc ?_ _));refine blk_far ?_ NB214_249.out _;(with_reducible repeat (first|refine blk_drewN ?_ _|refine blk_drew ?_|refine blk_alloc ?_ _));refine blk_far ?_ NB214_249.out _;(with_reducible repeat (first|refine blk_drewN ?_ _|refine blk_drew ?_|refine blk_alloc ?_ _));refine blk_far ?_ NB214_249.out _;(with_reducible repeat (first|refine blk_drewN ?_ _|refine blk_drew ?_|refine blk_alloc ?_ _));exact BK214.out⟩,⟨by(with_reducible repeat (first|refine blk_drewN ?_ _|refine blk_drew ?_|refine blk_alloc ?_ _));apply bU3;(with_reducible repeat (first|refine blk_drewN ?_ _|refine blk_drew ?_|refine blk_alloc ?_ _));refine blk_far ?_ NB227_249.out _;(with_reducible repeat (first|refine blk_drewN ?_ _|refine blk_drew ?_|refine blk_alloc ?_ _));refine blk_far ?_ NB227_249.out _;(with_reducible repeat (first|refine blk_drewN ?_ _|refine blk_drew ?_|refine blk_alloc ?_ _));refine blk_far ?_ NB227_249.out _;(with_reducible repeat (first|refine blk_drewN ?_ _|refine blk_drew ?_|refine blk_alloc ?_ _));exact BK227.out⟩,⟨by repeat (first|(with_reducible first|exact HI0.out|apply IsS58.alloc|apply IsS58.drewN|apply IsS58.drew|apply IsS58.set_1|apply IsS58.set_2|apply IsS58.far (hne:=NB0_214.out)|apply IsS58.far (hne:=NB0_227.out)|apply IsS58.far (hne:=NB0_249.out))|exact HI0.out)⟩,⟨by repeat (first|(with_reducible first|exact HK.out|apply KeepBut.set_|apply keep_drewN|apply keep_drew|apply keep_alloc|refine keep_far ?_ GW214.out _|refine keep_far ?_ GW227.out _|refine keep_far ?_ GW249.out _)|exact HK.out)⟩,⟨by repeat (first|(with_reducible first|exact HB.out|apply below_alloc|apply pw_below_drewN|apply below_drew1|refine below_set ?_ (IsS58.ge HI0.out)|refine below_set ?_ GE214.out|refine below_set ?_ GE227.out|refine below_set ?_ GE249.out)|exact HB.out)⟩⟩
       ·replace c28:=Bool.eq_false_iff.mpr c28
        subst c28
        have H1:(spec_l1Cur_turns.l0 k2 (wrap64 (x5_2 - 1)) s0_0 t238 t239 x228000_2 x228001_2 x228002_2)=some (r1,r2,r3,r4,r5):=by rw[if_neg (show ¬ (false=true) by decide)] at H;exact H
        clear H
        have H:=H1
        clear H1
        have H':=am H
        clear H
        go_wp2_with (first|((with_reducible refine gate_callee (f:=36) rfl ?_);refine goesA (some 34) rfl rfl Try.func36 #[.pointer (some ⟨g,0,none⟩),.int .i64 5] rfl ?_;(with_reducible refine(spec_l1Cur_one.calls g s0_0 x1001_2 x1002_2 5 true t238 t239 w0 _ ?side1 ?side2 A25.out).mono ?_);(case side1=>repeat (first|(with_reducible first|exact HI0.out|apply IsS58.alloc|apply IsS58.drewN|apply IsS58.drew|apply IsS58.set_1|apply IsS58.set_2|apply IsS58.far (hne:=NB0_214.out)|apply IsS58.far (hne:=NB0_227.out))|exact HI0.out));(case side2=>repeat (first|(with_reducible first|exact HB.out|apply below_alloc|apply pw_below_drewN|apply below_drew1|refine below_set ?_ (IsS58.ge HI0.out)|refine below_set ?_ GE214.out|refine below_set ?_ GE227.out)|exact HB.out));rintro e w42 ⟨rfl,hi,hb,hk⟩;refine⟨_,rfl,?_⟩;have n0_:=am (Kd.S_mono (Kd.S_keep (IsS58.apartS (show IsS58 w0 _ g s0_0 x1001_2 x1002_2 from by repeat (first|(with_reducible first|exact HI0.out|apply IsS58.alloc|apply IsS58.drewN|apply IsS58.drew|apply IsS58.set_1|apply IsS58.set_2|apply IsS58.far (hne:=NB0_214.out)|apply IsS58.far (hne:=NB0_227.out))|exact HI0.out)) (by(with_reducible repeat (first|apply Kd.S_alloc|apply Kd.S_drewN|apply Kd.S_drew));exact HO_228001.out) (by decide)) hk (fun _ h=>h.2)) (fun _ h=>h.1));have n1_:=am (KeepBut.blk hk (g':=gb214) (o:=.cells #[.int .i64 0,.slice none 0 0,.int .i64 0] 25 (0,0)) (bL BK214.out) NB214_0.out (by simp));have n2_:=am (KeepBut.blk hk (g':=gb227) (o:=.cells #[.int .i64 x228000_2,u228001,.int .i64 x228002_2] 25 (0,0)) (bL BK227.out) NB227_0.out (by simp));have n3_:=am (KeepBut.trans (by repeat (first|(with_reducible first|exact HK.out|apply KeepBut.set_|apply keep_drewN|apply keep_drew|apply keep_alloc|refine keep_far ?_ GW214.out _|refine keep_far ?_ GW227.out _)|exact HK.out)) hk (.inl rfl));have n4_:=am (hb);have n5_:=am (hi);clear HO_228001 BK214 BK227 HK HB;(try clear HI0);have HO_228001:=n0_;have BK214:=n1_;have BK227:=n2_;have HK:=n3_;have HB:=n4_;have HI0:=n5_;clear n0_ n1_ n2_ n3_ n4_ n5_;(try clear hb);(try clear hb2);(try clear hk);(try clear hi);have hnb43:=NB227_214.out;have hnc43:=NB214_227.out;have hnb44:=NB227_0.out;have hnc44:=NB0_227.out;obtain⟨hcz45_0,hcz45_1,hcz45_2⟩:=cC3 BK227.out;obtain⟨hfz45_0,hfz45_1,hfz45_2⟩:=cF3 BK227.out;obtain⟨Ao46,co46,eo46⟩:=Kd.S_slice HO_228001.out;subst eo46)|((with_reducible refine gate_callee (f:=7) rfl ?_);refine goesA (some 37) rfl rfl Try.func7 #[.agg #[.int .i64 x228000_2,.slice Ao46 x228001_2.length co46,.int .i64 x228002_2]] rfl ?_;(with_reducible refine(spec_NextRound.calls k2 x228000_2 _ _ x228001_2 x228002_2 t240 t241 t244 t245 false _ ?side1 ?side2 A27.out).mono ?_);(case side1=>repeat (first|exact(Kd.S_reads' HO_228001.out).2.2|(with_reducible refine Kd.C_alloc ?_ _)|(with_reducible refine Kd.C_drewN ?_ _)|(with_reducible refine Kd.C_drew ?_)));(case side2=>exact(Kd.S_reads' HO_228001.out).2.1);rintro e w47 ⟨v242,v246,rfl,ho0,ho1,hb⟩;refine⟨_,rfl,?_⟩;have n0_:=am (Kd.S_mono (Kd.S_told (Kd.S_told (Kd.S_old (by(with_reducible repeat (first|apply Kd.S_alloc|apply Kd.S_drewN|apply Kd.S_drew));exact HO_228001.out) hb) (Kd.S_base ho0)) (Kd.R_base ho1)) (fun _ h_=>h_.1));have n1_:=am (Kd.S_lower (Kd.S_new' ho0 (Kd.S_lt (by(with_reducible repeat (first|apply Kd.S_alloc|apply Kd.S_drewN|apply Kd.S_drew));exact HO_228001.out))) (keep_size (w:=w) (g:=g) (row:=none) (by repeat (first|(with_reducible first|exact HK.out|apply KeepBut.set_|apply keep_drewN|apply keep_drew|apply keep_alloc|refine keep_far ?_ GW214.out _|refine keep_far ?_ GW227.out _)|exact HK.out))));have n2_:=am (Kd.R_lower ho1 (keep_size (w:=w) (g:=g) (row:=none) (by repeat (first|(with_reducible first|exact HK.out|apply KeepBut.set_|apply keep_drewN|apply keep_drew|apply keep_alloc|refine keep_far ?_ GW214.out _|refine keep_far ?_ GW227.out _)|exact HK.out))));have n3_:=am (bM BK214.out hb);have n4_:=am (bM BK227.out hb);have n5_:=am (IsS58.below (by repeat (first|(with_reducible first|exact HI0.out|apply IsS58.alloc|apply IsS58.drewN|apply IsS58.drew|apply IsS58.set_1|apply IsS58.set_2|apply IsS58.far (hne:=NB0_214.out)|apply IsS58.far (hne:=NB0_227.out))|exact HI0.out)) hb);have n6_:=am (KeepBut.trans (by repeat (first|(with_reducible first|exact HK.out|apply KeepBut.set_|apply keep_drewN|apply keep_drew|apply keep_alloc|refine keep_far ?_ GW214.out _|refine keep_far ?_ GW227.out _)|exact HK.out)) (KeepBut.of_below hb g none) (.inl rfl));have n7_:=am (below_step (by repeat (first|(with_reducible first|exact HB.out|apply below_alloc|apply pw_below_drewN|apply below_drew1|refine below_set ?_ (IsS58.ge HI0.out)|refine below_set ?_ GE214.out|refine below_set ?_ GE227.out)|exact HB.out)) hb);clear HO_228001 BK214 BK227;(try clear HI0);clear HK HB;have HO_228001:=n0_;have HO243:=n1_;have HO247:=n2_;have BK214:=n3_;have BK227:=n4_;have HI0:=n5_;have HK:=n6_;have HB:=n7_;clear n0_ n1_ n2_ n3_ n4_ n5_ n6_ n7_;(try clear hb);(try clear hb2);(try clear hk);(try clear hi);(try clear ho0);(try clear ho1))|((with_reducible refine gate_dst (N:=6) rfl ?_);refine box_event ?hg (N:=6) ?hd (cs:=#[.int .i64 0,.slice none 0 0,.int .i64 0]) (t:=25) ?hr ?_;(case hd=>rfl);(case hg=>rfl);(case hr=>first|(go_simp;done)|(go_simp;rfl));intro gb249 hg w48 hbox hb;have n0_:=am (Kd.S_below (by(with_reducible repeat (first|apply Kd.S_alloc|apply Kd.S_drewN|apply Kd.S_drew));exact HO_228001.out) hb);have n1_:=am (Kd.S_below (by(with_reducible repeat (first|apply Kd.S_alloc|apply Kd.S_drewN|apply Kd.S_drew));exact HO243.out) hb);have n2_:=am (Kd.R_below (bK HO247.out) hb);have n3_:=am (bM BK214.out hb);have n4_:=am (bM BK227.out hb);have n5_:=am (IsS58.below (by repeat (first|(with_reducible first|exact HI0.out|apply IsS58.alloc|apply IsS58.drewN|apply IsS58.drew|apply IsS58.set_1|apply IsS58.set_2|apply IsS58.far (hne:=NB0_214.out)|apply IsS58.far (hne:=NB0_227.out))|exact HI0.out)) hb);have n6_:=am (KeepBut.trans (by repeat (first|(with_reducible first|exact HK.out|apply KeepBut.set_|apply keep_drewN|apply keep_drew|apply keep_alloc|refine keep_far ?_ GW214.out _|refine keep_far ?_ GW227.out _)|exact HK.out)) (KeepBut.of_below hb g none) (.inl rfl));have n7_:=am (below_step (by repeat (first|(with_reducible first|exact HB.out|apply below_alloc|apply pw_below_drewN|apply below_drew1|refine below_set ?_ (IsS58.ge HI0.out)|refine below_set ?_ GE214.out|refine below_set ?_ GE227.out)|exact HB.out)) hb);have n8_:=am (hbox);have n9_:=am ((by rw[hg];exact(keep_size (w:=w) (g:=g) (row:=none) (by repeat (first|(with_reducible first|exact HK.out|apply KeepBut.set_|apply keep_drewN|apply keep_drew|apply keep_alloc|refine keep_far ?_ GW214.out _|refine keep_far ?_ GW227.out _)|exact HK.out))):w.heap.size≤gb249));have n10_:=am ((Nat.le_trans HW0.out (by rw[hg];exact(keep_size (w:=w) (g:=g) (row:=none) (by repeat (first|(with_reducible first|exact HK.out|apply KeepBut.set_|apply keep_drewN|apply keep_drew|apply keep_alloc|refine keep_far ?_ GW214.out _|refine keep_far ?_ GW227.out _)|exact HK.out))):w.heap.size≤gb249):w0.heap.size≤gb249));have n11_:=am ((bN BK214.out hg:gb214≠gb249));have n12_:=am ((bO BK214.out hg:gb249≠gb214));have n13_:=am ((bN BK227.out hg:gb227≠gb249));have n14_:=am ((bO BK227.out hg:gb249≠gb227));have n15_:=am ((by rw[hg];exact Nat.ne_of_lt (IsS58.lt (show IsS58 w0 _ g s0_0 t238 t239 from by repeat (first|(with_reducible first|exact HI0.out|apply IsS58.alloc|apply IsS58.drewN|apply IsS58.drew|apply IsS58.set_1|apply IsS58.set_2|apply IsS58.far (hne:=NB0_214.out)|apply IsS58.far (hne:=NB0_227.out))|exact HI0.out))):g≠gb249));have n16_:=am ((by rw[hg];exact Nat.ne_of_gt (IsS58.lt (show IsS58 w0 _ g s0_0 t238 t239 from by repeat (first|(with_reducible first|exact HI0.out|apply IsS58.alloc|apply IsS58.drewN|apply IsS58.drew|apply IsS58.set_1|apply IsS58.set_2|apply IsS58.far (hne:=NB0_214.out)|apply IsS58.far (hne:=NB0_227.out))|exact HI0.out))):gb249≠g));clear HO_228001 HO243 HO247 BK214 BK227;(try clear HI0);clear HK HB;have HO_228001:=n0_;have HO243:=n1_;have HO247:=n2_;have BK214:=n3_;have BK227:=n4_;have HI0:=n5_;have HK:=n6_;have HB:=n7_;have BK249:=n8_;have GW249:=n9_;have GE249:=n10_;have NB214_249:=n11_;have NB249_214:=n12_;have NB227_249:=n13_;have NB249_227:=n14_;have NB0_249:=n15_;have NB249_0:=n16_;clear n0_ n1_ n2_ n3_ n4_ n5_ n6_ n7_ n8_ n9_ n10_ n11_ n12_ n13_ n14_ n15_ n16_;clear hb hbox hg;have hnb49:=NB249_214.out;have hnc49:=NB214_249.out;have hnb50:=NB249_227.out;have hnc50:=NB227_249.out;have hnb51:=NB249_0.out;have hnc51:=NB0_249.out;obtain⟨hcz52_0,hcz52_1,hcz52_2⟩:=cC3 BK249.out;obtain⟨hfz52_0,hfz52_1,hfz52_2⟩:=cF3 BK249.out;obtain⟨Ao53,co53,eo53⟩:=Kd.S_slice HO243.out;subst eo53))
        go_roundg k2
        case measure=>have:=HJ4.out;have:=HK2.out;omega
        case rel=>exact⟨(wrap64 (x5_2 - 1)),(t238),(t239),(x228000_2),(x228001_2),(x228002_2),(.slice Ao46 x228001_2.length co46),(bR),H',⟨by have:=HJ4.out;have:=HK2.out;omega⟩,⟨by(with_reducible repeat (first|apply Kd.S_alloc|apply Kd.S_drewN|apply Kd.S_drew));exact Kd.S_mono (Kd.S_far (p:=⟨gb249,2,none⟩) (Kd.S_far (p:=⟨gb249,1,none⟩) (Kd.S_far (p:=⟨gb249,0,none⟩) (Kd.S_types HO_228001.out BK249.out (by decide)) (fun _ hk=>hk.2) (.int .i64 t240)) (fun _ hk=>hk.2) (.slice Ao53 t241.length co53)) (fun _ hk=>hk.2) (.int .i64 t244)) (fun _ hk=>trivial)⟩,⟨by(with_reducible repeat (first|refine blk_drewN ?_ _|refine blk_drew ?_|refine blk_alloc ?_ _));refine blk_far ?_ NB214_249.out _;(with_reducible repeat (first|refine blk_drewN ?_ _|refine blk_drew ?_|refine blk_alloc ?_ _));refine blk_far ?_ NB214_249.out _;(with_reducible repeat (first|refine blk_drewN ?_ _|refine blk_drew ?_|refine blk_alloc ?_ _));refine blk_far ?_ NB214_249.out _;(with_reducible repeat (first|refine blk_drewN ?_ _|refine blk_drew ?_|refine blk_alloc ?_ _));exact BK214.out⟩,⟨by(with_reducible repeat (first|refine blk_drewN ?_ _|refine blk_drew ?_|refine blk_alloc ?_ _));refine blk_far ?_ NB227_249.out _;(with_reducible repeat (first|refine blk_drewN ?_ _|refine blk_drew ?_|refine blk_alloc ?_ _));refine blk_far ?_ NB227_249.out _;(with_reducible repeat (first|refine blk_drewN ?_ _|refine blk_drew ?_|refine blk_alloc ?_ _));refine blk_far ?_ NB227_249.out _;(with_reducible repeat (first|refine blk_drewN ?_ _|refine blk_drew ?_|refine blk_alloc ?_ _));exact BK227.out⟩,⟨by repeat (first|(with_reducible first|exact HI0.out|apply IsS58.alloc|apply IsS58.drewN|apply IsS58.drew|apply IsS58.set_1|apply IsS58.set_2|apply IsS58.far (hne:=NB0_214.out)|apply IsS58.far (hne:=NB0_227.out)|apply IsS58.far (hne:=NB0_249.out))|exact HI0.out)⟩,⟨by repeat (first|(with_reducible first|exact HK.out|apply KeepBut.set_|apply keep_drewN|apply keep_drew|apply keep_alloc|refine keep_far ?_ GW214.out _|refine keep_far ?_ GW227.out _|refine keep_far ?_ GW249.out _)|exact HK.out)⟩,⟨by repeat (first|(with_reducible first|exact HB.out|apply below_alloc|apply pw_below_drewN|apply below_drew1|refine below_set ?_ (IsS58.ge HI0.out)|refine below_set ?_ GE214.out|refine below_set ?_ GE227.out|refine below_set ?_ GE249.out)|exact HB.out)⟩⟩
      ·replace c26:=Bool.eq_false_iff.mpr c26
       subst c26
       have H1:((spec_l1Cur_pick.f s0_0 t238 t239 (x228001_2.length:Int)).bind fun bt250=>((spec_l1Cur_pick.f s0_0 bt250.2.1 bt250.2.2 30).bind fun bt253=>((spec_PutLong.f k2 x228000_2 x228001_2 x228002_2 bt250.1 (wrap64 (1+bt253.1))).bind fun bt256=>(if bt256.2.2.2=true then (spec_l1Cur_turns.l0 k2 (wrap64 (x5_2 - 1)) s0_0 bt253.2.1 bt253.2.2 bt256.1 bt256.2.1 bt256.2.2.1) else (spec_l1Cur_turns.l0 k2 (wrap64 (x5_2 - 1)) s0_0 bt253.2.1 bt253.2.2 x228000_2 x228001_2 x228002_2)))))=some (r1,r2,r3,r4,r5):=by rw[if_neg (show ¬ (false=true) by decide)] at H;exact H
       clear H
       have H:=H1
       clear H1
       replace H:=bI_ H
       obtain⟨⟨t250,t251,t252⟩,A540,H⟩:=H
       replace H:((spec_l1Cur_pick.f s0_0 t251 t252 30).bind fun bt253=>((spec_PutLong.f k2 x228000_2 x228001_2 x228002_2 t250 (wrap64 (1+bt253.1))).bind fun bt256=>(if bt256.2.2.2=true then (spec_l1Cur_turns.l0 k2 (wrap64 (x5_2 - 1)) s0_0 bt253.2.1 bt253.2.2 bt256.1 bt256.2.1 bt256.2.2.1) else (spec_l1Cur_turns.l0 k2 (wrap64 (x5_2 - 1)) s0_0 bt253.2.1 bt253.2.2 x228000_2 x228001_2 x228002_2))))=some (r1,r2,r3,r4,r5):=H
       have A54:=am A540
       clear A540
       replace H:=bI_ H
       obtain⟨⟨t253,t254,t255⟩,A550,H⟩:=H
       replace H:((spec_PutLong.f k2 x228000_2 x228001_2 x228002_2 t250 (wrap64 (1+t253))).bind fun bt256=>(if bt256.2.2.2=true then (spec_l1Cur_turns.l0 k2 (wrap64 (x5_2 - 1)) s0_0 t254 t255 bt256.1 bt256.2.1 bt256.2.2.1) else (spec_l1Cur_turns.l0 k2 (wrap64 (x5_2 - 1)) s0_0 t254 t255 x228000_2 x228001_2 x228002_2)))=some (r1,r2,r3,r4,r5):=H
       have A55:=am A550
       clear A550
       replace H:=bI_ H
       obtain⟨⟨t256,t257,t260,t261⟩,A560,H⟩:=H
       replace H:(if t261=true then (spec_l1Cur_turns.l0 k2 (wrap64 (x5_2 - 1)) s0_0 t254 t255 t256 t257 t260) else (spec_l1Cur_turns.l0 k2 (wrap64 (x5_2 - 1)) s0_0 t254 t255 x228000_2 x228001_2 x228002_2))=some (r1,r2,r3,r4,r5):=H
       have A56:=am A560
       clear A560
       by_cases c57:t261=true
       ·subst c57
        have H1:(spec_l1Cur_turns.l0 k2 (wrap64 (x5_2 - 1)) s0_0 t254 t255 t256 t257 t260)=some (r1,r2,r3,r4,r5):=by rw[if_pos rfl] at H;exact H
        clear H
        have H:=H1
        clear H1
        have H':=am H
        clear H
        try go_wp2_with (first|((with_reducible refine gate_callee (f:=36) rfl ?_);refine goesA (some 34) rfl rfl Try.func36 #[.pointer (some ⟨g,0,none⟩),.int .i64 5] rfl ?_;(with_reducible refine(spec_l1Cur_one.calls g s0_0 x1001_2 x1002_2 5 false t238 t239 w0 _ ?side1 ?side2 A25.out).mono ?_);(case side1=>repeat (first|(with_reducible first|exact HI0.out|apply IsS58.alloc|apply IsS58.drewN|apply IsS58.drew|apply IsS58.set_1|apply IsS58.set_2|apply IsS58.far (hne:=NB0_214.out)|apply IsS58.far (hne:=NB0_227.out))|exact HI0.out));(case side2=>repeat (first|(with_reducible first|exact HB.out|apply below_alloc|apply pw_below_drewN|apply below_drew1|refine below_set ?_ (IsS58.ge HI0.out)|refine below_set ?_ GE214.out|refine below_set ?_ GE227.out)|exact HB.out));rintro e w58 ⟨rfl,hi,hb,hk⟩;refine⟨_,rfl,?_⟩;have n0_:=am (Kd.S_mono (Kd.S_keep (IsS58.apartS (show IsS58 w0 _ g s0_0 x1001_2 x1002_2 from by repeat (first|(with_reducible first|exact HI0.out|apply IsS58.alloc|apply IsS58.drewN|apply IsS58.drew|apply IsS58.set_1|apply IsS58.set_2|apply IsS58.far (hne:=NB0_214.out)|apply IsS58.far (hne:=NB0_227.out))|exact HI0.out)) (by(with_reducible repeat (first|apply Kd.S_alloc|apply Kd.S_drewN|apply Kd.S_drew));exact HO_228001.out) (by decide)) hk (fun _ h=>h.2)) (fun _ h=>h.1));have n1_:=am (KeepBut.blk hk (g':=gb214) (o:=.cells #[.int .i64 0,.slice none 0 0,.int .i64 0] 25 (0,0)) (bL BK214.out) NB214_0.out (by simp));have n2_:=am (KeepBut.blk hk (g':=gb227) (o:=.cells #[.int .i64 x228000_2,u228001,.int .i64 x228002_2] 25 (0,0)) (bL BK227.out) NB227_0.out (by simp));have n3_:=am (KeepBut.trans (by repeat (first|(with_reducible first|exact HK.out|apply KeepBut.set_|apply keep_drewN|apply keep_drew|apply keep_alloc|refine keep_far ?_ GW214.out _|refine keep_far ?_ GW227.out _)|exact HK.out)) hk (.inl rfl));have n4_:=am (hb);have n5_:=am (hi);clear HO_228001 BK214 BK227 HK HB;(try clear HI0);have HO_228001:=n0_;have BK214:=n1_;have BK227:=n2_;have HK:=n3_;have HB:=n4_;have HI0:=n5_;clear n0_ n1_ n2_ n3_ n4_ n5_;(try clear hb);(try clear hb2);(try clear hk);(try clear hi);obtain⟨Ao59,co59,eo59⟩:=Kd.S_slice HO_228001.out;subst eo59))
        (try (rw[drewN_self w58];generalize hq_:World.drewN w58 _=w58;have n0_:=am (Kd.S_at hq_ HO_228001.out);have n1_:=am (blk_at hq_ BK214.out);have n2_:=am (blk_at hq_ BK227.out);have n3_:=am (IsS58.at_ hq_ HI0.out);have n4_:=am (keep_at hq_ HK.out);have n5_:=am (below_at hq_ HB.out);clear hq_ HO_228001 BK214 BK227 HI0 HK HB;have HO_228001:=n0_;have BK214:=n1_;have BK227:=n2_;have HI0:=n3_;have HK:=n4_;have HB:=n5_;clear n0_ n1_ n2_ n3_ n4_ n5_))
        have n0_:=am (Kd.S_drew HO_228001.out)
        have n1_:=am (blk_drew BK214.out)
        have n2_:=am (blk_drew BK227.out)
        have n3_:=am (IsS58.drew HI0.out)
        have n4_:=am (keep_drew HK.out)
        have n5_:=am (below_drew1 HB.out)
        clear HO_228001 BK214 BK227 HI0 HK HB
        have HO_228001:=n0_
        have BK214:=n1_
        have BK227:=n2_
        have HI0:=n3_
        have HK:=n4_
        have HB:=n5_
        clear n0_ n1_ n2_ n3_ n4_ n5_
        refine start_ (n:=16) (S:=fun w'=>w'.cell? ⟨gb227,0,none⟩=some (.int .i64 x228000_2)∧w'.cell? ⟨gb227,1,none⟩=some (.slice Ao59 x228001_2.length co59)∧w'.cell? ⟨gb227,2,none⟩=some (.int .i64 x228002_2)) (ds:=[]) #[false,false,false,false,false,false,false,false,false,false,false,false,false,false,false,false] (by kernel_rfl) rfl rfl (cC3 BK227.out) (fun hHeld => ?_);refine with_tabW spec_l1Cur_turns.tab11 spec_l1Cur_turns.bits11 (fun HT_ HW_ => ?_)
        generalize w58.drew=w60 at HO_228001 BK214 BK227 HI0 HK HB hHeld ⊢
        refine pS HT_ 1 45 ?_;refine pS HT_ 2 46 ?_;refine pS HT_ 6 50 ?_;refine tS HT_ HW_ hHeld 0 44 ?_;refine tS HT_ HW_ hHeld 3 47 ?_;refine pS HT_ 4 48 ?_
        refine join_ (σ:=Value × Nat) 2 #[true,true,true,true,true,true,true,true,true,true,true,true,true,true,false,false] (fun s_=>[(49,.int .i64 t250),(51,.int .i64 t253),(53,.tuple #[.agg #[.int .i64 t256,s_.1,.int .i64 t260],.bool true]),(9,.pointer (some ⟨s_.2,0,none⟩)),(52,.int .i64 (wrap64 (1+t253))),(43,.tuple #[.agg #[.int .i64 t256,s_.1,.int .i64 t260],.bool true]),(54,.agg #[.int .i64 t256,s_.1,.int .i64 t260]),(55,.bool true)]) (fun s_ w'=>(w'.cell? ⟨gb227,0,none⟩=some (.int .i64 x228000_2)∧w'.cell? ⟨gb227,1,none⟩=some (.slice Ao59 x228001_2.length co59)∧w'.cell? ⟨gb227,2,none⟩=some (.int .i64 x228002_2))∧(Kd.S k34 34 w' w.heap.size (fun k_=>some k_≠(.slice Ao59 x228001_2.length co59:Value).ownBlock) s_.1 t257)∧(Kd.S k34 34 w' w.heap.size (fun k_=>some k_≠(s_.1:Value).ownBlock) (.slice Ao59 x228001_2.length co59) x228001_2)∧(w'.heap[gb214]?=some (.cells #[.int .i64 0,.slice none 0 0,.int .i64 0] 25 (0,0)))∧(w'.heap[gb227]?=some (.cells #[.int .i64 x228000_2,.slice Ao59 x228001_2.length co59,.int .i64 x228002_2] 25 (0,0)))∧(w'.heap[s_.2]?=some (.cells #[.int .i64 0,.slice none 0 0,.int .i64 0] 25 (0,0)))∧(w.heap.size≤s_.2)∧(w0.heap.size≤s_.2)∧(g≠s_.2)∧(s_.2≠g)∧(gb214≠s_.2)∧(s_.2≠gb214)∧(gb227≠s_.2)∧(s_.2≠gb227)∧(IsS58 w0 w' g s0_0 t254 t255)∧(KeepBut w w' g none)∧(Below w0.heap.size w0 w')) ?_ ?_
        rotate_left
        ·intro hCont
         refine two_ (i:=5) (j:=13) (Ni:=some 49) (Nj:=some 9) #[true,true,true,true,true,true,true,false,false,false,false,false,false,false,false,false] #[true,true,true,true,true,false,true,false,false,false,false,false,false,true,false,false] rfl rfl rfl rfl (two_of HT_.out (by kernel_rfl)) (by decide) (by decide) (fun K hK => ?_) (fun K hK => ?_)
         ·skip
          refine goes_ Try.func29 (by kernel_rfl) rfl #[.pointer (some ⟨g,0,none⟩),.int .i64 (x228001_2.length:Int)] (by rfl) rfl rfl (by(try simp only[List.map_toArray,List.map_cons,List.map_nil]);first|done|rfl|(simp only[List.length_drop,List.length_take];rfl)) ?_
          with_reducible refine(spec_l1Cur_pick.calls g s0_0 t238 t239 (x228001_2.length:Int) t250 t251 t252 w0 _ ?side1 ?side2 A54.out).mono ?_
          (case side1=>repeat (first|(with_reducible first|exact HI0.out|apply IsS58.alloc|apply IsS58.drewN|apply IsS58.drew|apply IsS58.set_1|apply IsS58.set_2|apply IsS58.far (hne:=NB0_214.out)|apply IsS58.far (hne:=NB0_227.out))|exact HI0.out))
          (case side2=>repeat (first|(with_reducible first|exact HB.out|apply below_alloc|apply pw_below_drewN|apply below_drew1|refine below_set ?_ (IsS58.ge HI0.out)|refine below_set ?_ GE214.out|refine below_set ?_ GE227.out)|exact HB.out))
          rintro e w61 ⟨rfl,hi,hb,hk⟩
          refine⟨_,rfl,?_⟩
          have n0_:=am (Kd.S_mono (Kd.S_keep (IsS58.apartS (show IsS58 w0 _ g s0_0 t238 t239 from by repeat (first|(with_reducible first|exact HI0.out|apply IsS58.alloc|apply IsS58.drewN|apply IsS58.drew|apply IsS58.set_1|apply IsS58.set_2|apply IsS58.far (hne:=NB0_214.out)|apply IsS58.far (hne:=NB0_227.out))|exact HI0.out)) (by(with_reducible repeat (first|apply Kd.S_alloc|apply Kd.S_drewN|apply Kd.S_drew));exact HO_228001.out) (by decide)) hk (fun _ h=>h.2)) (fun _ h=>h.1))
          have n1_:=am (KeepBut.blk hk (g':=gb214) (o:=.cells #[.int .i64 0,.slice none 0 0,.int .i64 0] 25 (0,0)) (bL BK214.out) NB214_0.out (by simp))
          have n2_:=am (KeepBut.blk hk (g':=gb227) (o:=.cells #[.int .i64 x228000_2,.slice Ao59 x228001_2.length co59,.int .i64 x228002_2] 25 (0,0)) (bL BK227.out) NB227_0.out (by simp))
          have n3_:=am (KeepBut.trans (by repeat (first|(with_reducible first|exact HK.out|apply KeepBut.set_|apply keep_drewN|apply keep_drew|apply keep_alloc|refine keep_far ?_ GW214.out _|refine keep_far ?_ GW227.out _)|exact HK.out)) hk (.inl rfl))
          have n4_:=am (hb)
          have n5_:=am (hi)
          clear HO_228001 BK214 BK227 HK HB HI0
          have HO_228001:=n0_
          have BK214:=n1_
          have BK227:=n2_
          have HK:=n3_
          have HB:=n4_
          have HI0:=n5_
          clear n0_ n1_ n2_ n3_ n4_ n5_
          (try clear hb)
          (try clear hb2)
          (try clear hk)
          (try clear hi)
          refine hK.out _ _ (cC3 BK227.out) (fun hHeld => ?_)
          clear hK K
          refine norm_ (a':=?_) ?_ ?_
          rotate_left
          ·show Act.put _ (some 49) _=_
           simp only[Act.put,zA,zB,zC,i64_w,i32_w]
           rfl
          refine two_ (i:=7) (j:=13) (Ni:=some 51) (Nj:=some 9) #[true,true,true,true,true,true,true,true,false,false,false,false,false,false,false,false] #[true,true,true,true,true,true,true,false,false,false,false,false,false,true,false,false] rfl rfl rfl rfl (two_of HT_.out (by kernel_rfl)) (by decide) (by decide) (fun K hK => ?_) (fun K hK => ?_)
          ·skip
           refine goes_ Try.func29 (by kernel_rfl) rfl #[.pointer (some ⟨g,0,none⟩),.int .i64 30] (by rfl) rfl rfl (by(try simp only[List.map_toArray,List.map_cons,List.map_nil]);first|done|rfl|(simp only[List.length_drop,List.length_take];rfl)) ?_
           with_reducible refine(spec_l1Cur_pick.calls g s0_0 t251 t252 30 t253 t254 t255 w0 _ ?side1 ?side2 A55.out).mono ?_
           (case side1=>repeat (first|(with_reducible first|exact HI0.out|apply IsS58.alloc|apply IsS58.drewN|apply IsS58.drew|apply IsS58.set_1|apply IsS58.set_2|apply IsS58.far (hne:=NB0_214.out)|apply IsS58.far (hne:=NB0_227.out))|exact HI0.out))
           (case side2=>repeat (first|(with_reducible first|exact HB.out|apply below_alloc|apply pw_below_drewN|apply below_drew1|refine below_set ?_ (IsS58.ge HI0.out)|refine below_set ?_ GE214.out|refine below_set ?_ GE227.out)|exact HB.out))
           rintro e w62 ⟨rfl,hi,hb,hk⟩
           refine⟨_,rfl,?_⟩
           have n0_:=am (Kd.S_mono (Kd.S_keep (IsS58.apartS (show IsS58 w0 _ g s0_0 t251 t252 from by repeat (first|(with_reducible first|exact HI0.out|apply IsS58.alloc|apply IsS58.drewN|apply IsS58.drew|apply IsS58.set_1|apply IsS58.set_2|apply IsS58.far (hne:=NB0_214.out)|apply IsS58.far (hne:=NB0_227.out))|exact HI0.out)) (by(with_reducible repeat (first|apply Kd.S_alloc|apply Kd.S_drewN|apply Kd.S_drew));exact HO_228001.out) (by decide)) hk (fun _ h=>h.2)) (fun _ h=>h.1))
           have n1_:=am (KeepBut.blk hk (g':=gb214) (o:=.cells #[.int .i64 0,.slice none 0 0,.int .i64 0] 25 (0,0)) (bL BK214.out) NB214_0.out (by simp))
           have n2_:=am (KeepBut.blk hk (g':=gb227) (o:=.cells #[.int .i64 x228000_2,.slice Ao59 x228001_2.length co59,.int .i64 x228002_2] 25 (0,0)) (bL BK227.out) NB227_0.out (by simp))
           have n3_:=am (KeepBut.trans (by repeat (first|(with_reducible first|exact HK.out|apply KeepBut.set_|apply keep_drewN|apply keep_drew|apply keep_alloc|refine keep_far ?_ GW214.out _|refine keep_far ?_ GW227.out _)|exact HK.out)) hk (.inl rfl))
           have n4_:=am (hb)
           have n5_:=am (hi)
           clear HO_228001 BK214 BK227 HK HB HI0
           have HO_228001:=n0_
           have BK214:=n1_
           have BK227:=n2_
           have HK:=n3_
           have HB:=n4_
           have HI0:=n5_
           clear n0_ n1_ n2_ n3_ n4_ n5_
           (try clear hb)
           (try clear hb2)
           (try clear hk)
           (try clear hi)
           refine hK.out _ _ (cC3 BK227.out) (fun hHeld => ?_)
           clear hK K
           refine norm_ (a':=?_) ?_ ?_
           rotate_left
           ·show Act.put _ (some 51) _=_
            simp only[Act.put,zA,zB,zC,i64_w,i32_w]
            rfl
           refine pS HT_ 8 52 ?_
           refine two_ (i:=9) (j:=13) (Ni:=some 53) (Nj:=some 9) #[true,true,true,true,true,true,true,true,true,true,false,false,false,false,false,false] #[true,true,true,true,true,true,true,true,true,false,false,false,false,true,false,false] rfl rfl rfl rfl (two_of HT_.out (by kernel_rfl)) (by decide) (by decide) (fun K hK => ?_) (fun K hK => ?_)
           ·skip
            refine goes_ Try.func14 (by kernel_rfl) rfl #[.agg #[.int .i64 x228000_2,.slice Ao59 x228001_2.length co59,.int .i64 x228002_2],.int .i64 t250,.int .i64 (wrap64 (1+t253))] (by rfl) rfl rfl (by(try simp only[List.map_toArray,List.map_cons,List.map_nil]);first|done|rfl|(simp only[List.length_drop,List.length_take];rfl)) ?_
            with_reducible refine(spec_PutLong.calls k2 x228000_2 _ _ x228001_2 x228002_2 t250 (wrap64 (1+t253)) t256 t257 t260 true _ ?side1 ?side2 A56.out).mono ?_
            (case side1=>repeat (first|exact(Kd.S_reads' HO_228001.out).2.2|(with_reducible refine Kd.C_alloc ?_ _)|(with_reducible refine Kd.C_drewN ?_ _)|(with_reducible refine Kd.C_drew ?_)))
            (case side2=>exact(Kd.S_reads' HO_228001.out).2.1)
            rintro e w63 ⟨v258,rfl,ho0,hb⟩
            refine⟨_,rfl,?_⟩
            have n0_:=am (Kd.S_elder' (by(with_reducible repeat (first|apply Kd.S_alloc|apply Kd.S_drewN|apply Kd.S_drew));exact HO_228001.out) (Kd.S_base ho0) hb)
            have n1_:=am (Kd.S_lower (Kd.S_new' ho0 (Kd.S_lt (by(with_reducible repeat (first|apply Kd.S_alloc|apply Kd.S_drewN|apply Kd.S_drew));exact HO_228001.out))) (keep_size (w:=w) (g:=g) (row:=none) (by repeat (first|(with_reducible first|exact HK.out|apply KeepBut.set_|apply keep_drewN|apply keep_drew|apply keep_alloc|refine keep_far ?_ GW214.out _|refine keep_far ?_ GW227.out _)|exact HK.out))))
            have n2_:=am (bM BK214.out hb)
            have n3_:=am (bM BK227.out hb)
            have n4_:=am (IsS58.below (by repeat (first|(with_reducible first|exact HI0.out|apply IsS58.alloc|apply IsS58.drewN|apply IsS58.drew|apply IsS58.set_1|apply IsS58.set_2|apply IsS58.far (hne:=NB0_214.out)|apply IsS58.far (hne:=NB0_227.out))|exact HI0.out)) hb)
            have n5_:=am (KeepBut.trans (by repeat (first|(with_reducible first|exact HK.out|apply KeepBut.set_|apply keep_drewN|apply keep_drew|apply keep_alloc|refine keep_far ?_ GW214.out _|refine keep_far ?_ GW227.out _)|exact HK.out)) (KeepBut.of_below hb g none) (.inl rfl))
            have n6_:=am (below_step (by repeat (first|(with_reducible first|exact HB.out|apply below_alloc|apply pw_below_drewN|apply below_drew1|refine below_set ?_ (IsS58.ge HI0.out)|refine below_set ?_ GE214.out|refine below_set ?_ GE227.out)|exact HB.out)) hb)
            clear HO_228001 BK214 BK227 HI0 HK HB
            have HO_228001:=n0_
            have HO259:=n1_
            have BK214:=n2_
            have BK227:=n3_
            have HI0:=n4_
            have HK:=n5_
            have HB:=n6_
            clear n0_ n1_ n2_ n3_ n4_ n5_ n6_
            (try clear hb)
            (try clear hb2)
            (try clear hk)
            (try clear hi)
            (try clear ho0)
            refine hK.out _ _ (cC3 BK227.out) (fun hHeld => ?_)
            clear hK K
            refine norm_ (a':=?_) ?_ ?_
            rotate_left
            ·show Act.put _ (some 53) _=_
             simp only[Act.put,zA,zB,zC,i64_w,i32_w]
             rfl
            refine pS HT_ 10 43 ?_;refine pS HT_ 11 54 ?_;refine pS HT_ 12 55 ?_
            refine one_ (i:=13) (N:=some 9) #[true,true,true,true,true,true,true,true,true,true,true,true,true,true,false,false] rfl rfl (one_of HT_.out (by kernel_rfl)) (by decide) (fun K hK => ?_)
            refine box_step ?hg (N:=9) ?hd (cs:=#[.int .i64 0,.slice none 0 0,.int .i64 0]) (t:=25) ?hr ?_;(case hd=>rfl);(case hg=>rfl);(case hr=>first|(go_simp;done)|(go_simp;rfl))
            intro gb262 hg w64 hbox hb
            have n0_:=am (Kd.S_below (by(with_reducible repeat (first|apply Kd.S_alloc|apply Kd.S_drewN|apply Kd.S_drew));exact HO_228001.out) hb)
            have n1_:=am (Kd.S_below (by(with_reducible repeat (first|apply Kd.S_alloc|apply Kd.S_drewN|apply Kd.S_drew));exact HO259.out) hb)
            have n2_:=am (bM BK214.out hb)
            have n3_:=am (bM BK227.out hb)
            have n4_:=am (IsS58.below (by repeat (first|(with_reducible first|exact HI0.out|apply IsS58.alloc|apply IsS58.drewN|apply IsS58.drew|apply IsS58.set_1|apply IsS58.set_2|apply IsS58.far (hne:=NB0_214.out)|apply IsS58.far (hne:=NB0_227.out))|exact HI0.out)) hb)
            have n5_:=am (KeepBut.trans (by repeat (first|(with_reducible first|exact HK.out|apply KeepBut.set_|apply keep_drewN|apply keep_drew|apply keep_alloc|refine keep_far ?_ GW214.out _|refine keep_far ?_ GW227.out _)|exact HK.out)) (KeepBut.of_below hb g none) (.inl rfl))
            have n6_:=am (below_step (by repeat (first|(with_reducible first|exact HB.out|apply below_alloc|apply pw_below_drewN|apply below_drew1|refine below_set ?_ (IsS58.ge HI0.out)|refine below_set ?_ GE214.out|refine below_set ?_ GE227.out)|exact HB.out)) hb)
            have n7_:=am (hbox)
            have n8_:=am ((by rw[hg];exact(keep_size (w:=w) (g:=g) (row:=none) (by repeat (first|(with_reducible first|exact HK.out|apply KeepBut.set_|apply keep_drewN|apply keep_drew|apply keep_alloc|refine keep_far ?_ GW214.out _|refine keep_far ?_ GW227.out _)|exact HK.out))):w.heap.size≤gb262))
            have n9_:=am ((Nat.le_trans HW0.out (by rw[hg];exact(keep_size (w:=w) (g:=g) (row:=none) (by repeat (first|(with_reducible first|exact HK.out|apply KeepBut.set_|apply keep_drewN|apply keep_drew|apply keep_alloc|refine keep_far ?_ GW214.out _|refine keep_far ?_ GW227.out _)|exact HK.out))):w.heap.size≤gb262):w0.heap.size≤gb262))
            have n10_:=am ((bN BK214.out hg:gb214≠gb262))
            have n11_:=am ((bO BK214.out hg:gb262≠gb214))
            have n12_:=am ((bN BK227.out hg:gb227≠gb262))
            have n13_:=am ((bO BK227.out hg:gb262≠gb227))
            have n14_:=am ((by rw[hg];exact Nat.ne_of_lt (IsS58.lt (show IsS58 w0 _ g s0_0 t254 t255 from by repeat (first|(with_reducible first|exact HI0.out|apply IsS58.alloc|apply IsS58.drewN|apply IsS58.drew|apply IsS58.set_1|apply IsS58.set_2|apply IsS58.far (hne:=NB0_214.out)|apply IsS58.far (hne:=NB0_227.out))|exact HI0.out))):g≠gb262))
            have n15_:=am ((by rw[hg];exact Nat.ne_of_gt (IsS58.lt (show IsS58 w0 _ g s0_0 t254 t255 from by repeat (first|(with_reducible first|exact HI0.out|apply IsS58.alloc|apply IsS58.drewN|apply IsS58.drew|apply IsS58.set_1|apply IsS58.set_2|apply IsS58.far (hne:=NB0_214.out)|apply IsS58.far (hne:=NB0_227.out))|exact HI0.out))):gb262≠g))
            clear HO_228001 HO259 BK214 BK227 HI0 HK HB
            have HO_228001:=n0_
            have HO259:=n1_
            have BK214:=n2_
            have BK227:=n3_
            have HI0:=n4_
            have HK:=n5_
            have HB:=n6_
            have BK262:=n7_
            have GW262:=n8_
            have GE262:=n9_
            have NB214_262:=n10_
            have NB262_214:=n11_
            have NB227_262:=n12_
            have NB262_227:=n13_
            have NB0_262:=n14_
            have NB262_0:=n15_
            clear n0_ n1_ n2_ n3_ n4_ n5_ n6_ n7_ n8_ n9_ n10_ n11_ n12_ n13_ n14_ n15_ hb hbox hg
            refine hK.out _ _ (cC3 BK227.out) (fun hHeld => ?_)
            clear hK K
            refine norm_ (a':=?_) ?_ ?_
            rotate_left
            ·show Act.put _ (some 9) _=_
             simp only[Act.put,zA,zB,zC,i64_w,i32_w]
             rfl
            exact norm_ (by simp only[putAll,Act.put,zA,zB,zC]) (hCont (v258,gb262) _ ⟨hHeld,(by(with_reducible repeat (first|apply Kd.S_alloc|apply Kd.S_drewN|apply Kd.S_drew));exact Kd.S_mono HO259.out (fun _ hk=>hk.2)),(by(with_reducible repeat (first|apply Kd.S_alloc|apply Kd.S_drewN|apply Kd.S_drew));exact Kd.S_mono HO_228001.out (fun _ hk=>hk.2)),(bL BK214.out),(bL BK227.out),(bL BK262.out),GW262.out,GE262.out,NB0_262.out,NB262_0.out,NB214_262.out,NB262_214.out,NB227_262.out,NB262_227.out,(by repeat (first|(with_reducible first|exact HI0.out|apply IsS58.alloc|apply IsS58.drewN|apply IsS58.drew|apply IsS58.set_1|apply IsS58.set_2|apply IsS58.far (hne:=NB0_214.out)|apply IsS58.far (hne:=NB0_227.out)|apply IsS58.far (hne:=NB0_262.out))|exact HI0.out)),(by repeat (first|(with_reducible first|exact HK.out|apply KeepBut.set_|apply keep_drewN|apply keep_drew|apply keep_alloc|refine keep_far ?_ GW214.out _|refine keep_far ?_ GW227.out _|refine keep_far ?_ GW262.out _)|exact HK.out)),(by repeat (first|(with_reducible first|exact HB.out|apply below_alloc|apply pw_below_drewN|apply below_drew1|refine below_set ?_ (IsS58.ge HI0.out)|refine below_set ?_ GE214.out|refine below_set ?_ GE227.out|refine below_set ?_ GE262.out)|exact HB.out))⟩)
           ·skip
            refine box_step ?hg (N:=9) ?hd (cs:=#[.int .i64 0,.slice none 0 0,.int .i64 0]) (t:=25) ?hr ?_;(case hd=>rfl);(case hg=>rfl);(case hr=>first|(go_simp;done)|(go_simp;rfl))
            intro gb262 hg w63 hbox hb
            have n0_:=am (Kd.S_below (by(with_reducible repeat (first|apply Kd.S_alloc|apply Kd.S_drewN|apply Kd.S_drew));exact HO_228001.out) hb)
            have n1_:=am (bM BK214.out hb)
            have n2_:=am (bM BK227.out hb)
            have n3_:=am (IsS58.below (by repeat (first|(with_reducible first|exact HI0.out|apply IsS58.alloc|apply IsS58.drewN|apply IsS58.drew|apply IsS58.set_1|apply IsS58.set_2|apply IsS58.far (hne:=NB0_214.out)|apply IsS58.far (hne:=NB0_227.out))|exact HI0.out)) hb)
            have n4_:=am (KeepBut.trans (by repeat (first|(with_reducible first|exact HK.out|apply KeepBut.set_|apply keep_drewN|apply keep_drew|apply keep_alloc|refine keep_far ?_ GW214.out _|refine keep_far ?_ GW227.out _)|exact HK.out)) (KeepBut.of_below hb g none) (.inl rfl))
            have n5_:=am (below_step (by repeat (first|(with_reducible first|exact HB.out|apply below_alloc|apply pw_below_drewN|apply below_drew1|refine below_set ?_ (IsS58.ge HI0.out)|refine below_set ?_ GE214.out|refine below_set ?_ GE227.out)|exact HB.out)) hb)
            have n6_:=am (hbox)
            have n7_:=am ((by rw[hg];exact(keep_size (w:=w) (g:=g) (row:=none) (by repeat (first|(with_reducible first|exact HK.out|apply KeepBut.set_|apply keep_drewN|apply keep_drew|apply keep_alloc|refine keep_far ?_ GW214.out _|refine keep_far ?_ GW227.out _)|exact HK.out))):w.heap.size≤gb262))
            have n8_:=am ((Nat.le_trans HW0.out (by rw[hg];exact(keep_size (w:=w) (g:=g) (row:=none) (by repeat (first|(with_reducible first|exact HK.out|apply KeepBut.set_|apply keep_drewN|apply keep_drew|apply keep_alloc|refine keep_far ?_ GW214.out _|refine keep_far ?_ GW227.out _)|exact HK.out))):w.heap.size≤gb262):w0.heap.size≤gb262))
            have n9_:=am ((bN BK214.out hg:gb214≠gb262))
            have n10_:=am ((bO BK214.out hg:gb262≠gb214))
            have n11_:=am ((bN BK227.out hg:gb227≠gb262))
            have n12_:=am ((bO BK227.out hg:gb262≠gb227))
            have n13_:=am ((by rw[hg];exact Nat.ne_of_lt (IsS58.lt (show IsS58 w0 _ g s0_0 t254 t255 from by repeat (first|(with_reducible first|exact HI0.out|apply IsS58.alloc|apply IsS58.drewN|apply IsS58.drew|apply IsS58.set_1|apply IsS58.set_2|apply IsS58.far (hne:=NB0_214.out)|apply IsS58.far (hne:=NB0_227.out))|exact HI0.out))):g≠gb262))
            have n14_:=am ((by rw[hg];exact Nat.ne_of_gt (IsS58.lt (show IsS58 w0 _ g s0_0 t254 t255 from by repeat (first|(with_reducible first|exact HI0.out|apply IsS58.alloc|apply IsS58.drewN|apply IsS58.drew|apply IsS58.set_1|apply IsS58.set_2|apply IsS58.far (hne:=NB0_214.out)|apply IsS58.far (hne:=NB0_227.out))|exact HI0.out))):gb262≠g))
            clear HO_228001 BK214 BK227 HI0 HK HB
            have HO_228001:=n0_
            have BK214:=n1_
            have BK227:=n2_
            have HI0:=n3_
            have HK:=n4_
            have HB:=n5_
            have BK262:=n6_
            have GW262:=n7_
            have GE262:=n8_
            have NB214_262:=n9_
            have NB262_214:=n10_
            have NB227_262:=n11_
            have NB262_227:=n12_
            have NB0_262:=n13_
            have NB262_0:=n14_
            clear n0_ n1_ n2_ n3_ n4_ n5_ n6_ n7_ n8_ n9_ n10_ n11_ n12_ n13_ n14_ hb hbox hg
            refine hK.out _ _ (cC3 BK227.out) (fun hHeld => ?_)
            clear hK K
            refine norm_ (a':=?_) ?_ ?_
            rotate_left
            ·show Act.put _ (some 9) _=_
             simp only[Act.put,zA,zB,zC,i64_w,i32_w]
             rfl
            refine one_ (i:=9) (N:=some 53) #[true,true,true,true,true,true,true,true,true,true,false,false,false,true,false,false] rfl rfl (one_of HT_.out (by kernel_rfl)) (by decide) (fun K hK => ?_)
            refine goes_ Try.func14 (by kernel_rfl) rfl #[.agg #[.int .i64 x228000_2,.slice Ao59 x228001_2.length co59,.int .i64 x228002_2],.int .i64 t250,.int .i64 (wrap64 (1+t253))] (by rfl) rfl rfl (by(try simp only[List.map_toArray,List.map_cons,List.map_nil]);first|done|rfl|(simp only[List.length_drop,List.length_take];rfl)) ?_
            with_reducible refine(spec_PutLong.calls k2 x228000_2 _ _ x228001_2 x228002_2 t250 (wrap64 (1+t253)) t256 t257 t260 true _ ?side1 ?side2 A56.out).mono ?_
            (case side1=>repeat (first|exact(Kd.S_reads' HO_228001.out).2.2|(with_reducible refine Kd.C_alloc ?_ _)|(with_reducible refine Kd.C_drewN ?_ _)|(with_reducible refine Kd.C_drew ?_)))
            (case side2=>exact(Kd.S_reads' HO_228001.out).2.1)
            rintro e w64 ⟨v258,rfl,ho0,hb⟩
            refine⟨_,rfl,?_⟩
            have n0_:=am (Kd.S_elder' (by(with_reducible repeat (first|apply Kd.S_alloc|apply Kd.S_drewN|apply Kd.S_drew));exact HO_228001.out) (Kd.S_base ho0) hb)
            have n1_:=am (Kd.S_lower (Kd.S_new' ho0 (Kd.S_lt (by(with_reducible repeat (first|apply Kd.S_alloc|apply Kd.S_drewN|apply Kd.S_drew));exact HO_228001.out))) (keep_size (w:=w) (g:=g) (row:=none) (by repeat (first|(with_reducible first|exact HK.out|apply KeepBut.set_|apply keep_drewN|apply keep_drew|apply keep_alloc|refine keep_far ?_ GW214.out _|refine keep_far ?_ GW227.out _|refine keep_far ?_ GW262.out _)|exact HK.out))))
            have n2_:=am (bM BK214.out hb)
            have n3_:=am (bM BK227.out hb)
            have n4_:=am (IsS58.below (by repeat (first|(with_reducible first|exact HI0.out|apply IsS58.alloc|apply IsS58.drewN|apply IsS58.drew|apply IsS58.set_1|apply IsS58.set_2|apply IsS58.far (hne:=NB0_214.out)|apply IsS58.far (hne:=NB0_227.out)|apply IsS58.far (hne:=NB0_262.out))|exact HI0.out)) hb)
            have n5_:=am (bM BK262.out hb)
            have n6_:=am (KeepBut.trans (by repeat (first|(with_reducible first|exact HK.out|apply KeepBut.set_|apply keep_drewN|apply keep_drew|apply keep_alloc|refine keep_far ?_ GW214.out _|refine keep_far ?_ GW227.out _|refine keep_far ?_ GW262.out _)|exact HK.out)) (KeepBut.of_below hb g none) (.inl rfl))
            have n7_:=am (below_step (by repeat (first|(with_reducible first|exact HB.out|apply below_alloc|apply pw_below_drewN|apply below_drew1|refine below_set ?_ (IsS58.ge HI0.out)|refine below_set ?_ GE214.out|refine below_set ?_ GE227.out|refine below_set ?_ GE262.out)|exact HB.out)) hb)
            clear HO_228001 BK214 BK227 HI0 BK262 HK HB
            have HO_228001:=n0_
            have HO259:=n1_
            have BK214:=n2_
            have BK227:=n3_
            have HI0:=n4_
            have BK262:=n5_
            have HK:=n6_
            have HB:=n7_
            clear n0_ n1_ n2_ n3_ n4_ n5_ n6_ n7_
            (try clear hb)
            (try clear hb2)
            (try clear hk)
            (try clear hi)
            (try clear ho0)
            refine hK.out _ _ (cC3 BK227.out) (fun hHeld => ?_)
            clear hK K
            refine norm_ (a':=?_) ?_ ?_
            rotate_left
            ·show Act.put _ (some 53) _=_
             simp only[Act.put,zA,zB,zC,i64_w,i32_w]
             rfl
            refine pS HT_ 10 43 ?_;refine pS HT_ 11 54 ?_;refine pS HT_ 12 55 ?_
            exact norm_ (by simp only[putAll,Act.put,zA,zB,zC]) (hCont (v258,gb262) _ ⟨hHeld,(by(with_reducible repeat (first|apply Kd.S_alloc|apply Kd.S_drewN|apply Kd.S_drew));exact Kd.S_mono HO259.out (fun _ hk=>hk.2)),(by(with_reducible repeat (first|apply Kd.S_alloc|apply Kd.S_drewN|apply Kd.S_drew));exact Kd.S_mono HO_228001.out (fun _ hk=>hk.2)),(bL BK214.out),(bL BK227.out),(bL BK262.out),GW262.out,GE262.out,NB0_262.out,NB262_0.out,NB214_262.out,NB262_214.out,NB227_262.out,NB262_227.out,(by repeat (first|(with_reducible first|exact HI0.out|apply IsS58.alloc|apply IsS58.drewN|apply IsS58.drew|apply IsS58.set_1|apply IsS58.set_2|apply IsS58.far (hne:=NB0_214.out)|apply IsS58.far (hne:=NB0_227.out)|apply IsS58.far (hne:=NB0_262.out))|exact HI0.out)),(by repeat (first|(with_reducible first|exact HK.out|apply KeepBut.set_|apply keep_drewN|apply keep_drew|apply keep_alloc|refine keep_far ?_ GW214.out _|refine keep_far ?_ GW227.out _|refine keep_far ?_ GW262.out _)|exact HK.out)),(by repeat (first|(with_reducible first|exact HB.out|apply below_alloc|apply pw_below_drewN|apply below_drew1|refine below_set ?_ (IsS58.ge HI0.out)|refine below_set ?_ GE214.out|refine below_set ?_ GE227.out|refine below_set ?_ GE262.out)|exact HB.out))⟩)
          ·skip
           refine box_step ?hg (N:=9) ?hd (cs:=#[.int .i64 0,.slice none 0 0,.int .i64 0]) (t:=25) ?hr ?_;(case hd=>rfl);(case hg=>rfl);(case hr=>first|(go_simp;done)|(go_simp;rfl))
           intro gb262 hg w62 hbox hb
           have n0_:=am (Kd.S_below (by(with_reducible repeat (first|apply Kd.S_alloc|apply Kd.S_drewN|apply Kd.S_drew));exact HO_228001.out) hb)
           have n1_:=am (bM BK214.out hb)
           have n2_:=am (bM BK227.out hb)
           have n3_:=am (IsS58.below (by repeat (first|(with_reducible first|exact HI0.out|apply IsS58.alloc|apply IsS58.drewN|apply IsS58.drew|apply IsS58.set_1|apply IsS58.set_2|apply IsS58.far (hne:=NB0_214.out)|apply IsS58.far (hne:=NB0_227.out))|exact HI0.out)) hb)
           have n4_:=am (KeepBut.trans (by repeat (first|(with_reducible first|exact HK.out|apply KeepBut.set_|apply keep_drewN|apply keep_drew|apply keep_alloc|refine keep_far ?_ GW214.out _|refine keep_far ?_ GW227.out _)|exact HK.out)) (KeepBut.of_below hb g none) (.inl rfl))
           have n5_:=am (below_step (by repeat (first|(with_reducible first|exact HB.out|apply below_alloc|apply pw_below_drewN|apply below_drew1|refine below_set ?_ (IsS58.ge HI0.out)|refine below_set ?_ GE214.out|refine below_set ?_ GE227.out)|exact HB.out)) hb)
           have n6_:=am (hbox)
           have n7_:=am ((by rw[hg];exact(keep_size (w:=w) (g:=g) (row:=none) (by repeat (first|(with_reducible first|exact HK.out|apply KeepBut.set_|apply keep_drewN|apply keep_drew|apply keep_alloc|refine keep_far ?_ GW214.out _|refine keep_far ?_ GW227.out _)|exact HK.out))):w.heap.size≤gb262))
           have n8_:=am ((Nat.le_trans HW0.out (by rw[hg];exact(keep_size (w:=w) (g:=g) (row:=none) (by repeat (first|(with_reducible first|exact HK.out|apply KeepBut.set_|apply keep_drewN|apply keep_drew|apply keep_alloc|refine keep_far ?_ GW214.out _|refine keep_far ?_ GW227.out _)|exact HK.out))):w.heap.size≤gb262):w0.heap.size≤gb262))
           have n9_:=am ((bN BK214.out hg:gb214≠gb262))
           have n10_:=am ((bO BK214.out hg:gb262≠gb214))
           have n11_:=am ((bN BK227.out hg:gb227≠gb262))
           have n12_:=am ((bO BK227.out hg:gb262≠gb227))
           have n13_:=am ((by rw[hg];exact Nat.ne_of_lt (IsS58.lt (show IsS58 w0 _ g s0_0 t251 t252 from by repeat (first|(with_reducible first|exact HI0.out|apply IsS58.alloc|apply IsS58.drewN|apply IsS58.drew|apply IsS58.set_1|apply IsS58.set_2|apply IsS58.far (hne:=NB0_214.out)|apply IsS58.far (hne:=NB0_227.out))|exact HI0.out))):g≠gb262))
           have n14_:=am ((by rw[hg];exact Nat.ne_of_gt (IsS58.lt (show IsS58 w0 _ g s0_0 t251 t252 from by repeat (first|(with_reducible first|exact HI0.out|apply IsS58.alloc|apply IsS58.drewN|apply IsS58.drew|apply IsS58.set_1|apply IsS58.set_2|apply IsS58.far (hne:=NB0_214.out)|apply IsS58.far (hne:=NB0_227.out))|exact HI0.out))):gb262≠g))
           clear HO_228001 BK214 BK227 HI0 HK HB
           have HO_228001:=n0_
           have BK214:=n1_
           have BK227:=n2_
           have HI0:=n3_
           have HK:=n4_
           have HB:=n5_
           have BK262:=n6_
           have GW262:=n7_
           have GE262:=n8_
           have NB214_262:=n9_
           have NB262_214:=n10_
           have NB227_262:=n11_
           have NB262_227:=n12_
           have NB0_262:=n13_
           have NB262_0:=n14_
           clear n0_ n1_ n2_ n3_ n4_ n5_ n6_ n7_ n8_ n9_ n10_ n11_ n12_ n13_ n14_ hb hbox hg
           refine hK.out _ _ (cC3 BK227.out) (fun hHeld => ?_)
           clear hK K
           refine norm_ (a':=?_) ?_ ?_
           rotate_left
           ·show Act.put _ (some 9) _=_
            simp only[Act.put,zA,zB,zC,i64_w,i32_w]
            rfl
           refine one_ (i:=7) (N:=some 51) #[true,true,true,true,true,true,true,true,false,false,false,false,false,true,false,false] rfl rfl (one_of HT_.out (by kernel_rfl)) (by decide) (fun K hK => ?_)
           refine goes_ Try.func29 (by kernel_rfl) rfl #[.pointer (some ⟨g,0,none⟩),.int .i64 30] (by rfl) rfl rfl (by(try simp only[List.map_toArray,List.map_cons,List.map_nil]);first|done|rfl|(simp only[List.length_drop,List.length_take];rfl)) ?_
           with_reducible refine(spec_l1Cur_pick.calls g s0_0 t251 t252 30 t253 t254 t255 w0 _ ?side1 ?side2 A55.out).mono ?_
           (case side1=>repeat (first|(with_reducible first|exact HI0.out|apply IsS58.alloc|apply IsS58.drewN|apply IsS58.drew|apply IsS58.set_1|apply IsS58.set_2|apply IsS58.far (hne:=NB0_214.out)|apply IsS58.far (hne:=NB0_227.out)|apply IsS58.far (hne:=NB0_262.out))|exact HI0.out))
           (case side2=>repeat (first|(with_reducible first|exact HB.out|apply below_alloc|apply pw_below_drewN|apply below_drew1|refine below_set ?_ (IsS58.ge HI0.out)|refine below_set ?_ GE214.out|refine below_set ?_ GE227.out|refine below_set ?_ GE262.out)|exact HB.out))
           rintro e w63 ⟨rfl,hi,hb,hk⟩
           refine⟨_,rfl,?_⟩
           have n0_:=am (Kd.S_mono (Kd.S_keep (IsS58.apartS (show IsS58 w0 _ g s0_0 t251 t252 from by repeat (first|(with_reducible first|exact HI0.out|apply IsS58.alloc|apply IsS58.drewN|apply IsS58.drew|apply IsS58.set_1|apply IsS58.set_2|apply IsS58.far (hne:=NB0_214.out)|apply IsS58.far (hne:=NB0_227.out)|apply IsS58.far (hne:=NB0_262.out))|exact HI0.out)) (by(with_reducible repeat (first|apply Kd.S_alloc|apply Kd.S_drewN|apply Kd.S_drew));exact HO_228001.out) (by decide)) hk (fun _ h=>h.2)) (fun _ h=>h.1))
           have n1_:=am (KeepBut.blk hk (g':=gb214) (o:=.cells #[.int .i64 0,.slice none 0 0,.int .i64 0] 25 (0,0)) (bL BK214.out) NB214_0.out (by simp))
           have n2_:=am (KeepBut.blk hk (g':=gb227) (o:=.cells #[.int .i64 x228000_2,.slice Ao59 x228001_2.length co59,.int .i64 x228002_2] 25 (0,0)) (bL BK227.out) NB227_0.out (by simp))
           have n3_:=am (KeepBut.blk hk (g':=gb262) (o:=.cells #[.int .i64 0,.slice none 0 0,.int .i64 0] 25 (0,0)) (bL BK262.out) NB262_0.out (by simp))
           have n4_:=am (KeepBut.trans (by repeat (first|(with_reducible first|exact HK.out|apply KeepBut.set_|apply keep_drewN|apply keep_drew|apply keep_alloc|refine keep_far ?_ GW214.out _|refine keep_far ?_ GW227.out _|refine keep_far ?_ GW262.out _)|exact HK.out)) hk (.inl rfl))
           have n5_:=am (hb)
           have n6_:=am (hi)
           clear HO_228001 BK214 BK227 BK262 HK HB HI0
           have HO_228001:=n0_
           have BK214:=n1_
           have BK227:=n2_
           have BK262:=n3_
           have HK:=n4_
           have HB:=n5_
           have HI0:=n6_
           clear n0_ n1_ n2_ n3_ n4_ n5_ n6_
           (try clear hb)
           (try clear hb2)
           (try clear hk)
           (try clear hi)
           refine hK.out _ _ (cC3 BK227.out) (fun hHeld => ?_)
           clear hK K
           refine norm_ (a':=?_) ?_ ?_
           rotate_left
           ·show Act.put _ (some 51) _=_
            simp only[Act.put,zA,zB,zC,i64_w,i32_w]
            rfl
           refine pS HT_ 8 52 ?_
           refine one_ (i:=9) (N:=some 53) #[true,true,true,true,true,true,true,true,true,true,false,false,false,true,false,false] rfl rfl (one_of HT_.out (by kernel_rfl)) (by decide) (fun K hK => ?_)
           refine goes_ Try.func14 (by kernel_rfl) rfl #[.agg #[.int .i64 x228000_2,.slice Ao59 x228001_2.length co59,.int .i64 x228002_2],.int .i64 t250,.int .i64 (wrap64 (1+t253))] (by rfl) rfl rfl (by(try simp only[List.map_toArray,List.map_cons,List.map_nil]);first|done|rfl|(simp only[List.length_drop,List.length_take];rfl)) ?_
           with_reducible refine(spec_PutLong.calls k2 x228000_2 _ _ x228001_2 x228002_2 t250 (wrap64 (1+t253)) t256 t257 t260 true _ ?side1 ?side2 A56.out).mono ?_
           (case side1=>repeat (first|exact(Kd.S_reads' HO_228001.out).2.2|(with_reducible refine Kd.C_alloc ?_ _)|(with_reducible refine Kd.C_drewN ?_ _)|(with_reducible refine Kd.C_drew ?_)))
           (case side2=>exact(Kd.S_reads' HO_228001.out).2.1)
           rintro e w64 ⟨v258,rfl,ho0,hb⟩
           refine⟨_,rfl,?_⟩
           have n0_:=am (Kd.S_elder' (by(with_reducible repeat (first|apply Kd.S_alloc|apply Kd.S_drewN|apply Kd.S_drew));exact HO_228001.out) (Kd.S_base ho0) hb)
           have n1_:=am (Kd.S_lower (Kd.S_new' ho0 (Kd.S_lt (by(with_reducible repeat (first|apply Kd.S_alloc|apply Kd.S_drewN|apply Kd.S_drew));exact HO_228001.out))) (keep_size (w:=w) (g:=g) (row:=none) (by repeat (first|(with_reducible first|exact HK.out|apply KeepBut.set_|apply keep_drewN|apply keep_drew|apply keep_alloc|refine keep_far ?_ GW214.out _|refine keep_far ?_ GW227.out _|refine keep_far ?_ GW262.out _)|exact HK.out))))
           have n2_:=am (bM BK214.out hb)
           have n3_:=am (bM BK227.out hb)
           have n4_:=am (IsS58.below (by repeat (first|(with_reducible first|exact HI0.out|apply IsS58.alloc|apply IsS58.drewN|apply IsS58.drew|apply IsS58.set_1|apply IsS58.set_2|apply IsS58.far (hne:=NB0_214.out)|apply IsS58.far (hne:=NB0_227.out)|apply IsS58.far (hne:=NB0_262.out))|exact HI0.out)) hb)
           have n5_:=am (bM BK262.out hb)
           have n6_:=am (KeepBut.trans (by repeat (first|(with_reducible first|exact HK.out|apply KeepBut.set_|apply keep_drewN|apply keep_drew|apply keep_alloc|refine keep_far ?_ GW214.out _|refine keep_far ?_ GW227.out _|refine keep_far ?_ GW262.out _)|exact HK.out)) (KeepBut.of_below hb g none) (.inl rfl))
           have n7_:=am (below_step (by repeat (first|(with_reducible first|exact HB.out|apply below_alloc|apply pw_below_drewN|apply below_drew1|refine below_set ?_ (IsS58.ge HI0.out)|refine below_set ?_ GE214.out|refine below_set ?_ GE227.out|refine below_set ?_ GE262.out)|exact HB.out)) hb)
           clear HO_228001 BK214 BK227 HI0 BK262 HK HB
           have HO_228001:=n0_
           have HO259:=n1_
           have BK214:=n2_
           have BK227:=n3_
           have HI0:=n4_
           have BK262:=n5_
           have HK:=n6_
           have HB:=n7_
           clear n0_ n1_ n2_ n3_ n4_ n5_ n6_ n7_
           (try clear hb)
           (try clear hb2)
           (try clear hk)
           (try clear hi)
           (try clear ho0)
           refine hK.out _ _ (cC3 BK227.out) (fun hHeld => ?_)
           clear hK K
           refine norm_ (a':=?_) ?_ ?_
           rotate_left
           ·show Act.put _ (some 53) _=_
            simp only[Act.put,zA,zB,zC,i64_w,i32_w]
            rfl
           refine pS HT_ 10 43 ?_;refine pS HT_ 11 54 ?_;refine pS HT_ 12 55 ?_
           exact norm_ (by simp only[putAll,Act.put,zA,zB,zC]) (hCont (v258,gb262) _ ⟨hHeld,(by(with_reducible repeat (first|apply Kd.S_alloc|apply Kd.S_drewN|apply Kd.S_drew));exact Kd.S_mono HO259.out (fun _ hk=>hk.2)),(by(with_reducible repeat (first|apply Kd.S_alloc|apply Kd.S_drewN|apply Kd.S_drew));exact Kd.S_mono HO_228001.out (fun _ hk=>hk.2)),(bL BK214.out),(bL BK227.out),(bL BK262.out),GW262.out,GE262.out,NB0_262.out,NB262_0.out,NB214_262.out,NB262_214.out,NB227_262.out,NB262_227.out,(by repeat (first|(with_reducible first|exact HI0.out|apply IsS58.alloc|apply IsS58.drewN|apply IsS58.drew|apply IsS58.set_1|apply IsS58.set_2|apply IsS58.far (hne:=NB0_214.out)|apply IsS58.far (hne:=NB0_227.out)|apply IsS58.far (hne:=NB0_262.out))|exact HI0.out)),(by repeat (first|(with_reducible first|exact HK.out|apply KeepBut.set_|apply keep_drewN|apply keep_drew|apply keep_alloc|refine keep_far ?_ GW214.out _|refine keep_far ?_ GW227.out _|refine keep_far ?_ GW262.out _)|exact HK.out)),(by repeat (first|(with_reducible first|exact HB.out|apply below_alloc|apply pw_below_drewN|apply below_drew1|refine below_set ?_ (IsS58.ge HI0.out)|refine below_set ?_ GE214.out|refine below_set ?_ GE227.out|refine below_set ?_ GE262.out)|exact HB.out))⟩)
         ·skip
          refine box_step ?hg (N:=9) ?hd (cs:=#[.int .i64 0,.slice none 0 0,.int .i64 0]) (t:=25) ?hr ?_;(case hd=>rfl);(case hg=>rfl);(case hr=>first|(go_simp;done)|(go_simp;rfl))
          intro gb262 hg w61 hbox hb
          have n0_:=am (Kd.S_below (by(with_reducible repeat (first|apply Kd.S_alloc|apply Kd.S_drewN|apply Kd.S_drew));exact HO_228001.out) hb)
          have n1_:=am (bM BK214.out hb)
          have n2_:=am (bM BK227.out hb)
          have n3_:=am (IsS58.below (by repeat (first|(with_reducible first|exact HI0.out|apply IsS58.alloc|apply IsS58.drewN|apply IsS58.drew|apply IsS58.set_1|apply IsS58.set_2|apply IsS58.far (hne:=NB0_214.out)|apply IsS58.far (hne:=NB0_227.out))|exact HI0.out)) hb)
          have n4_:=am (KeepBut.trans (by repeat (first|(with_reducible first|exact HK.out|apply KeepBut.set_|apply keep_drewN|apply keep_drew|apply keep_alloc|refine keep_far ?_ GW214.out _|refine keep_far ?_ GW227.out _)|exact HK.out)) (KeepBut.of_below hb g none) (.inl rfl))
          have n5_:=am (below_step (by repeat (first|(with_reducible first|exact HB.out|apply below_alloc|apply pw_below_drewN|apply below_drew1|refine below_set ?_ (IsS58.ge HI0.out)|refine below_set ?_ GE214.out|refine below_set ?_ GE227.out)|exact HB.out)) hb)
          have n6_:=am (hbox)
          have n7_:=am ((by rw[hg];exact(keep_size (w:=w) (g:=g) (row:=none) (by repeat (first|(with_reducible first|exact HK.out|apply KeepBut.set_|apply keep_drewN|apply keep_drew|apply keep_alloc|refine keep_far ?_ GW214.out _|refine keep_far ?_ GW227.out _)|exact HK.out))):w.heap.size≤gb262))
          have n8_:=am ((Nat.le_trans HW0.out (by rw[hg];exact(keep_size (w:=w) (g:=g) (row:=none) (by repeat (first|(with_reducible first|exact HK.out|apply KeepBut.set_|apply keep_drewN|apply keep_drew|apply keep_alloc|refine keep_far ?_ GW214.out _|refine keep_far ?_ GW227.out _)|exact HK.out))):w.heap.size≤gb262):w0.heap.size≤gb262))
          have n9_:=am ((bN BK214.out hg:gb214≠gb262))
          have n10_:=am ((bO BK214.out hg:gb262≠gb214))
          have n11_:=am ((bN BK227.out hg:gb227≠gb262))
          have n12_:=am ((bO BK227.out hg:gb262≠gb227))
          have n13_:=am ((by rw[hg];exact Nat.ne_of_lt (IsS58.lt (show IsS58 w0 _ g s0_0 t238 t239 from by repeat (first|(with_reducible first|exact HI0.out|apply IsS58.alloc|apply IsS58.drewN|apply IsS58.drew|apply IsS58.set_1|apply IsS58.set_2|apply IsS58.far (hne:=NB0_214.out)|apply IsS58.far (hne:=NB0_227.out))|exact HI0.out))):g≠gb262))
          have n14_:=am ((by rw[hg];exact Nat.ne_of_gt (IsS58.lt (show IsS58 w0 _ g s0_0 t238 t239 from by repeat (first|(with_reducible first|exact HI0.out|apply IsS58.alloc|apply IsS58.drewN|apply IsS58.drew|apply IsS58.set_1|apply IsS58.set_2|apply IsS58.far (hne:=NB0_214.out)|apply IsS58.far (hne:=NB0_227.out))|exact HI0.out))):gb262≠g))
          clear HO_228001 BK214 BK227 HI0 HK HB
          have HO_228001:=n0_
          have BK214:=n1_
          have BK227:=n2_
          have HI0:=n3_
          have HK:=n4_
          have HB:=n5_
          have BK262:=n6_
          have GW262:=n7_
          have GE262:=n8_
          have NB214_262:=n9_
          have NB262_214:=n10_
          have NB227_262:=n11_
          have NB262_227:=n12_
          have NB0_262:=n13_
          have NB262_0:=n14_
          clear n0_ n1_ n2_ n3_ n4_ n5_ n6_ n7_ n8_ n9_ n10_ n11_ n12_ n13_ n14_ hb hbox hg
          refine hK.out _ _ (cC3 BK227.out) (fun hHeld => ?_)
          clear hK K
          refine norm_ (a':=?_) ?_ ?_
          rotate_left
          ·show Act.put _ (some 9) _=_
           simp only[Act.put,zA,zB,zC,i64_w,i32_w]
           rfl
          refine one_ (i:=5) (N:=some 49) #[true,true,true,true,true,true,true,false,false,false,false,false,false,true,false,false] rfl rfl (one_of HT_.out (by kernel_rfl)) (by decide) (fun K hK => ?_)
          refine goes_ Try.func29 (by kernel_rfl) rfl #[.pointer (some ⟨g,0,none⟩),.int .i64 (x228001_2.length:Int)] (by rfl) rfl rfl (by(try simp only[List.map_toArray,List.map_cons,List.map_nil]);first|done|rfl|(simp only[List.length_drop,List.length_take];rfl)) ?_
          with_reducible refine(spec_l1Cur_pick.calls g s0_0 t238 t239 (x228001_2.length:Int) t250 t251 t252 w0 _ ?side1 ?side2 A54.out).mono ?_
          (case side1=>repeat (first|(with_reducible first|exact HI0.out|apply IsS58.alloc|apply IsS58.drewN|apply IsS58.drew|apply IsS58.set_1|apply IsS58.set_2|apply IsS58.far (hne:=NB0_214.out)|apply IsS58.far (hne:=NB0_227.out)|apply IsS58.far (hne:=NB0_262.out))|exact HI0.out))
          (case side2=>repeat (first|(with_reducible first|exact HB.out|apply below_alloc|apply pw_below_drewN|apply below_drew1|refine below_set ?_ (IsS58.ge HI0.out)|refine below_set ?_ GE214.out|refine below_set ?_ GE227.out|refine below_set ?_ GE262.out)|exact HB.out))
          rintro e w62 ⟨rfl,hi,hb,hk⟩
          refine⟨_,rfl,?_⟩
          have n0_:=am (Kd.S_mono (Kd.S_keep (IsS58.apartS (show IsS58 w0 _ g s0_0 t238 t239 from by repeat (first|(with_reducible first|exact HI0.out|apply IsS58.alloc|apply IsS58.drewN|apply IsS58.drew|apply IsS58.set_1|apply IsS58.set_2|apply IsS58.far (hne:=NB0_214.out)|apply IsS58.far (hne:=NB0_227.out)|apply IsS58.far (hne:=NB0_262.out))|exact HI0.out)) (by(with_reducible repeat (first|apply Kd.S_alloc|apply Kd.S_drewN|apply Kd.S_drew));exact HO_228001.out) (by decide)) hk (fun _ h=>h.2)) (fun _ h=>h.1))
          have n1_:=am (KeepBut.blk hk (g':=gb214) (o:=.cells #[.int .i64 0,.slice none 0 0,.int .i64 0] 25 (0,0)) (bL BK214.out) NB214_0.out (by simp))
          have n2_:=am (KeepBut.blk hk (g':=gb227) (o:=.cells #[.int .i64 x228000_2,.slice Ao59 x228001_2.length co59,.int .i64 x228002_2] 25 (0,0)) (bL BK227.out) NB227_0.out (by simp))
          have n3_:=am (KeepBut.blk hk (g':=gb262) (o:=.cells #[.int .i64 0,.slice none 0 0,.int .i64 0] 25 (0,0)) (bL BK262.out) NB262_0.out (by simp))
          have n4_:=am (KeepBut.trans (by repeat (first|(with_reducible first|exact HK.out|apply KeepBut.set_|apply keep_drewN|apply keep_drew|apply keep_alloc|refine keep_far ?_ GW214.out _|refine keep_far ?_ GW227.out _|refine keep_far ?_ GW262.out _)|exact HK.out)) hk (.inl rfl))
          have n5_:=am (hb)
          have n6_:=am (hi)
          clear HO_228001 BK214 BK227 BK262 HK HB HI0
          have HO_228001:=n0_
          have BK214:=n1_
          have BK227:=n2_
          have BK262:=n3_
          have HK:=n4_
          have HB:=n5_
          have HI0:=n6_
          clear n0_ n1_ n2_ n3_ n4_ n5_ n6_
          (try clear hb)
          (try clear hb2)
          (try clear hk)
          (try clear hi)
          refine hK.out _ _ (cC3 BK227.out) (fun hHeld => ?_)
          clear hK K
          refine norm_ (a':=?_) ?_ ?_
          rotate_left
          ·show Act.put _ (some 49) _=_
           simp only[Act.put,zA,zB,zC,i64_w,i32_w]
           rfl
          refine one_ (i:=7) (N:=some 51) #[true,true,true,true,true,true,true,true,false,false,false,false,false,true,false,false] rfl rfl (one_of HT_.out (by kernel_rfl)) (by decide) (fun K hK => ?_)
          refine goes_ Try.func29 (by kernel_rfl) rfl #[.pointer (some ⟨g,0,none⟩),.int .i64 30] (by rfl) rfl rfl (by(try simp only[List.map_toArray,List.map_cons,List.map_nil]);first|done|rfl|(simp only[List.length_drop,List.length_take];rfl)) ?_
          with_reducible refine(spec_l1Cur_pick.calls g s0_0 t251 t252 30 t253 t254 t255 w0 _ ?side1 ?side2 A55.out).mono ?_
          (case side1=>repeat (first|(with_reducible first|exact HI0.out|apply IsS58.alloc|apply IsS58.drewN|apply IsS58.drew|apply IsS58.set_1|apply IsS58.set_2|apply IsS58.far (hne:=NB0_214.out)|apply IsS58.far (hne:=NB0_227.out)|apply IsS58.far (hne:=NB0_262.out))|exact HI0.out))
          (case side2=>repeat (first|(with_reducible first|exact HB.out|apply below_alloc|apply pw_below_drewN|apply below_drew1|refine below_set ?_ (IsS58.ge HI0.out)|refine below_set ?_ GE214.out|refine below_set ?_ GE227.out|refine below_set ?_ GE262.out)|exact HB.out))
          rintro e w63 ⟨rfl,hi,hb,hk⟩
          refine⟨_,rfl,?_⟩
          have n0_:=am (Kd.S_mono (Kd.S_keep (IsS58.apartS (show IsS58 w0 _ g s0_0 t251 t252 from by repeat (first|(with_reducible first|exact HI0.out|apply IsS58.alloc|apply IsS58.drewN|apply IsS58.drew|apply IsS58.set_1|apply IsS58.set_2|apply IsS58.far (hne:=NB0_214.out)|apply IsS58.far (hne:=NB0_227.out)|apply IsS58.far (hne:=NB0_262.out))|exact HI0.out)) (by(with_reducible repeat (first|apply Kd.S_alloc|apply Kd.S_drewN|apply Kd.S_drew));exact HO_228001.out) (by decide)) hk (fun _ h=>h.2)) (fun _ h=>h.1))
          have n1_:=am (KeepBut.blk hk (g':=gb214) (o:=.cells #[.int .i64 0,.slice none 0 0,.int .i64 0] 25 (0,0)) (bL BK214.out) NB214_0.out (by simp))
          have n2_:=am (KeepBut.blk hk (g':=gb227) (o:=.cells #[.int .i64 x228000_2,.slice Ao59 x228001_2.length co59,.int .i64 x228002_2] 25 (0,0)) (bL BK227.out) NB227_0.out (by simp))
          have n3_:=am (KeepBut.blk hk (g':=gb262) (o:=.cells #[.int .i64 0,.slice none 0 0,.int .i64 0] 25 (0,0)) (bL BK262.out) NB262_0.out (by simp))
          have n4_:=am (KeepBut.trans (by repeat (first|(with_reducible first|exact HK.out|apply KeepBut.set_|apply keep_drewN|apply keep_drew|apply keep_alloc|refine keep_far ?_ GW214.out _|refine keep_far ?_ GW227.out _|refine keep_far ?_ GW262.out _)|exact HK.out)) hk (.inl rfl))
          have n5_:=am (hb)
          have n6_:=am (hi)
          clear HO_228001 BK214 BK227 BK262 HK HB HI0
          have HO_228001:=n0_
          have BK214:=n1_
          have BK227:=n2_
          have BK262:=n3_
          have HK:=n4_
          have HB:=n5_
          have HI0:=n6_
          clear n0_ n1_ n2_ n3_ n4_ n5_ n6_
          (try clear hb)
          (try clear hb2)
          (try clear hk)
          (try clear hi)
          refine hK.out _ _ (cC3 BK227.out) (fun hHeld => ?_)
          clear hK K
          refine norm_ (a':=?_) ?_ ?_
          rotate_left
          ·show Act.put _ (some 51) _=_
           simp only[Act.put,zA,zB,zC,i64_w,i32_w]
           rfl
          refine pS HT_ 8 52 ?_
          refine one_ (i:=9) (N:=some 53) #[true,true,true,true,true,true,true,true,true,true,false,false,false,true,false,false] rfl rfl (one_of HT_.out (by kernel_rfl)) (by decide) (fun K hK => ?_)
          refine goes_ Try.func14 (by kernel_rfl) rfl #[.agg #[.int .i64 x228000_2,.slice Ao59 x228001_2.length co59,.int .i64 x228002_2],.int .i64 t250,.int .i64 (wrap64 (1+t253))] (by rfl) rfl rfl (by(try simp only[List.map_toArray,List.map_cons,List.map_nil]);first|done|rfl|(simp only[List.length_drop,List.length_take];rfl)) ?_
          with_reducible refine(spec_PutLong.calls k2 x228000_2 _ _ x228001_2 x228002_2 t250 (wrap64 (1+t253)) t256 t257 t260 true _ ?side1 ?side2 A56.out).mono ?_
          (case side1=>repeat (first|exact(Kd.S_reads' HO_228001.out).2.2|(with_reducible refine Kd.C_alloc ?_ _)|(with_reducible refine Kd.C_drewN ?_ _)|(with_reducible refine Kd.C_drew ?_)))
          (case side2=>exact(Kd.S_reads' HO_228001.out).2.1)
          rintro e w64 ⟨v258,rfl,ho0,hb⟩
          refine⟨_,rfl,?_⟩
          have n0_:=am (Kd.S_elder' (by(with_reducible repeat (first|apply Kd.S_alloc|apply Kd.S_drewN|apply Kd.S_drew));exact HO_228001.out) (Kd.S_base ho0) hb)
          have n1_:=am (Kd.S_lower (Kd.S_new' ho0 (Kd.S_lt (by(with_reducible repeat (first|apply Kd.S_alloc|apply Kd.S_drewN|apply Kd.S_drew));exact HO_228001.out))) (keep_size (w:=w) (g:=g) (row:=none) (by repeat (first|(with_reducible first|exact HK.out|apply KeepBut.set_|apply keep_drewN|apply keep_drew|apply keep_alloc|refine keep_far ?_ GW214.out _|refine keep_far ?_ GW227.out _|refine keep_far ?_ GW262.out _)|exact HK.out))))
          have n2_:=am (bM BK214.out hb)
          have n3_:=am (bM BK227.out hb)
          have n4_:=am (IsS58.below (by repeat (first|(with_reducible first|exact HI0.out|apply IsS58.alloc|apply IsS58.drewN|apply IsS58.drew|apply IsS58.set_1|apply IsS58.set_2|apply IsS58.far (hne:=NB0_214.out)|apply IsS58.far (hne:=NB0_227.out)|apply IsS58.far (hne:=NB0_262.out))|exact HI0.out)) hb)
          have n5_:=am (bM BK262.out hb)
          have n6_:=am (KeepBut.trans (by repeat (first|(with_reducible first|exact HK.out|apply KeepBut.set_|apply keep_drewN|apply keep_drew|apply keep_alloc|refine keep_far ?_ GW214.out _|refine keep_far ?_ GW227.out _|refine keep_far ?_ GW262.out _)|exact HK.out)) (KeepBut.of_below hb g none) (.inl rfl))
          have n7_:=am (below_step (by repeat (first|(with_reducible first|exact HB.out|apply below_alloc|apply pw_below_drewN|apply below_drew1|refine below_set ?_ (IsS58.ge HI0.out)|refine below_set ?_ GE214.out|refine below_set ?_ GE227.out|refine below_set ?_ GE262.out)|exact HB.out)) hb)
          clear HO_228001 BK214 BK227 HI0 BK262 HK HB
          have HO_228001:=n0_
          have HO259:=n1_
          have BK214:=n2_
          have BK227:=n3_
          have HI0:=n4_
          have BK262:=n5_
          have HK:=n6_
          have HB:=n7_
          clear n0_ n1_ n2_ n3_ n4_ n5_ n6_ n7_
          (try clear hb)
          (try clear hb2)
          (try clear hk)
          (try clear hi)
          (try clear ho0)
          refine hK.out _ _ (cC3 BK227.out) (fun hHeld => ?_)
          clear hK K
          refine norm_ (a':=?_) ?_ ?_
          rotate_left
          ·show Act.put _ (some 53) _=_
           simp only[Act.put,zA,zB,zC,i64_w,i32_w]
           rfl
          refine pS HT_ 10 43 ?_;refine pS HT_ 11 54 ?_;refine pS HT_ 12 55 ?_
          exact norm_ (by simp only[putAll,Act.put,zA,zB,zC]) (hCont (v258,gb262) _ ⟨hHeld,(by(with_reducible repeat (first|apply Kd.S_alloc|apply Kd.S_drewN|apply Kd.S_drew));exact Kd.S_mono HO259.out (fun _ hk=>hk.2)),(by(with_reducible repeat (first|apply Kd.S_alloc|apply Kd.S_drewN|apply Kd.S_drew));exact Kd.S_mono HO_228001.out (fun _ hk=>hk.2)),(bL BK214.out),(bL BK227.out),(bL BK262.out),GW262.out,GE262.out,NB0_262.out,NB262_0.out,NB214_262.out,NB262_214.out,NB227_262.out,NB262_227.out,(by repeat (first|(with_reducible first|exact HI0.out|apply IsS58.alloc|apply IsS58.drewN|apply IsS58.drew|apply IsS58.set_1|apply IsS58.set_2|apply IsS58.far (hne:=NB0_214.out)|apply IsS58.far (hne:=NB0_227.out)|apply IsS58.far (hne:=NB0_262.out))|exact HI0.out)),(by repeat (first|(with_reducible first|exact HK.out|apply KeepBut.set_|apply keep_drewN|apply keep_drew|apply keep_alloc|refine keep_far ?_ GW214.out _|refine keep_far ?_ GW227.out _|refine keep_far ?_ GW262.out _)|exact HK.out)),(by repeat (first|(with_reducible first|exact HB.out|apply below_alloc|apply pw_below_drewN|apply below_drew1|refine below_set ?_ (IsS58.ge HI0.out)|refine below_set ?_ GE214.out|refine below_set ?_ GE227.out|refine below_set ?_ GE262.out)|exact HB.out))⟩)
        rintro⟨v258,gb262⟩ w65 ⟨hS_,h0_,h1_,h2_,h3_,h4_,h5_,h6_,h7_,h8_,h9_,h10_,h11_,h12_,h13_,h14_,h15_⟩
        have n0_:Aside0 (Kd.S k34 34 w65 w.heap.size (fun k_=>some k_≠(.slice Ao59 x228001_2.length co59:Value).ownBlock) v258 t257):=⟨h0_⟩
        have n1_:Aside0 (Kd.S k34 34 w65 w.heap.size (fun k_=>some k_≠(v258:Value).ownBlock) (.slice Ao59 x228001_2.length co59) x228001_2):=⟨h1_⟩
        have n2_:Aside0 (w65.heap[gb214]?=some (.cells #[.int .i64 0,.slice none 0 0,.int .i64 0] 25 (0,0))):=⟨h2_⟩
        have n3_:Aside0 (w65.heap[gb227]?=some (.cells #[.int .i64 x228000_2,.slice Ao59 x228001_2.length co59,.int .i64 x228002_2] 25 (0,0))):=⟨h3_⟩
        have n4_:Aside0 (w65.heap[gb262]?=some (.cells #[.int .i64 0,.slice none 0 0,.int .i64 0] 25 (0,0))):=⟨h4_⟩
        have n5_:Aside0 (w.heap.size≤gb262):=⟨h5_⟩
        have n6_:Aside0 (w0.heap.size≤gb262):=⟨h6_⟩
        have n7_:Aside0 (g≠gb262):=⟨h7_⟩
        have n8_:Aside0 (gb262≠g):=⟨h8_⟩
        have n9_:Aside0 (gb214≠gb262):=⟨h9_⟩
        have n10_:Aside0 (gb262≠gb214):=⟨h10_⟩
        have n11_:Aside0 (gb227≠gb262):=⟨h11_⟩
        have n12_:Aside0 (gb262≠gb227):=⟨h12_⟩
        have n13_:Aside0 (IsS58 w0 w65 g s0_0 t254 t255):=⟨h13_⟩
        have n14_:Aside0 (KeepBut w w65 g none):=⟨h14_⟩
        have n15_:Aside0 (Below w0.heap.size w0 w65):=⟨h15_⟩
        clear HO_228001 BK214 BK227 HI0 HK HB h0_ h1_ h2_ h3_ h4_ h5_ h6_ h7_ h8_ h9_ h10_ h11_ h12_ h13_ h14_ h15_
        have HO259:=n0_
        have HO_228001:=n1_
        have BK214:=n2_
        have BK227:=n3_
        have BK262:=n4_
        have GW262:=n5_
        have GE262:=n6_
        have NB0_262:=n7_
        have NB262_0:=n8_
        have NB214_262:=n9_
        have NB262_214:=n10_
        have NB227_262:=n11_
        have NB262_227:=n12_
        have HI0:=n13_
        have HK:=n14_
        have HB:=n15_
        clear n0_ n1_ n2_ n3_ n4_ n5_ n6_ n7_ n8_ n9_ n10_ n11_ n12_ n13_ n14_ n15_
        have hHeld:w65.cell? ⟨gb227,0,none⟩=some (.int .i64 x228000_2)∧w65.cell? ⟨gb227,1,none⟩=some (.slice Ao59 x228001_2.length co59)∧w65.cell? ⟨gb227,2,none⟩=some (.int .i64 x228002_2):=hS_
        obtain⟨Ao67,co67,eo67⟩:=Kd.S_slice HO259.out
        (first|subst eo67|(injection eo67 with f1_ f2_ f3_;have f4_:=f1_.symm;have f5_:=f3_.symm;clear f1_ f2_ f3_;subst f4_;subst f5_))
        refine norm_ (a':=?_) ?_ ?_
        rotate_left
        ·simp only[putAll,Act.put,zA,zB,zC]
         rfl
        refine one_ (i:=14) (N:=none) #[true,true,true,true,true,true,true,true,true,true,true,true,true,true,true,false] rfl rfl (one_of HT_.out (by kernel_rfl)) (by decide) (fun K hK => ?_)
        have hs66:w65.cell? ⟨gb262,0,none⟩=some (.int .i64 0):=(blk_cell BK262.out 0).trans rfl
        have hfs66:=blk_frozen BK262.out 0
        have hns66_0:=NB214_262.out
        have hns66_1:=NB227_262.out
        have hms66_0:=NB262_214.out
        have hms66_1:=NB262_227.out
        have hs68:w65.cell? ⟨gb262,1,none⟩=some (.slice none 0 0):=(blk_cell BK262.out 1).trans rfl
        have hfs68:=blk_frozen BK262.out 1
        have hns68_0:=NB214_262.out
        have hns68_1:=NB227_262.out
        have hms68_0:=NB262_214.out
        have hms68_1:=NB262_227.out
        have hs69:w65.cell? ⟨gb262,2,none⟩=some (.int .i64 0):=(blk_cell BK262.out 2).trans rfl
        have hfs69:=blk_frozen BK262.out 2
        have hns69_0:=NB214_262.out
        have hns69_1:=NB227_262.out
        have hms69_0:=NB262_214.out
        have hms69_1:=NB262_227.out
        refine skip_ (w1:=?_) (by rfl) rfl ?_ ?_
        rotate_left
        ·go_simp
         rfl
        refine hK.out _ _ ⟨(cf_ NB227_262.out ((cf_ NB227_262.out ((cf_ NB227_262.out (hHeld.1)))))),(cf_ NB227_262.out ((cf_ NB227_262.out ((cf_ NB227_262.out (hHeld.2.1)))))),(cf_ NB227_262.out ((cf_ NB227_262.out ((cf_ NB227_262.out (hHeld.2.2))))))⟩ (fun hHeld => ?_)
        clear hK K
        refine pS HT_ 15 10 ?_
        refine done_ (done_of HT_.out (by kernel_rfl)) ?_
        have hnb70:=NB262_214.out
        have hnc70:=NB214_262.out
        have hnb71:=NB262_227.out
        have hnc71:=NB227_262.out
        have hnb72:=NB262_0.out
        have hnc72:=NB0_262.out
        obtain⟨hcz73_0,hcz73_1,hcz73_2⟩:=cC3 BK262.out
        obtain⟨hfz73_0,hfz73_1,hfz73_2⟩:=cF3 BK262.out
        have hnb74:=NB227_214.out
        have hnc74:=NB214_227.out
        have hnb75:=NB227_0.out
        have hnc75:=NB0_227.out
        obtain⟨hcz76_0,hcz76_1,hcz76_2⟩:=cC3 BK227.out
        obtain⟨hfz76_0,hfz76_1,hfz76_2⟩:=cF3 BK227.out
        try go_wp2
        go_roundg k2
        case measure=>have:=HJ4.out;have:=HK2.out;omega
        case rel=>exact⟨(wrap64 (x5_2 - 1)),(t254),(t255),(t256),(t257),(t260),(.slice Ao67 t257.length co67),(bR),H',⟨by have:=HJ4.out;have:=HK2.out;omega⟩,⟨by(with_reducible repeat (first|apply Kd.S_alloc|apply Kd.S_drewN|apply Kd.S_drew));exact Kd.S_mono (Kd.S_far (p:=⟨gb227,2,none⟩) (Kd.S_far (p:=⟨gb227,1,none⟩) (Kd.S_far (p:=⟨gb227,0,none⟩) (Kd.S_far (p:=⟨gb262,2,none⟩) (Kd.S_far (p:=⟨gb262,1,none⟩) (Kd.S_far (p:=⟨gb262,0,none⟩) (Kd.S_types (Kd.S_types HO259.out BK262.out (by decide)) BK227.out (by decide)) (fun _ hk=>hk.1.2) (.int .i64 t256)) (fun _ hk=>hk.1.2) (.slice Ao67 t257.length co67)) (fun _ hk=>hk.1.2) (.int .i64 t260)) (fun _ hk=>hk.2) (.int .i64 t256)) (fun _ hk=>hk.2) (.slice Ao67 t257.length co67)) (fun _ hk=>hk.2) (.int .i64 t260)) (fun _ hk=>trivial)⟩,⟨by(with_reducible repeat (first|refine blk_drewN ?_ _|refine blk_drew ?_|refine blk_alloc ?_ _));refine blk_far ?_ NB214_227.out _;(with_reducible repeat (first|refine blk_drewN ?_ _|refine blk_drew ?_|refine blk_alloc ?_ _));refine blk_far ?_ NB214_227.out _;(with_reducible repeat (first|refine blk_drewN ?_ _|refine blk_drew ?_|refine blk_alloc ?_ _));refine blk_far ?_ NB214_227.out _;(with_reducible repeat (first|refine blk_drewN ?_ _|refine blk_drew ?_|refine blk_alloc ?_ _));refine blk_far ?_ NB214_262.out _;(with_reducible repeat (first|refine blk_drewN ?_ _|refine blk_drew ?_|refine blk_alloc ?_ _));refine blk_far ?_ NB214_262.out _;(with_reducible repeat (first|refine blk_drewN ?_ _|refine blk_drew ?_|refine blk_alloc ?_ _));refine blk_far ?_ NB214_262.out _;(with_reducible repeat (first|refine blk_drewN ?_ _|refine blk_drew ?_|refine blk_alloc ?_ _));exact BK214.out⟩,⟨by(with_reducible repeat (first|refine blk_drewN ?_ _|refine blk_drew ?_|refine blk_alloc ?_ _));apply bU3;(with_reducible repeat (first|refine blk_drewN ?_ _|refine blk_drew ?_|refine blk_alloc ?_ _));refine blk_far ?_ NB227_262.out _;(with_reducible repeat (first|refine blk_drewN ?_ _|refine blk_drew ?_|refine blk_alloc ?_ _));refine blk_far ?_ NB227_262.out _;(with_reducible repeat (first|refine blk_drewN ?_ _|refine blk_drew ?_|refine blk_alloc ?_ _));refine blk_far ?_ NB227_262.out _;(with_reducible repeat (first|refine blk_drewN ?_ _|refine blk_drew ?_|refine blk_alloc ?_ _));exact BK227.out⟩,⟨by repeat (first|(with_reducible first|exact HI0.out|apply IsS58.alloc|apply IsS58.drewN|apply IsS58.drew|apply IsS58.set_1|apply IsS58.set_2|apply IsS58.far (hne:=NB0_214.out)|apply IsS58.far (hne:=NB0_227.out)|apply IsS58.far (hne:=NB0_262.out))|exact HI0.out)⟩,⟨by repeat (first|(with_reducible first|exact HK.out|apply KeepBut.set_|apply keep_drewN|apply keep_drew|apply keep_alloc|refine keep_far ?_ GW214.out _|refine keep_far ?_ GW227.out _|refine keep_far ?_ GW262.out _)|exact HK.out)⟩,⟨by repeat (first|(with_reducible first|exact HB.out|apply below_alloc|apply pw_below_drewN|apply below_drew1|refine below_set ?_ (IsS58.ge HI0.out)|refine below_set ?_ GE214.out|refine below_set ?_ GE227.out|refine below_set ?_ GE262.out)|exact HB.out)⟩⟩
       ·replace c57:=Bool.eq_false_iff.mpr c57
        subst c57
        have H1:(spec_l1Cur_turns.l0 k2 (wrap64 (x5_2 - 1)) s0_0 t254 t255 x228000_2 x228001_2 x228002_2)=some (r1,r2,r3,r4,r5):=by rw[if_neg (show ¬ (false=true) by decide)] at H;exact H
        clear H
        have H:=H1
        clear H1
        have H':=am H
        clear H
        try go_wp2_with (first|((with_reducible refine gate_callee (f:=36) rfl ?_);refine goesA (some 34) rfl rfl Try.func36 #[.pointer (some ⟨g,0,none⟩),.int .i64 5] rfl ?_;(with_reducible refine(spec_l1Cur_one.calls g s0_0 x1001_2 x1002_2 5 false t238 t239 w0 _ ?side1 ?side2 A25.out).mono ?_);(case side1=>repeat (first|(with_reducible first|exact HI0.out|apply IsS58.alloc|apply IsS58.drewN|apply IsS58.drew|apply IsS58.set_1|apply IsS58.set_2|apply IsS58.far (hne:=NB0_214.out)|apply IsS58.far (hne:=NB0_227.out))|exact HI0.out));(case side2=>repeat (first|(with_reducible first|exact HB.out|apply below_alloc|apply pw_below_drewN|apply below_drew1|refine below_set ?_ (IsS58.ge HI0.out)|refine below_set ?_ GE214.out|refine below_set ?_ GE227.out)|exact HB.out));rintro e w77 ⟨rfl,hi,hb,hk⟩;refine⟨_,rfl,?_⟩;have n0_:=am (Kd.S_mono (Kd.S_keep (IsS58.apartS (show IsS58 w0 _ g s0_0 x1001_2 x1002_2 from by repeat (first|(with_reducible first|exact HI0.out|apply IsS58.alloc|apply IsS58.drewN|apply IsS58.drew|apply IsS58.set_1|apply IsS58.set_2|apply IsS58.far (hne:=NB0_214.out)|apply IsS58.far (hne:=NB0_227.out))|exact HI0.out)) (by(with_reducible repeat (first|apply Kd.S_alloc|apply Kd.S_drewN|apply Kd.S_drew));exact HO_228001.out) (by decide)) hk (fun _ h=>h.2)) (fun _ h=>h.1));have n1_:=am (KeepBut.blk hk (g':=gb214) (o:=.cells #[.int .i64 0,.slice none 0 0,.int .i64 0] 25 (0,0)) (bL BK214.out) NB214_0.out (by simp));have n2_:=am (KeepBut.blk hk (g':=gb227) (o:=.cells #[.int .i64 x228000_2,u228001,.int .i64 x228002_2] 25 (0,0)) (bL BK227.out) NB227_0.out (by simp));have n3_:=am (KeepBut.trans (by repeat (first|(with_reducible first|exact HK.out|apply KeepBut.set_|apply keep_drewN|apply keep_drew|apply keep_alloc|refine keep_far ?_ GW214.out _|refine keep_far ?_ GW227.out _)|exact HK.out)) hk (.inl rfl));have n4_:=am (hb);have n5_:=am (hi);clear HO_228001 BK214 BK227 HK HB;(try clear HI0);have HO_228001:=n0_;have BK214:=n1_;have BK227:=n2_;have HK:=n3_;have HB:=n4_;have HI0:=n5_;clear n0_ n1_ n2_ n3_ n4_ n5_;(try clear hb);(try clear hb2);(try clear hk);(try clear hi);obtain⟨Ao78,co78,eo78⟩:=Kd.S_slice HO_228001.out;subst eo78))
        (try (rw[drewN_self w77];generalize hq_:World.drewN w77 _=w77;have n0_:=am (Kd.S_at hq_ HO_228001.out);have n1_:=am (blk_at hq_ BK214.out);have n2_:=am (blk_at hq_ BK227.out);have n3_:=am (IsS58.at_ hq_ HI0.out);have n4_:=am (keep_at hq_ HK.out);have n5_:=am (below_at hq_ HB.out);clear hq_ HO_228001 BK214 BK227 HI0 HK HB;have HO_228001:=n0_;have BK214:=n1_;have BK227:=n2_;have HI0:=n3_;have HK:=n4_;have HB:=n5_;clear n0_ n1_ n2_ n3_ n4_ n5_))
        have n0_:=am (Kd.S_drew HO_228001.out)
        have n1_:=am (blk_drew BK214.out)
        have n2_:=am (blk_drew BK227.out)
        have n3_:=am (IsS58.drew HI0.out)
        have n4_:=am (keep_drew HK.out)
        have n5_:=am (below_drew1 HB.out)
        clear HO_228001 BK214 BK227 HI0 HK HB
        have HO_228001:=n0_
        have BK214:=n1_
        have BK227:=n2_
        have HI0:=n3_
        have HK:=n4_
        have HB:=n5_
        clear n0_ n1_ n2_ n3_ n4_ n5_
        refine start_ (n:=16) (S:=fun w'=>w'.cell? ⟨gb227,0,none⟩=some (.int .i64 x228000_2)∧w'.cell? ⟨gb227,1,none⟩=some (.slice Ao78 x228001_2.length co78)∧w'.cell? ⟨gb227,2,none⟩=some (.int .i64 x228002_2)) (ds:=[]) #[false,false,false,false,false,false,false,false,false,false,false,false,false,false,false,false] (by kernel_rfl) rfl rfl (cC3 BK227.out) (fun hHeld => ?_);refine with_tabW spec_l1Cur_turns.tab11 spec_l1Cur_turns.bits11 (fun HT_ HW_ => ?_)
        generalize w77.drew=w79 at HO_228001 BK214 BK227 HI0 HK HB hHeld ⊢
        refine pS HT_ 1 45 ?_;refine pS HT_ 2 46 ?_;refine pS HT_ 6 50 ?_;refine tS HT_ HW_ hHeld 0 44 ?_;refine tS HT_ HW_ hHeld 3 47 ?_;refine pS HT_ 4 48 ?_
        refine join_ (σ:=Value × Nat) 2 #[true,true,true,true,true,true,true,true,true,true,true,true,true,true,false,false] (fun s_=>[(49,.int .i64 t250),(51,.int .i64 t253),(53,.tuple #[.agg #[.int .i64 t256,s_.1,.int .i64 t260],.bool false]),(9,.pointer (some ⟨s_.2,0,none⟩)),(52,.int .i64 (wrap64 (1+t253))),(43,.tuple #[.agg #[.int .i64 t256,s_.1,.int .i64 t260],.bool false]),(54,.agg #[.int .i64 t256,s_.1,.int .i64 t260]),(55,.bool false)]) (fun s_ w'=>(w'.cell? ⟨gb227,0,none⟩=some (.int .i64 x228000_2)∧w'.cell? ⟨gb227,1,none⟩=some (.slice Ao78 x228001_2.length co78)∧w'.cell? ⟨gb227,2,none⟩=some (.int .i64 x228002_2))∧(Kd.S k34 34 w' w.heap.size (fun k_=>some k_≠(.slice Ao78 x228001_2.length co78:Value).ownBlock) s_.1 t257)∧(Kd.S k34 34 w' w.heap.size (fun k_=>some k_≠(s_.1:Value).ownBlock) (.slice Ao78 x228001_2.length co78) x228001_2)∧(w'.heap[gb214]?=some (.cells #[.int .i64 0,.slice none 0 0,.int .i64 0] 25 (0,0)))∧(w'.heap[gb227]?=some (.cells #[.int .i64 x228000_2,.slice Ao78 x228001_2.length co78,.int .i64 x228002_2] 25 (0,0)))∧(w'.heap[s_.2]?=some (.cells #[.int .i64 0,.slice none 0 0,.int .i64 0] 25 (0,0)))∧(w.heap.size≤s_.2)∧(w0.heap.size≤s_.2)∧(g≠s_.2)∧(s_.2≠g)∧(gb214≠s_.2)∧(s_.2≠gb214)∧(gb227≠s_.2)∧(s_.2≠gb227)∧(IsS58 w0 w' g s0_0 t254 t255)∧(KeepBut w w' g none)∧(Below w0.heap.size w0 w')) ?_ ?_
        rotate_left
        ·intro hCont
         refine two_ (i:=5) (j:=13) (Ni:=some 49) (Nj:=some 9) #[true,true,true,true,true,true,true,false,false,false,false,false,false,false,false,false] #[true,true,true,true,true,false,true,false,false,false,false,false,false,true,false,false] rfl rfl rfl rfl (two_of HT_.out (by kernel_rfl)) (by decide) (by decide) (fun K hK => ?_) (fun K hK => ?_)
         ·skip
          refine goes_ Try.func29 (by kernel_rfl) rfl #[.pointer (some ⟨g,0,none⟩),.int .i64 (x228001_2.length:Int)] (by rfl) rfl rfl (by(try simp only[List.map_toArray,List.map_cons,List.map_nil]);first|done|rfl|(simp only[List.length_drop,List.length_take];rfl)) ?_
          with_reducible refine(spec_l1Cur_pick.calls g s0_0 t238 t239 (x228001_2.length:Int) t250 t251 t252 w0 _ ?side1 ?side2 A54.out).mono ?_
          (case side1=>repeat (first|(with_reducible first|exact HI0.out|apply IsS58.alloc|apply IsS58.drewN|apply IsS58.drew|apply IsS58.set_1|apply IsS58.set_2|apply IsS58.far (hne:=NB0_214.out)|apply IsS58.far (hne:=NB0_227.out))|exact HI0.out))
          (case side2=>repeat (first|(with_reducible first|exact HB.out|apply below_alloc|apply pw_below_drewN|apply below_drew1|refine below_set ?_ (IsS58.ge HI0.out)|refine below_set ?_ GE214.out|refine below_set ?_ GE227.out)|exact HB.out))
          rintro e w80 ⟨rfl,hi,hb,hk⟩
          refine⟨_,rfl,?_⟩
          have n0_:=am (Kd.S_mono (Kd.S_keep (IsS58.apartS (show IsS58 w0 _ g s0_0 t238 t239 from by repeat (first|(with_reducible first|exact HI0.out|apply IsS58.alloc|apply IsS58.drewN|apply IsS58.drew|apply IsS58.set_1|apply IsS58.set_2|apply IsS58.far (hne:=NB0_214.out)|apply IsS58.far (hne:=NB0_227.out))|exact HI0.out)) (by(with_reducible repeat (first|apply Kd.S_alloc|apply Kd.S_drewN|apply Kd.S_drew));exact HO_228001.out) (by decide)) hk (fun _ h=>h.2)) (fun _ h=>h.1))
          have n1_:=am (KeepBut.blk hk (g':=gb214) (o:=.cells #[.int .i64 0,.slice none 0 0,.int .i64 0] 25 (0,0)) (bL BK214.out) NB214_0.out (by simp))
          have n2_:=am (KeepBut.blk hk (g':=gb227) (o:=.cells #[.int .i64 x228000_2,.slice Ao78 x228001_2.length co78,.int .i64 x228002_2] 25 (0,0)) (bL BK227.out) NB227_0.out (by simp))
          have n3_:=am (KeepBut.trans (by repeat (first|(with_reducible first|exact HK.out|apply KeepBut.set_|apply keep_drewN|apply keep_drew|apply keep_alloc|refine keep_far ?_ GW214.out _|refine keep_far ?_ GW227.out _)|exact HK.out)) hk (.inl rfl))
          have n4_:=am (hb)
          have n5_:=am (hi)
          clear HO_228001 BK214 BK227 HK HB HI0
          have HO_228001:=n0_
          have BK214:=n1_
          have BK227:=n2_
          have HK:=n3_
          have HB:=n4_
          have HI0:=n5_
          clear n0_ n1_ n2_ n3_ n4_ n5_
          (try clear hb)
          (try clear hb2)
          (try clear hk)
          (try clear hi)
          refine hK.out _ _ (cC3 BK227.out) (fun hHeld => ?_)
          clear hK K
          refine norm_ (a':=?_) ?_ ?_
          rotate_left
          ·show Act.put _ (some 49) _=_
           simp only[Act.put,zA,zB,zC,i64_w,i32_w]
           rfl
          refine two_ (i:=7) (j:=13) (Ni:=some 51) (Nj:=some 9) #[true,true,true,true,true,true,true,true,false,false,false,false,false,false,false,false] #[true,true,true,true,true,true,true,false,false,false,false,false,false,true,false,false] rfl rfl rfl rfl (two_of HT_.out (by kernel_rfl)) (by decide) (by decide) (fun K hK => ?_) (fun K hK => ?_)
          ·skip
           refine goes_ Try.func29 (by kernel_rfl) rfl #[.pointer (some ⟨g,0,none⟩),.int .i64 30] (by rfl) rfl rfl (by(try simp only[List.map_toArray,List.map_cons,List.map_nil]);first|done|rfl|(simp only[List.length_drop,List.length_take];rfl)) ?_
           with_reducible refine(spec_l1Cur_pick.calls g s0_0 t251 t252 30 t253 t254 t255 w0 _ ?side1 ?side2 A55.out).mono ?_
           (case side1=>repeat (first|(with_reducible first|exact HI0.out|apply IsS58.alloc|apply IsS58.drewN|apply IsS58.drew|apply IsS58.set_1|apply IsS58.set_2|apply IsS58.far (hne:=NB0_214.out)|apply IsS58.far (hne:=NB0_227.out))|exact HI0.out))
           (case side2=>repeat (first|(with_reducible first|exact HB.out|apply below_alloc|apply pw_below_drewN|apply below_drew1|refine below_set ?_ (IsS58.ge HI0.out)|refine below_set ?_ GE214.out|refine below_set ?_ GE227.out)|exact HB.out))
           rintro e w81 ⟨rfl,hi,hb,hk⟩
           refine⟨_,rfl,?_⟩
           have n0_:=am (Kd.S_mono (Kd.S_keep (IsS58.apartS (show IsS58 w0 _ g s0_0 t251 t252 from by repeat (first|(with_reducible first|exact HI0.out|apply IsS58.alloc|apply IsS58.drewN|apply IsS58.drew|apply IsS58.set_1|apply IsS58.set_2|apply IsS58.far (hne:=NB0_214.out)|apply IsS58.far (hne:=NB0_227.out))|exact HI0.out)) (by(with_reducible repeat (first|apply Kd.S_alloc|apply Kd.S_drewN|apply Kd.S_drew));exact HO_228001.out) (by decide)) hk (fun _ h=>h.2)) (fun _ h=>h.1))
           have n1_:=am (KeepBut.blk hk (g':=gb214) (o:=.cells #[.int .i64 0,.slice none 0 0,.int .i64 0] 25 (0,0)) (bL BK214.out) NB214_0.out (by simp))
           have n2_:=am (KeepBut.blk hk (g':=gb227) (o:=.cells #[.int .i64 x228000_2,.slice Ao78 x228001_2.length co78,.int .i64 x228002_2] 25 (0,0)) (bL BK227.out) NB227_0.out (by simp))
           have n3_:=am (KeepBut.trans (by repeat (first|(with_reducible first|exact HK.out|apply KeepBut.set_|apply keep_drewN|apply keep_drew|apply keep_alloc|refine keep_far ?_ GW214.out _|refine keep_far ?_ GW227.out _)|exact HK.out)) hk (.inl rfl))
           have n4_:=am (hb)
           have n5_:=am (hi)
           clear HO_228001 BK214 BK227 HK HB HI0
           have HO_228001:=n0_
           have BK214:=n1_
           have BK227:=n2_
           have HK:=n3_
           have HB:=n4_
           have HI0:=n5_
           clear n0_ n1_ n2_ n3_ n4_ n5_
           (try clear hb)
           (try clear hb2)
           (try clear hk)
           (try clear hi)
           refine hK.out _ _ (cC3 BK227.out) (fun hHeld => ?_)
           clear hK K
           refine norm_ (a':=?_) ?_ ?_
           rotate_left
           ·show Act.put _ (some 51) _=_
            simp only[Act.put,zA,zB,zC,i64_w,i32_w]
            rfl
           refine pS HT_ 8 52 ?_
           refine two_ (i:=9) (j:=13) (Ni:=some 53) (Nj:=some 9) #[true,true,true,true,true,true,true,true,true,true,false,false,false,false,false,false] #[true,true,true,true,true,true,true,true,true,false,false,false,false,true,false,false] rfl rfl rfl rfl (two_of HT_.out (by kernel_rfl)) (by decide) (by decide) (fun K hK => ?_) (fun K hK => ?_)
           ·skip
            refine goes_ Try.func14 (by kernel_rfl) rfl #[.agg #[.int .i64 x228000_2,.slice Ao78 x228001_2.length co78,.int .i64 x228002_2],.int .i64 t250,.int .i64 (wrap64 (1+t253))] (by rfl) rfl rfl (by(try simp only[List.map_toArray,List.map_cons,List.map_nil]);first|done|rfl|(simp only[List.length_drop,List.length_take];rfl)) ?_
            with_reducible refine(spec_PutLong.calls k2 x228000_2 _ _ x228001_2 x228002_2 t250 (wrap64 (1+t253)) t256 t257 t260 false _ ?side1 ?side2 A56.out).mono ?_
            (case side1=>repeat (first|exact(Kd.S_reads' HO_228001.out).2.2|(with_reducible refine Kd.C_alloc ?_ _)|(with_reducible refine Kd.C_drewN ?_ _)|(with_reducible refine Kd.C_drew ?_)))
            (case side2=>exact(Kd.S_reads' HO_228001.out).2.1)
            rintro e w82 ⟨v258,rfl,ho0,hb⟩
            refine⟨_,rfl,?_⟩
            have n0_:=am (Kd.S_elder' (by(with_reducible repeat (first|apply Kd.S_alloc|apply Kd.S_drewN|apply Kd.S_drew));exact HO_228001.out) (Kd.S_base ho0) hb)
            have n1_:=am (Kd.S_lower (Kd.S_new' ho0 (Kd.S_lt (by(with_reducible repeat (first|apply Kd.S_alloc|apply Kd.S_drewN|apply Kd.S_drew));exact HO_228001.out))) (keep_size (w:=w) (g:=g) (row:=none) (by repeat (first|(with_reducible first|exact HK.out|apply KeepBut.set_|apply keep_drewN|apply keep_drew|apply keep_alloc|refine keep_far ?_ GW214.out _|refine keep_far ?_ GW227.out _)|exact HK.out))))
            have n2_:=am (bM BK214.out hb)
            have n3_:=am (bM BK227.out hb)
            have n4_:=am (IsS58.below (by repeat (first|(with_reducible first|exact HI0.out|apply IsS58.alloc|apply IsS58.drewN|apply IsS58.drew|apply IsS58.set_1|apply IsS58.set_2|apply IsS58.far (hne:=NB0_214.out)|apply IsS58.far (hne:=NB0_227.out))|exact HI0.out)) hb)
            have n5_:=am (KeepBut.trans (by repeat (first|(with_reducible first|exact HK.out|apply KeepBut.set_|apply keep_drewN|apply keep_drew|apply keep_alloc|refine keep_far ?_ GW214.out _|refine keep_far ?_ GW227.out _)|exact HK.out)) (KeepBut.of_below hb g none) (.inl rfl))
            have n6_:=am (below_step (by repeat (first|(with_reducible first|exact HB.out|apply below_alloc|apply pw_below_drewN|apply below_drew1|refine below_set ?_ (IsS58.ge HI0.out)|refine below_set ?_ GE214.out|refine below_set ?_ GE227.out)|exact HB.out)) hb)
            clear HO_228001 BK214 BK227 HI0 HK HB
            have HO_228001:=n0_
            have HO259:=n1_
            have BK214:=n2_
            have BK227:=n3_
            have HI0:=n4_
            have HK:=n5_
            have HB:=n6_
            clear n0_ n1_ n2_ n3_ n4_ n5_ n6_
            (try clear hb)
            (try clear hb2)
            (try clear hk)
            (try clear hi)
            (try clear ho0)
            refine hK.out _ _ (cC3 BK227.out) (fun hHeld => ?_)
            clear hK K
            refine norm_ (a':=?_) ?_ ?_
            rotate_left
            ·show Act.put _ (some 53) _=_
             simp only[Act.put,zA,zB,zC,i64_w,i32_w]
             rfl
            refine pS HT_ 10 43 ?_;refine pS HT_ 11 54 ?_;refine pS HT_ 12 55 ?_
            refine one_ (i:=13) (N:=some 9) #[true,true,true,true,true,true,true,true,true,true,true,true,true,true,false,false] rfl rfl (one_of HT_.out (by kernel_rfl)) (by decide) (fun K hK => ?_)
            refine box_step ?hg (N:=9) ?hd (cs:=#[.int .i64 0,.slice none 0 0,.int .i64 0]) (t:=25) ?hr ?_;(case hd=>rfl);(case hg=>rfl);(case hr=>first|(go_simp;done)|(go_simp;rfl))
            intro gb262 hg w83 hbox hb
            have n0_:=am (Kd.S_below (by(with_reducible repeat (first|apply Kd.S_alloc|apply Kd.S_drewN|apply Kd.S_drew));exact HO_228001.out) hb)
            have n1_:=am (Kd.S_below (by(with_reducible repeat (first|apply Kd.S_alloc|apply Kd.S_drewN|apply Kd.S_drew));exact HO259.out) hb)
            have n2_:=am (bM BK214.out hb)
            have n3_:=am (bM BK227.out hb)
            have n4_:=am (IsS58.below (by repeat (first|(with_reducible first|exact HI0.out|apply IsS58.alloc|apply IsS58.drewN|apply IsS58.drew|apply IsS58.set_1|apply IsS58.set_2|apply IsS58.far (hne:=NB0_214.out)|apply IsS58.far (hne:=NB0_227.out))|exact HI0.out)) hb)
            have n5_:=am (KeepBut.trans (by repeat (first|(with_reducible first|exact HK.out|apply KeepBut.set_|apply keep_drewN|apply keep_drew|apply keep_alloc|refine keep_far ?_ GW214.out _|refine keep_far ?_ GW227.out _)|exact HK.out)) (KeepBut.of_below hb g none) (.inl rfl))
            have n6_:=am (below_step (by repeat (first|(with_reducible first|exact HB.out|apply below_alloc|apply pw_below_drewN|apply below_drew1|refine below_set ?_ (IsS58.ge HI0.out)|refine below_set ?_ GE214.out|refine below_set ?_ GE227.out)|exact HB.out)) hb)
            have n7_:=am (hbox)
            have n8_:=am ((by rw[hg];exact(keep_size (w:=w) (g:=g) (row:=none) (by repeat (first|(with_reducible first|exact HK.out|apply KeepBut.set_|apply keep_drewN|apply keep_drew|apply keep_alloc|refine keep_far ?_ GW214.out _|refine keep_far ?_ GW227.out _)|exact HK.out))):w.heap.size≤gb262))
            have n9_:=am ((Nat.le_trans HW0.out (by rw[hg];exact(keep_size (w:=w) (g:=g) (row:=none) (by repeat (first|(with_reducible first|exact HK.out|apply KeepBut.set_|apply keep_drewN|apply keep_drew|apply keep_alloc|refine keep_far ?_ GW214.out _|refine keep_far ?_ GW227.out _)|exact HK.out))):w.heap.size≤gb262):w0.heap.size≤gb262))
            have n10_:=am ((bN BK214.out hg:gb214≠gb262))
            have n11_:=am ((bO BK214.out hg:gb262≠gb214))
            have n12_:=am ((bN BK227.out hg:gb227≠gb262))
            have n13_:=am ((bO BK227.out hg:gb262≠gb227))
            have n14_:=am ((by rw[hg];exact Nat.ne_of_lt (IsS58.lt (show IsS58 w0 _ g s0_0 t254 t255 from by repeat (first|(with_reducible first|exact HI0.out|apply IsS58.alloc|apply IsS58.drewN|apply IsS58.drew|apply IsS58.set_1|apply IsS58.set_2|apply IsS58.far (hne:=NB0_214.out)|apply IsS58.far (hne:=NB0_227.out))|exact HI0.out))):g≠gb262))
            have n15_:=am ((by rw[hg];exact Nat.ne_of_gt (IsS58.lt (show IsS58 w0 _ g s0_0 t254 t255 from by repeat (first|(with_reducible first|exact HI0.out|apply IsS58.alloc|apply IsS58.drewN|apply IsS58.drew|apply IsS58.set_1|apply IsS58.set_2|apply IsS58.far (hne:=NB0_214.out)|apply IsS58.far (hne:=NB0_227.out))|exact HI0.out))):gb262≠g))
            clear HO_228001 HO259 BK214 BK227 HI0 HK HB
            have HO_228001:=n0_
            have HO259:=n1_
            have BK214:=n2_
            have BK227:=n3_
            have HI0:=n4_
            have HK:=n5_
            have HB:=n6_
            have BK262:=n7_
            have GW262:=n8_
            have GE262:=n9_
            have NB214_262:=n10_
            have NB262_214:=n11_
            have NB227_262:=n12_
            have NB262_227:=n13_
            have NB0_262:=n14_
            have NB262_0:=n15_
            clear n0_ n1_ n2_ n3_ n4_ n5_ n6_ n7_ n8_ n9_ n10_ n11_ n12_ n13_ n14_ n15_ hb hbox hg
            refine hK.out _ _ (cC3 BK227.out) (fun hHeld => ?_)
            clear hK K
            refine norm_ (a':=?_) ?_ ?_
            rotate_left
            ·show Act.put _ (some 9) _=_
             simp only[Act.put,zA,zB,zC,i64_w,i32_w]
             rfl
            exact norm_ (by simp only[putAll,Act.put,zA,zB,zC]) (hCont (v258,gb262) _ ⟨hHeld,(by(with_reducible repeat (first|apply Kd.S_alloc|apply Kd.S_drewN|apply Kd.S_drew));exact Kd.S_mono HO259.out (fun _ hk=>hk.2)),(by(with_reducible repeat (first|apply Kd.S_alloc|apply Kd.S_drewN|apply Kd.S_drew));exact Kd.S_mono HO_228001.out (fun _ hk=>hk.2)),(bL BK214.out),(bL BK227.out),(bL BK262.out),GW262.out,GE262.out,NB0_262.out,NB262_0.out,NB214_262.out,NB262_214.out,NB227_262.out,NB262_227.out,(by repeat (first|(with_reducible first|exact HI0.out|apply IsS58.alloc|apply IsS58.drewN|apply IsS58.drew|apply IsS58.set_1|apply IsS58.set_2|apply IsS58.far (hne:=NB0_214.out)|apply IsS58.far (hne:=NB0_227.out)|apply IsS58.far (hne:=NB0_262.out))|exact HI0.out)),(by repeat (first|(with_reducible first|exact HK.out|apply KeepBut.set_|apply keep_drewN|apply keep_drew|apply keep_alloc|refine keep_far ?_ GW214.out _|refine keep_far ?_ GW227.out _|refine keep_far ?_ GW262.out _)|exact HK.out)),(by repeat (first|(with_reducible first|exact HB.out|apply below_alloc|apply pw_below_drewN|apply below_drew1|refine below_set ?_ (IsS58.ge HI0.out)|refine below_set ?_ GE214.out|refine below_set ?_ GE227.out|refine below_set ?_ GE262.out)|exact HB.out))⟩)
           ·skip
            refine box_step ?hg (N:=9) ?hd (cs:=#[.int .i64 0,.slice none 0 0,.int .i64 0]) (t:=25) ?hr ?_;(case hd=>rfl);(case hg=>rfl);(case hr=>first|(go_simp;done)|(go_simp;rfl))
            intro gb262 hg w82 hbox hb
            have n0_:=am (Kd.S_below (by(with_reducible repeat (first|apply Kd.S_alloc|apply Kd.S_drewN|apply Kd.S_drew));exact HO_228001.out) hb)
            have n1_:=am (bM BK214.out hb)
            have n2_:=am (bM BK227.out hb)
            have n3_:=am (IsS58.below (by repeat (first|(with_reducible first|exact HI0.out|apply IsS58.alloc|apply IsS58.drewN|apply IsS58.drew|apply IsS58.set_1|apply IsS58.set_2|apply IsS58.far (hne:=NB0_214.out)|apply IsS58.far (hne:=NB0_227.out))|exact HI0.out)) hb)
            have n4_:=am (KeepBut.trans (by repeat (first|(with_reducible first|exact HK.out|apply KeepBut.set_|apply keep_drewN|apply keep_drew|apply keep_alloc|refine keep_far ?_ GW214.out _|refine keep_far ?_ GW227.out _)|exact HK.out)) (KeepBut.of_below hb g none) (.inl rfl))
            have n5_:=am (below_step (by repeat (first|(with_reducible first|exact HB.out|apply below_alloc|apply pw_below_drewN|apply below_drew1|refine below_set ?_ (IsS58.ge HI0.out)|refine below_set ?_ GE214.out|refine below_set ?_ GE227.out)|exact HB.out)) hb)
            have n6_:=am (hbox)
            have n7_:=am ((by rw[hg];exact(keep_size (w:=w) (g:=g) (row:=none) (by repeat (first|(with_reducible first|exact HK.out|apply KeepBut.set_|apply keep_drewN|apply keep_drew|apply keep_alloc|refine keep_far ?_ GW214.out _|refine keep_far ?_ GW227.out _)|exact HK.out))):w.heap.size≤gb262))
            have n8_:=am ((Nat.le_trans HW0.out (by rw[hg];exact(keep_size (w:=w) (g:=g) (row:=none) (by repeat (first|(with_reducible first|exact HK.out|apply KeepBut.set_|apply keep_drewN|apply keep_drew|apply keep_alloc|refine keep_far ?_ GW214.out _|refine keep_far ?_ GW227.out _)|exact HK.out))):w.heap.size≤gb262):w0.heap.size≤gb262))
            have n9_:=am ((bN BK214.out hg:gb214≠gb262))
            have n10_:=am ((bO BK214.out hg:gb262≠gb214))
            have n11_:=am ((bN BK227.out hg:gb227≠gb262))
            have n12_:=am ((bO BK227.out hg:gb262≠gb227))
            have n13_:=am ((by rw[hg];exact Nat.ne_of_lt (IsS58.lt (show IsS58 w0 _ g s0_0 t254 t255 from by repeat (first|(with_reducible first|exact HI0.out|apply IsS58.alloc|apply IsS58.drewN|apply IsS58.drew|apply IsS58.set_1|apply IsS58.set_2|apply IsS58.far (hne:=NB0_214.out)|apply IsS58.far (hne:=NB0_227.out))|exact HI0.out))):g≠gb262))
            have n14_:=am ((by rw[hg];exact Nat.ne_of_gt (IsS58.lt (show IsS58 w0 _ g s0_0 t254 t255 from by repeat (first|(with_reducible first|exact HI0.out|apply IsS58.alloc|apply IsS58.drewN|apply IsS58.drew|apply IsS58.set_1|apply IsS58.set_2|apply IsS58.far (hne:=NB0_214.out)|apply IsS58.far (hne:=NB0_227.out))|exact HI0.out))):gb262≠g))
            clear HO_228001 BK214 BK227 HI0 HK HB
            have HO_228001:=n0_
            have BK214:=n1_
            have BK227:=n2_
            have HI0:=n3_
            have HK:=n4_
            have HB:=n5_
            have BK262:=n6_
            have GW262:=n7_
            have GE262:=n8_
            have NB214_262:=n9_
            have NB262_214:=n10_
            have NB227_262:=n11_
            have NB262_227:=n12_
            have NB0_262:=n13_
            have NB262_0:=n14_
            clear n0_ n1_ n2_ n3_ n4_ n5_ n6_ n7_ n8_ n9_ n10_ n11_ n12_ n13_ n14_ hb hbox hg
            refine hK.out _ _ (cC3 BK227.out) (fun hHeld => ?_)
            clear hK K
            refine norm_ (a':=?_) ?_ ?_
            rotate_left
            ·show Act.put _ (some 9) _=_
             simp only[Act.put,zA,zB,zC,i64_w,i32_w]
             rfl
            refine one_ (i:=9) (N:=some 53) #[true,true,true,true,true,true,true,true,true,true,false,false,false,true,false,false] rfl rfl (one_of HT_.out (by kernel_rfl)) (by decide) (fun K hK => ?_)
            refine goes_ Try.func14 (by kernel_rfl) rfl #[.agg #[.int .i64 x228000_2,.slice Ao78 x228001_2.length co78,.int .i64 x228002_2],.int .i64 t250,.int .i64 (wrap64 (1+t253))] (by rfl) rfl rfl (by(try simp only[List.map_toArray,List.map_cons,List.map_nil]);first|done|rfl|(simp only[List.length_drop,List.length_take];rfl)) ?_
            with_reducible refine(spec_PutLong.calls k2 x228000_2 _ _ x228001_2 x228002_2 t250 (wrap64 (1+t253)) t256 t257 t260 false _ ?side1 ?side2 A56.out).mono ?_
            (case side1=>repeat (first|exact(Kd.S_reads' HO_228001.out).2.2|(with_reducible refine Kd.C_alloc ?_ _)|(with_reducible refine Kd.C_drewN ?_ _)|(with_reducible refine Kd.C_drew ?_)))
            (case side2=>exact(Kd.S_reads' HO_228001.out).2.1)
            rintro e w83 ⟨v258,rfl,ho0,hb⟩
            refine⟨_,rfl,?_⟩
            have n0_:=am (Kd.S_elder' (by(with_reducible repeat (first|apply Kd.S_alloc|apply Kd.S_drewN|apply Kd.S_drew));exact HO_228001.out) (Kd.S_base ho0) hb)
            have n1_:=am (Kd.S_lower (Kd.S_new' ho0 (Kd.S_lt (by(with_reducible repeat (first|apply Kd.S_alloc|apply Kd.S_drewN|apply Kd.S_drew));exact HO_228001.out))) (keep_size (w:=w) (g:=g) (row:=none) (by repeat (first|(with_reducible first|exact HK.out|apply KeepBut.set_|apply keep_drewN|apply keep_drew|apply keep_alloc|refine keep_far ?_ GW214.out _|refine keep_far ?_ GW227.out _|refine keep_far ?_ GW262.out _)|exact HK.out))))
            have n2_:=am (bM BK214.out hb)
            have n3_:=am (bM BK227.out hb)
            have n4_:=am (IsS58.below (by repeat (first|(with_reducible first|exact HI0.out|apply IsS58.alloc|apply IsS58.drewN|apply IsS58.drew|apply IsS58.set_1|apply IsS58.set_2|apply IsS58.far (hne:=NB0_214.out)|apply IsS58.far (hne:=NB0_227.out)|apply IsS58.far (hne:=NB0_262.out))|exact HI0.out)) hb)
            have n5_:=am (bM BK262.out hb)
            have n6_:=am (KeepBut.trans (by repeat (first|(with_reducible first|exact HK.out|apply KeepBut.set_|apply keep_drewN|apply keep_drew|apply keep_alloc|refine keep_far ?_ GW214.out _|refine keep_far ?_ GW227.out _|refine keep_far ?_ GW262.out _)|exact HK.out)) (KeepBut.of_below hb g none) (.inl rfl))
            have n7_:=am (below_step (by repeat (first|(with_reducible first|exact HB.out|apply below_alloc|apply pw_below_drewN|apply below_drew1|refine below_set ?_ (IsS58.ge HI0.out)|refine below_set ?_ GE214.out|refine below_set ?_ GE227.out|refine below_set ?_ GE262.out)|exact HB.out)) hb)
            clear HO_228001 BK214 BK227 HI0 BK262 HK HB
            have HO_228001:=n0_
            have HO259:=n1_
            have BK214:=n2_
            have BK227:=n3_
            have HI0:=n4_
            have BK262:=n5_
            have HK:=n6_
            have HB:=n7_
            clear n0_ n1_ n2_ n3_ n4_ n5_ n6_ n7_
            (try clear hb)
            (try clear hb2)
            (try clear hk)
            (try clear hi)
            (try clear ho0)
            refine hK.out _ _ (cC3 BK227.out) (fun hHeld => ?_)
            clear hK K
            refine norm_ (a':=?_) ?_ ?_
            rotate_left
            ·show Act.put _ (some 53) _=_
             simp only[Act.put,zA,zB,zC,i64_w,i32_w]
             rfl
            refine pS HT_ 10 43 ?_;refine pS HT_ 11 54 ?_;refine pS HT_ 12 55 ?_
            exact norm_ (by simp only[putAll,Act.put,zA,zB,zC]) (hCont (v258,gb262) _ ⟨hHeld,(by(with_reducible repeat (first|apply Kd.S_alloc|apply Kd.S_drewN|apply Kd.S_drew));exact Kd.S_mono HO259.out (fun _ hk=>hk.2)),(by(with_reducible repeat (first|apply Kd.S_alloc|apply Kd.S_drewN|apply Kd.S_drew));exact Kd.S_mono HO_228001.out (fun _ hk=>hk.2)),(bL BK214.out),(bL BK227.out),(bL BK262.out),GW262.out,GE262.out,NB0_262.out,NB262_0.out,NB214_262.out,NB262_214.out,NB227_262.out,NB262_227.out,(by repeat (first|(with_reducible first|exact HI0.out|apply IsS58.alloc|apply IsS58.drewN|apply IsS58.drew|apply IsS58.set_1|apply IsS58.set_2|apply IsS58.far (hne:=NB0_214.out)|apply IsS58.far (hne:=NB0_227.out)|apply IsS58.far (hne:=NB0_262.out))|exact HI0.out)),(by repeat (first|(with_reducible first|exact HK.out|apply KeepBut.set_|apply keep_drewN|apply keep_drew|apply keep_alloc|refine keep_far ?_ GW214.out _|refine keep_far ?_ GW227.out _|refine keep_far ?_ GW262.out _)|exact HK.out)),(by repeat (first|(with_reducible first|exact HB.out|apply below_alloc|apply pw_below_drewN|apply below_drew1|refine below_set ?_ (IsS58.ge HI0.out)|refine below_set ?_ GE214.out|refine below_set ?_ GE227.out|refine below_set ?_ GE262.out)|exact HB.out))⟩)
          ·skip
           refine box_step ?hg (N:=9) ?hd (cs:=#[.int .i64 0,.slice none 0 0,.int .i64 0]) (t:=25) ?hr ?_;(case hd=>rfl);(case hg=>rfl);(case hr=>first|(go_simp;done)|(go_simp;rfl))
           intro gb262 hg w81 hbox hb
           have n0_:=am (Kd.S_below (by(with_reducible repeat (first|apply Kd.S_alloc|apply Kd.S_drewN|apply Kd.S_drew));exact HO_228001.out) hb)
           have n1_:=am (bM BK214.out hb)
           have n2_:=am (bM BK227.out hb)
           have n3_:=am (IsS58.below (by repeat (first|(with_reducible first|exact HI0.out|apply IsS58.alloc|apply IsS58.drewN|apply IsS58.drew|apply IsS58.set_1|apply IsS58.set_2|apply IsS58.far (hne:=NB0_214.out)|apply IsS58.far (hne:=NB0_227.out))|exact HI0.out)) hb)
           have n4_:=am (KeepBut.trans (by repeat (first|(with_reducible first|exact HK.out|apply KeepBut.set_|apply keep_drewN|apply keep_drew|apply keep_alloc|refine keep_far ?_ GW214.out _|refine keep_far ?_ GW227.out _)|exact HK.out)) (KeepBut.of_below hb g none) (.inl rfl))
           have n5_:=am (below_step (by repeat (first|(with_reducible first|exact HB.out|apply below_alloc|apply pw_below_drewN|apply below_drew1|refine below_set ?_ (IsS58.ge HI0.out)|refine below_set ?_ GE214.out|refine below_set ?_ GE227.out)|exact HB.out)) hb)
           have n6_:=am (hbox)
           have n7_:=am ((by rw[hg];exact(keep_size (w:=w) (g:=g) (row:=none) (by repeat (first|(with_reducible first|exact HK.out|apply KeepBut.set_|apply keep_drewN|apply keep_drew|apply keep_alloc|refine keep_far ?_ GW214.out _|refine keep_far ?_ GW227.out _)|exact HK.out))):w.heap.size≤gb262))
           have n8_:=am ((Nat.le_trans HW0.out (by rw[hg];exact(keep_size (w:=w) (g:=g) (row:=none) (by repeat (first|(with_reducible first|exact HK.out|apply KeepBut.set_|apply keep_drewN|apply keep_drew|apply keep_alloc|refine keep_far ?_ GW214.out _|refine keep_far ?_ GW227.out _)|exact HK.out))):w.heap.size≤gb262):w0.heap.size≤gb262))
           have n9_:=am ((bN BK214.out hg:gb214≠gb262))
           have n10_:=am ((bO BK214.out hg:gb262≠gb214))
           have n11_:=am ((bN BK227.out hg:gb227≠gb262))
           have n12_:=am ((bO BK227.out hg:gb262≠gb227))
           have n13_:=am ((by rw[hg];exact Nat.ne_of_lt (IsS58.lt (show IsS58 w0 _ g s0_0 t251 t252 from by repeat (first|(with_reducible first|exact HI0.out|apply IsS58.alloc|apply IsS58.drewN|apply IsS58.drew|apply IsS58.set_1|apply IsS58.set_2|apply IsS58.far (hne:=NB0_214.out)|apply IsS58.far (hne:=NB0_227.out))|exact HI0.out))):g≠gb262))
           have n14_:=am ((by rw[hg];exact Nat.ne_of_gt (IsS58.lt (show IsS58 w0 _ g s0_0 t251 t252 from by repeat (first|(with_reducible first|exact HI0.out|apply IsS58.alloc|apply IsS58.drewN|apply IsS58.drew|apply IsS58.set_1|apply IsS58.set_2|apply IsS58.far (hne:=NB0_214.out)|apply IsS58.far (hne:=NB0_227.out))|exact HI0.out))):gb262≠g))
           clear HO_228001 BK214 BK227 HI0 HK HB
           have HO_228001:=n0_
           have BK214:=n1_
           have BK227:=n2_
           have HI0:=n3_
           have HK:=n4_
           have HB:=n5_
           have BK262:=n6_
           have GW262:=n7_
           have GE262:=n8_
           have NB214_262:=n9_
           have NB262_214:=n10_
           have NB227_262:=n11_
           have NB262_227:=n12_
           have NB0_262:=n13_
           have NB262_0:=n14_
           clear n0_ n1_ n2_ n3_ n4_ n5_ n6_ n7_ n8_ n9_ n10_ n11_ n12_ n13_ n14_ hb hbox hg
           refine hK.out _ _ (cC3 BK227.out) (fun hHeld => ?_)
           clear hK K
           refine norm_ (a':=?_) ?_ ?_
           rotate_left
           ·show Act.put _ (some 9) _=_
            simp only[Act.put,zA,zB,zC,i64_w,i32_w]
            rfl
           refine one_ (i:=7) (N:=some 51) #[true,true,true,true,true,true,true,true,false,false,false,false,false,true,false,false] rfl rfl (one_of HT_.out (by kernel_rfl)) (by decide) (fun K hK => ?_)
           refine goes_ Try.func29 (by kernel_rfl) rfl #[.pointer (some ⟨g,0,none⟩),.int .i64 30] (by rfl) rfl rfl (by(try simp only[List.map_toArray,List.map_cons,List.map_nil]);first|done|rfl|(simp only[List.length_drop,List.length_take];rfl)) ?_
           with_reducible refine(spec_l1Cur_pick.calls g s0_0 t251 t252 30 t253 t254 t255 w0 _ ?side1 ?side2 A55.out).mono ?_
           (case side1=>repeat (first|(with_reducible first|exact HI0.out|apply IsS58.alloc|apply IsS58.drewN|apply IsS58.drew|apply IsS58.set_1|apply IsS58.set_2|apply IsS58.far (hne:=NB0_214.out)|apply IsS58.far (hne:=NB0_227.out)|apply IsS58.far (hne:=NB0_262.out))|exact HI0.out))
           (case side2=>repeat (first|(with_reducible first|exact HB.out|apply below_alloc|apply pw_below_drewN|apply below_drew1|refine below_set ?_ (IsS58.ge HI0.out)|refine below_set ?_ GE214.out|refine below_set ?_ GE227.out|refine below_set ?_ GE262.out)|exact HB.out))
           rintro e w82 ⟨rfl,hi,hb,hk⟩
           refine⟨_,rfl,?_⟩
           have n0_:=am (Kd.S_mono (Kd.S_keep (IsS58.apartS (show IsS58 w0 _ g s0_0 t251 t252 from by repeat (first|(with_reducible first|exact HI0.out|apply IsS58.alloc|apply IsS58.drewN|apply IsS58.drew|apply IsS58.set_1|apply IsS58.set_2|apply IsS58.far (hne:=NB0_214.out)|apply IsS58.far (hne:=NB0_227.out)|apply IsS58.far (hne:=NB0_262.out))|exact HI0.out)) (by(with_reducible repeat (first|apply Kd.S_alloc|apply Kd.S_drewN|apply Kd.S_drew));exact HO_228001.out) (by decide)) hk (fun _ h=>h.2)) (fun _ h=>h.1))
           have n1_:=am (KeepBut.blk hk (g':=gb214) (o:=.cells #[.int .i64 0,.slice none 0 0,.int .i64 0] 25 (0,0)) (bL BK214.out) NB214_0.out (by simp))
           have n2_:=am (KeepBut.blk hk (g':=gb227) (o:=.cells #[.int .i64 x228000_2,.slice Ao78 x228001_2.length co78,.int .i64 x228002_2] 25 (0,0)) (bL BK227.out) NB227_0.out (by simp))
           have n3_:=am (KeepBut.blk hk (g':=gb262) (o:=.cells #[.int .i64 0,.slice none 0 0,.int .i64 0] 25 (0,0)) (bL BK262.out) NB262_0.out (by simp))
           have n4_:=am (KeepBut.trans (by repeat (first|(with_reducible first|exact HK.out|apply KeepBut.set_|apply keep_drewN|apply keep_drew|apply keep_alloc|refine keep_far ?_ GW214.out _|refine keep_far ?_ GW227.out _|refine keep_far ?_ GW262.out _)|exact HK.out)) hk (.inl rfl))
           have n5_:=am (hb)
           have n6_:=am (hi)
           clear HO_228001 BK214 BK227 BK262 HK HB HI0
           have HO_228001:=n0_
           have BK214:=n1_
           have BK227:=n2_
           have BK262:=n3_
           have HK:=n4_
           have HB:=n5_
           have HI0:=n6_
           clear n0_ n1_ n2_ n3_ n4_ n5_ n6_
           (try clear hb)
           (try clear hb2)
           (try clear hk)
           (try clear hi)
           refine hK.out _ _ (cC3 BK227.out) (fun hHeld => ?_)
           clear hK K
           refine norm_ (a':=?_) ?_ ?_
           rotate_left
           ·show Act.put _ (some 51) _=_
            simp only[Act.put,zA,zB,zC,i64_w,i32_w]
            rfl
           refine pS HT_ 8 52 ?_
           refine one_ (i:=9) (N:=some 53) #[true,true,true,true,true,true,true,true,true,true,false,false,false,true,false,false] rfl rfl (one_of HT_.out (by kernel_rfl)) (by decide) (fun K hK => ?_)
           refine goes_ Try.func14 (by kernel_rfl) rfl #[.agg #[.int .i64 x228000_2,.slice Ao78 x228001_2.length co78,.int .i64 x228002_2],.int .i64 t250,.int .i64 (wrap64 (1+t253))] (by rfl) rfl rfl (by(try simp only[List.map_toArray,List.map_cons,List.map_nil]);first|done|rfl|(simp only[List.length_drop,List.length_take];rfl)) ?_
           with_reducible refine(spec_PutLong.calls k2 x228000_2 _ _ x228001_2 x228002_2 t250 (wrap64 (1+t253)) t256 t257 t260 false _ ?side1 ?side2 A56.out).mono ?_
           (case side1=>repeat (first|exact(Kd.S_reads' HO_228001.out).2.2|(with_reducible refine Kd.C_alloc ?_ _)|(with_reducible refine Kd.C_drewN ?_ _)|(with_reducible refine Kd.C_drew ?_)))
           (case side2=>exact(Kd.S_reads' HO_228001.out).2.1)
           rintro e w83 ⟨v258,rfl,ho0,hb⟩
           refine⟨_,rfl,?_⟩
           have n0_:=am (Kd.S_elder' (by(with_reducible repeat (first|apply Kd.S_alloc|apply Kd.S_drewN|apply Kd.S_drew));exact HO_228001.out) (Kd.S_base ho0) hb)
           have n1_:=am (Kd.S_lower (Kd.S_new' ho0 (Kd.S_lt (by(with_reducible repeat (first|apply Kd.S_alloc|apply Kd.S_drewN|apply Kd.S_drew));exact HO_228001.out))) (keep_size (w:=w) (g:=g) (row:=none) (by repeat (first|(with_reducible first|exact HK.out|apply KeepBut.set_|apply keep_drewN|apply keep_drew|apply keep_alloc|refine keep_far ?_ GW214.out _|refine keep_far ?_ GW227.out _|refine keep_far ?_ GW262.out _)|exact HK.out))))
           have n2_:=am (bM BK214.out hb)
           have n3_:=am (bM BK227.out hb)
           have n4_:=am (IsS58.below (by repeat (first|(with_reducible first|exact HI0.out|apply IsS58.alloc|apply IsS58.drewN|apply IsS58.drew|apply IsS58.set_1|apply IsS58.set_2|apply IsS58.far (hne:=NB0_214.out)|apply IsS58.far (hne:=NB0_227.out)|apply IsS58.far (hne:=NB0_262.out))|exact HI0.out)) hb)
           have n5_:=am (bM BK262.out hb)
           have n6_:=am (KeepBut.trans (by repeat (first|(with_reducible first|exact HK.out|apply KeepBut.set_|apply keep_drewN|apply keep_drew|apply keep_alloc|refine keep_far ?_ GW214.out _|refine keep_far ?_ GW227.out _|refine keep_far ?_ GW262.out _)|exact HK.out)) (KeepBut.of_below hb g none) (.inl rfl))
           have n7_:=am (below_step (by repeat (first|(with_reducible first|exact HB.out|apply below_alloc|apply pw_below_drewN|apply below_drew1|refine below_set ?_ (IsS58.ge HI0.out)|refine below_set ?_ GE214.out|refine below_set ?_ GE227.out|refine below_set ?_ GE262.out)|exact HB.out)) hb)
           clear HO_228001 BK214 BK227 HI0 BK262 HK HB
           have HO_228001:=n0_
           have HO259:=n1_
           have BK214:=n2_
           have BK227:=n3_
           have HI0:=n4_
           have BK262:=n5_
           have HK:=n6_
           have HB:=n7_
           clear n0_ n1_ n2_ n3_ n4_ n5_ n6_ n7_
           (try clear hb)
           (try clear hb2)
           (try clear hk)
           (try clear hi)
           (try clear ho0)
           refine hK.out _ _ (cC3 BK227.out) (fun hHeld => ?_)
           clear hK K
           refine norm_ (a':=?_) ?_ ?_
           rotate_left
           ·show Act.put _ (some 53) _=_
            simp only[Act.put,zA,zB,zC,i64_w,i32_w]
            rfl
           refine pS HT_ 10 43 ?_;refine pS HT_ 11 54 ?_;refine pS HT_ 12 55 ?_
           exact norm_ (by simp only[putAll,Act.put,zA,zB,zC]) (hCont (v258,gb262) _ ⟨hHeld,(by(with_reducible repeat (first|apply Kd.S_alloc|apply Kd.S_drewN|apply Kd.S_drew));exact Kd.S_mono HO259.out (fun _ hk=>hk.2)),(by(with_reducible repeat (first|apply Kd.S_alloc|apply Kd.S_drewN|apply Kd.S_drew));exact Kd.S_mono HO_228001.out (fun _ hk=>hk.2)),(bL BK214.out),(bL BK227.out),(bL BK262.out),GW262.out,GE262.out,NB0_262.out,NB262_0.out,NB214_262.out,NB262_214.out,NB227_262.out,NB262_227.out,(by repeat (first|(with_reducible first|exact HI0.out|apply IsS58.alloc|apply IsS58.drewN|apply IsS58.drew|apply IsS58.set_1|apply IsS58.set_2|apply IsS58.far (hne:=NB0_214.out)|apply IsS58.far (hne:=NB0_227.out)|apply IsS58.far (hne:=NB0_262.out))|exact HI0.out)),(by repeat (first|(with_reducible first|exact HK.out|apply KeepBut.set_|apply keep_drewN|apply keep_drew|apply keep_alloc|refine keep_far ?_ GW214.out _|refine keep_far ?_ GW227.out _|refine keep_far ?_ GW262.out _)|exact HK.out)),(by repeat (first|(with_reducible first|exact HB.out|apply below_alloc|apply pw_below_drewN|apply below_drew1|refine below_set ?_ (IsS58.ge HI0.out)|refine below_set ?_ GE214.out|refine below_set ?_ GE227.out|refine below_set ?_ GE262.out)|exact HB.out))⟩)
         ·skip
          refine box_step ?hg (N:=9) ?hd (cs:=#[.int .i64 0,.slice none 0 0,.int .i64 0]) (t:=25) ?hr ?_;(case hd=>rfl);(case hg=>rfl);(case hr=>first|(go_simp;done)|(go_simp;rfl))
          intro gb262 hg w80 hbox hb
          have n0_:=am (Kd.S_below (by(with_reducible repeat (first|apply Kd.S_alloc|apply Kd.S_drewN|apply Kd.S_drew));exact HO_228001.out) hb)
          have n1_:=am (bM BK214.out hb)
          have n2_:=am (bM BK227.out hb)
          have n3_:=am (IsS58.below (by repeat (first|(with_reducible first|exact HI0.out|apply IsS58.alloc|apply IsS58.drewN|apply IsS58.drew|apply IsS58.set_1|apply IsS58.set_2|apply IsS58.far (hne:=NB0_214.out)|apply IsS58.far (hne:=NB0_227.out))|exact HI0.out)) hb)
          have n4_:=am (KeepBut.trans (by repeat (first|(with_reducible first|exact HK.out|apply KeepBut.set_|apply keep_drewN|apply keep_drew|apply keep_alloc|refine keep_far ?_ GW214.out _|refine keep_far ?_ GW227.out _)|exact HK.out)) (KeepBut.of_below hb g none) (.inl rfl))
          have n5_:=am (below_step (by repeat (first|(with_reducible first|exact HB.out|apply below_alloc|apply pw_below_drewN|apply below_drew1|refine below_set ?_ (IsS58.ge HI0.out)|refine below_set ?_ GE214.out|refine below_set ?_ GE227.out)|exact HB.out)) hb)
          have n6_:=am (hbox)
          have n7_:=am ((by rw[hg];exact(keep_size (w:=w) (g:=g) (row:=none) (by repeat (first|(with_reducible first|exact HK.out|apply KeepBut.set_|apply keep_drewN|apply keep_drew|apply keep_alloc|refine keep_far ?_ GW214.out _|refine keep_far ?_ GW227.out _)|exact HK.out))):w.heap.size≤gb262))
          have n8_:=am ((Nat.le_trans HW0.out (by rw[hg];exact(keep_size (w:=w) (g:=g) (row:=none) (by repeat (first|(with_reducible first|exact HK.out|apply KeepBut.set_|apply keep_drewN|apply keep_drew|apply keep_alloc|refine keep_far ?_ GW214.out _|refine keep_far ?_ GW227.out _)|exact HK.out))):w.heap.size≤gb262):w0.heap.size≤gb262))
          have n9_:=am ((bN BK214.out hg:gb214≠gb262))
          have n10_:=am ((bO BK214.out hg:gb262≠gb214))
          have n11_:=am ((bN BK227.out hg:gb227≠gb262))
          have n12_:=am ((bO BK227.out hg:gb262≠gb227))
          have n13_:=am ((by rw[hg];exact Nat.ne_of_lt (IsS58.lt (show IsS58 w0 _ g s0_0 t238 t239 from by repeat (first|(with_reducible first|exact HI0.out|apply IsS58.alloc|apply IsS58.drewN|apply IsS58.drew|apply IsS58.set_1|apply IsS58.set_2|apply IsS58.far (hne:=NB0_214.out)|apply IsS58.far (hne:=NB0_227.out))|exact HI0.out))):g≠gb262))
          have n14_:=am ((by rw[hg];exact Nat.ne_of_gt (IsS58.lt (show IsS58 w0 _ g s0_0 t238 t239 from by repeat (first|(with_reducible first|exact HI0.out|apply IsS58.alloc|apply IsS58.drewN|apply IsS58.drew|apply IsS58.set_1|apply IsS58.set_2|apply IsS58.far (hne:=NB0_214.out)|apply IsS58.far (hne:=NB0_227.out))|exact HI0.out))):gb262≠g))
          clear HO_228001 BK214 BK227 HI0 HK HB
          have HO_228001:=n0_
          have BK214:=n1_
          have BK227:=n2_
          have HI0:=n3_
          have HK:=n4_
          have HB:=n5_
          have BK262:=n6_
          have GW262:=n7_
          have GE262:=n8_
          have NB214_262:=n9_
          have NB262_214:=n10_
          have NB227_262:=n11_
          have NB262_227:=n12_
          have NB0_262:=n13_
          have NB262_0:=n14_
          clear n0_ n1_ n2_ n3_ n4_ n5_ n6_ n7_ n8_ n9_ n10_ n11_ n12_ n13_ n14_ hb hbox hg
          refine hK.out _ _ (cC3 BK227.out) (fun hHeld => ?_)
          clear hK K
          refine norm_ (a':=?_) ?_ ?_
          rotate_left
          ·show Act.put _ (some 9) _=_
           simp only[Act.put,zA,zB,zC,i64_w,i32_w]
           rfl
          refine one_ (i:=5) (N:=some 49) #[true,true,true,true,true,true,true,false,false,false,false,false,false,true,false,false] rfl rfl (one_of HT_.out (by kernel_rfl)) (by decide) (fun K hK => ?_)
          refine goes_ Try.func29 (by kernel_rfl) rfl #[.pointer (some ⟨g,0,none⟩),.int .i64 (x228001_2.length:Int)] (by rfl) rfl rfl (by(try simp only[List.map_toArray,List.map_cons,List.map_nil]);first|done|rfl|(simp only[List.length_drop,List.length_take];rfl)) ?_
          with_reducible refine(spec_l1Cur_pick.calls g s0_0 t238 t239 (x228001_2.length:Int) t250 t251 t252 w0 _ ?side1 ?side2 A54.out).mono ?_
          (case side1=>repeat (first|(with_reducible first|exact HI0.out|apply IsS58.alloc|apply IsS58.drewN|apply IsS58.drew|apply IsS58.set_1|apply IsS58.set_2|apply IsS58.far (hne:=NB0_214.out)|apply IsS58.far (hne:=NB0_227.out)|apply IsS58.far (hne:=NB0_262.out))|exact HI0.out))
          (case side2=>repeat (first|(with_reducible first|exact HB.out|apply below_alloc|apply pw_below_drewN|apply below_drew1|refine below_set ?_ (IsS58.ge HI0.out)|refine below_set ?_ GE214.out|refine below_set ?_ GE227.out|refine below_set ?_ GE262.out)|exact HB.out))
          rintro e w81 ⟨rfl,hi,hb,hk⟩
          refine⟨_,rfl,?_⟩
          have n0_:=am (Kd.S_mono (Kd.S_keep (IsS58.apartS (show IsS58 w0 _ g s0_0 t238 t239 from by repeat (first|(with_reducible first|exact HI0.out|apply IsS58.alloc|apply IsS58.drewN|apply IsS58.drew|apply IsS58.set_1|apply IsS58.set_2|apply IsS58.far (hne:=NB0_214.out)|apply IsS58.far (hne:=NB0_227.out)|apply IsS58.far (hne:=NB0_262.out))|exact HI0.out)) (by(with_reducible repeat (first|apply Kd.S_alloc|apply Kd.S_drewN|apply Kd.S_drew));exact HO_228001.out) (by decide)) hk (fun _ h=>h.2)) (fun _ h=>h.1))
          have n1_:=am (KeepBut.blk hk (g':=gb214) (o:=.cells #[.int .i64 0,.slice none 0 0,.int .i64 0] 25 (0,0)) (bL BK214.out) NB214_0.out (by simp))
          have n2_:=am (KeepBut.blk hk (g':=gb227) (o:=.cells #[.int .i64 x228000_2,.slice Ao78 x228001_2.length co78,.int .i64 x228002_2] 25 (0,0)) (bL BK227.out) NB227_0.out (by simp))
          have n3_:=am (KeepBut.blk hk (g':=gb262) (o:=.cells #[.int .i64 0,.slice none 0 0,.int .i64 0] 25 (0,0)) (bL BK262.out) NB262_0.out (by simp))
          have n4_:=am (KeepBut.trans (by repeat (first|(with_reducible first|exact HK.out|apply KeepBut.set_|apply keep_drewN|apply keep_drew|apply keep_alloc|refine keep_far ?_ GW214.out _|refine keep_far ?_ GW227.out _|refine keep_far ?_ GW262.out _)|exact HK.out)) hk (.inl rfl))
          have n5_:=am (hb)
          have n6_:=am (hi)
          clear HO_228001 BK214 BK227 BK262 HK HB HI0
          have HO_228001:=n0_
          have BK214:=n1_
          have BK227:=n2_
          have BK262:=n3_
          have HK:=n4_
          have HB:=n5_
          have HI0:=n6_
          clear n0_ n1_ n2_ n3_ n4_ n5_ n6_
          (try clear hb)
          (try clear hb2)
          (try clear hk)
          (try clear hi)
          refine hK.out _ _ (cC3 BK227.out) (fun hHeld => ?_)
          clear hK K
          refine norm_ (a':=?_) ?_ ?_
          rotate_left
          ·show Act.put _ (some 49) _=_
           simp only[Act.put,zA,zB,zC,i64_w,i32_w]
           rfl
          refine one_ (i:=7) (N:=some 51) #[true,true,true,true,true,true,true,true,false,false,false,false,false,true,false,false] rfl rfl (one_of HT_.out (by kernel_rfl)) (by decide) (fun K hK => ?_)
          refine goes_ Try.func29 (by kernel_rfl) rfl #[.pointer (some ⟨g,0,none⟩),.int .i64 30] (by rfl) rfl rfl (by(try simp only[List.map_toArray,List.map_cons,List.map_nil]);first|done|rfl|(simp only[List.length_drop,List.length_take];rfl)) ?_
          with_reducible refine(spec_l1Cur_pick.calls g s0_0 t251 t252 30 t253 t254 t255 w0 _ ?side1 ?side2 A55.out).mono ?_
          (case side1=>repeat (first|(with_reducible first|exact HI0.out|apply IsS58.alloc|apply IsS58.drewN|apply IsS58.drew|apply IsS58.set_1|apply IsS58.set_2|apply IsS58.far (hne:=NB0_214.out)|apply IsS58.far (hne:=NB0_227.out)|apply IsS58.far (hne:=NB0_262.out))|exact HI0.out))
          (case side2=>repeat (first|(with_reducible first|exact HB.out|apply below_alloc|apply pw_below_drewN|apply below_drew1|refine below_set ?_ (IsS58.ge HI0.out)|refine below_set ?_ GE214.out|refine below_set ?_ GE227.out|refine below_set ?_ GE262.out)|exact HB.out))
          rintro e w82 ⟨rfl,hi,hb,hk⟩
          refine⟨_,rfl,?_⟩
          have n0_:=am (Kd.S_mono (Kd.S_keep (IsS58.apartS (show IsS58 w0 _ g s0_0 t251 t252 from by repeat (first|(with_reducible first|exact HI0.out|apply IsS58.alloc|apply IsS58.drewN|apply IsS58.drew|apply IsS58.set_1|apply IsS58.set_2|apply IsS58.far (hne:=NB0_214.out)|apply IsS58.far (hne:=NB0_227.out)|apply IsS58.far (hne:=NB0_262.out))|exact HI0.out)) (by(with_reducible repeat (first|apply Kd.S_alloc|apply Kd.S_drewN|apply Kd.S_drew));exact HO_228001.out) (by decide)) hk (fun _ h=>h.2)) (fun _ h=>h.1))
          have n1_:=am (KeepBut.blk hk (g':=gb214) (o:=.cells #[.int .i64 0,.slice none 0 0,.int .i64 0] 25 (0,0)) (bL BK214.out) NB214_0.out (by simp))
          have n2_:=am (KeepBut.blk hk (g':=gb227) (o:=.cells #[.int .i64 x228000_2,.slice Ao78 x228001_2.length co78,.int .i64 x228002_2] 25 (0,0)) (bL BK227.out) NB227_0.out (by simp))
          have n3_:=am (KeepBut.blk hk (g':=gb262) (o:=.cells #[.int .i64 0,.slice none 0 0,.int .i64 0] 25 (0,0)) (bL BK262.out) NB262_0.out (by simp))
          have n4_:=am (KeepBut.trans (by repeat (first|(with_reducible first|exact HK.out|apply KeepBut.set_|apply keep_drewN|apply keep_drew|apply keep_alloc|refine keep_far ?_ GW214.out _|refine keep_far ?_ GW227.out _|refine keep_far ?_ GW262.out _)|exact HK.out)) hk (.inl rfl))
          have n5_:=am (hb)
          have n6_:=am (hi)
          clear HO_228001 BK214 BK227 BK262 HK HB HI0
          have HO_228001:=n0_
          have BK214:=n1_
          have BK227:=n2_
          have BK262:=n3_
          have HK:=n4_
          have HB:=n5_
          have HI0:=n6_
          clear n0_ n1_ n2_ n3_ n4_ n5_ n6_
          (try clear hb)
          (try clear hb2)
          (try clear hk)
          (try clear hi)
          refine hK.out _ _ (cC3 BK227.out) (fun hHeld => ?_)
          clear hK K
          refine norm_ (a':=?_) ?_ ?_
          rotate_left
          ·show Act.put _ (some 51) _=_
           simp only[Act.put,zA,zB,zC,i64_w,i32_w]
           rfl
          refine pS HT_ 8 52 ?_
          refine one_ (i:=9) (N:=some 53) #[true,true,true,true,true,true,true,true,true,true,false,false,false,true,false,false] rfl rfl (one_of HT_.out (by kernel_rfl)) (by decide) (fun K hK => ?_)
          refine goes_ Try.func14 (by kernel_rfl) rfl #[.agg #[.int .i64 x228000_2,.slice Ao78 x228001_2.length co78,.int .i64 x228002_2],.int .i64 t250,.int .i64 (wrap64 (1+t253))] (by rfl) rfl rfl (by(try simp only[List.map_toArray,List.map_cons,List.map_nil]);first|done|rfl|(simp only[List.length_drop,List.length_take];rfl)) ?_
          with_reducible refine(spec_PutLong.calls k2 x228000_2 _ _ x228001_2 x228002_2 t250 (wrap64 (1+t253)) t256 t257 t260 false _ ?side1 ?side2 A56.out).mono ?_
          (case side1=>repeat (first|exact(Kd.S_reads' HO_228001.out).2.2|(with_reducible refine Kd.C_alloc ?_ _)|(with_reducible refine Kd.C_drewN ?_ _)|(with_reducible refine Kd.C_drew ?_)))
          (case side2=>exact(Kd.S_reads' HO_228001.out).2.1)
          rintro e w83 ⟨v258,rfl,ho0,hb⟩
          refine⟨_,rfl,?_⟩
          have n0_:=am (Kd.S_elder' (by(with_reducible repeat (first|apply Kd.S_alloc|apply Kd.S_drewN|apply Kd.S_drew));exact HO_228001.out) (Kd.S_base ho0) hb)
          have n1_:=am (Kd.S_lower (Kd.S_new' ho0 (Kd.S_lt (by(with_reducible repeat (first|apply Kd.S_alloc|apply Kd.S_drewN|apply Kd.S_drew));exact HO_228001.out))) (keep_size (w:=w) (g:=g) (row:=none) (by repeat (first|(with_reducible first|exact HK.out|apply KeepBut.set_|apply keep_drewN|apply keep_drew|apply keep_alloc|refine keep_far ?_ GW214.out _|refine keep_far ?_ GW227.out _|refine keep_far ?_ GW262.out _)|exact HK.out))))
          have n2_:=am (bM BK214.out hb)
          have n3_:=am (bM BK227.out hb)
          have n4_:=am (IsS58.below (by repeat (first|(with_reducible first|exact HI0.out|apply IsS58.alloc|apply IsS58.drewN|apply IsS58.drew|apply IsS58.set_1|apply IsS58.set_2|apply IsS58.far (hne:=NB0_214.out)|apply IsS58.far (hne:=NB0_227.out)|apply IsS58.far (hne:=NB0_262.out))|exact HI0.out)) hb)
          have n5_:=am (bM BK262.out hb)
          have n6_:=am (KeepBut.trans (by repeat (first|(with_reducible first|exact HK.out|apply KeepBut.set_|apply keep_drewN|apply keep_drew|apply keep_alloc|refine keep_far ?_ GW214.out _|refine keep_far ?_ GW227.out _|refine keep_far ?_ GW262.out _)|exact HK.out)) (KeepBut.of_below hb g none) (.inl rfl))
          have n7_:=am (below_step (by repeat (first|(with_reducible first|exact HB.out|apply below_alloc|apply pw_below_drewN|apply below_drew1|refine below_set ?_ (IsS58.ge HI0.out)|refine below_set ?_ GE214.out|refine below_set ?_ GE227.out|refine below_set ?_ GE262.out)|exact HB.out)) hb)
          clear HO_228001 BK214 BK227 HI0 BK262 HK HB
          have HO_228001:=n0_
          have HO259:=n1_
          have BK214:=n2_
          have BK227:=n3_
          have HI0:=n4_
          have BK262:=n5_
          have HK:=n6_
          have HB:=n7_
          clear n0_ n1_ n2_ n3_ n4_ n5_ n6_ n7_
          (try clear hb)
          (try clear hb2)
          (try clear hk)
          (try clear hi)
          (try clear ho0)
          refine hK.out _ _ (cC3 BK227.out) (fun hHeld => ?_)
          clear hK K
          refine norm_ (a':=?_) ?_ ?_
          rotate_left
          ·show Act.put _ (some 53) _=_
           simp only[Act.put,zA,zB,zC,i64_w,i32_w]
           rfl
          refine pS HT_ 10 43 ?_;refine pS HT_ 11 54 ?_;refine pS HT_ 12 55 ?_
          exact norm_ (by simp only[putAll,Act.put,zA,zB,zC]) (hCont (v258,gb262) _ ⟨hHeld,(by(with_reducible repeat (first|apply Kd.S_alloc|apply Kd.S_drewN|apply Kd.S_drew));exact Kd.S_mono HO259.out (fun _ hk=>hk.2)),(by(with_reducible repeat (first|apply Kd.S_alloc|apply Kd.S_drewN|apply Kd.S_drew));exact Kd.S_mono HO_228001.out (fun _ hk=>hk.2)),(bL BK214.out),(bL BK227.out),(bL BK262.out),GW262.out,GE262.out,NB0_262.out,NB262_0.out,NB214_262.out,NB262_214.out,NB227_262.out,NB262_227.out,(by repeat (first|(with_reducible first|exact HI0.out|apply IsS58.alloc|apply IsS58.drewN|apply IsS58.drew|apply IsS58.set_1|apply IsS58.set_2|apply IsS58.far (hne:=NB0_214.out)|apply IsS58.far (hne:=NB0_227.out)|apply IsS58.far (hne:=NB0_262.out))|exact HI0.out)),(by repeat (first|(with_reducible first|exact HK.out|apply KeepBut.set_|apply keep_drewN|apply keep_drew|apply keep_alloc|refine keep_far ?_ GW214.out _|refine keep_far ?_ GW227.out _|refine keep_far ?_ GW262.out _)|exact HK.out)),(by repeat (first|(with_reducible first|exact HB.out|apply below_alloc|apply pw_below_drewN|apply below_drew1|refine below_set ?_ (IsS58.ge HI0.out)|refine below_set ?_ GE214.out|refine below_set ?_ GE227.out|refine below_set ?_ GE262.out)|exact HB.out))⟩)
        rintro⟨v258,gb262⟩ w84 ⟨hS_,h0_,h1_,h2_,h3_,h4_,h5_,h6_,h7_,h8_,h9_,h10_,h11_,h12_,h13_,h14_,h15_⟩
        have n0_:Aside0 (Kd.S k34 34 w84 w.heap.size (fun k_=>some k_≠(.slice Ao78 x228001_2.length co78:Value).ownBlock) v258 t257):=⟨h0_⟩
        have n1_:Aside0 (Kd.S k34 34 w84 w.heap.size (fun k_=>some k_≠(v258:Value).ownBlock) (.slice Ao78 x228001_2.length co78) x228001_2):=⟨h1_⟩
        have n2_:Aside0 (w84.heap[gb214]?=some (.cells #[.int .i64 0,.slice none 0 0,.int .i64 0] 25 (0,0))):=⟨h2_⟩
        have n3_:Aside0 (w84.heap[gb227]?=some (.cells #[.int .i64 x228000_2,.slice Ao78 x228001_2.length co78,.int .i64 x228002_2] 25 (0,0))):=⟨h3_⟩
        have n4_:Aside0 (w84.heap[gb262]?=some (.cells #[.int .i64 0,.slice none 0 0,.int .i64 0] 25 (0,0))):=⟨h4_⟩
        have n5_:Aside0 (w.heap.size≤gb262):=⟨h5_⟩
        have n6_:Aside0 (w0.heap.size≤gb262):=⟨h6_⟩
        have n7_:Aside0 (g≠gb262):=⟨h7_⟩
        have n8_:Aside0 (gb262≠g):=⟨h8_⟩
        have n9_:Aside0 (gb214≠gb262):=⟨h9_⟩
        have n10_:Aside0 (gb262≠gb214):=⟨h10_⟩
        have n11_:Aside0 (gb227≠gb262):=⟨h11_⟩
        have n12_:Aside0 (gb262≠gb227):=⟨h12_⟩
        have n13_:Aside0 (IsS58 w0 w84 g s0_0 t254 t255):=⟨h13_⟩
        have n14_:Aside0 (KeepBut w w84 g none):=⟨h14_⟩
        have n15_:Aside0 (Below w0.heap.size w0 w84):=⟨h15_⟩
        clear HO_228001 BK214 BK227 HI0 HK HB h0_ h1_ h2_ h3_ h4_ h5_ h6_ h7_ h8_ h9_ h10_ h11_ h12_ h13_ h14_ h15_
        have HO259:=n0_
        have HO_228001:=n1_
        have BK214:=n2_
        have BK227:=n3_
        have BK262:=n4_
        have GW262:=n5_
        have GE262:=n6_
        have NB0_262:=n7_
        have NB262_0:=n8_
        have NB214_262:=n9_
        have NB262_214:=n10_
        have NB227_262:=n11_
        have NB262_227:=n12_
        have HI0:=n13_
        have HK:=n14_
        have HB:=n15_
        clear n0_ n1_ n2_ n3_ n4_ n5_ n6_ n7_ n8_ n9_ n10_ n11_ n12_ n13_ n14_ n15_
        have hHeld:w84.cell? ⟨gb227,0,none⟩=some (.int .i64 x228000_2)∧w84.cell? ⟨gb227,1,none⟩=some (.slice Ao78 x228001_2.length co78)∧w84.cell? ⟨gb227,2,none⟩=some (.int .i64 x228002_2):=hS_
        obtain⟨Ao86,co86,eo86⟩:=Kd.S_slice HO259.out
        (first|subst eo86|(injection eo86 with f1_ f2_ f3_;have f4_:=f1_.symm;have f5_:=f3_.symm;clear f1_ f2_ f3_;subst f4_;subst f5_))
        refine norm_ (a':=?_) ?_ ?_
        rotate_left
        ·simp only[putAll,Act.put,zA,zB,zC]
         rfl
        refine one_ (i:=14) (N:=none) #[true,true,true,true,true,true,true,true,true,true,true,true,true,true,true,false] rfl rfl (one_of HT_.out (by kernel_rfl)) (by decide) (fun K hK => ?_)
        have hs85:w84.cell? ⟨gb262,0,none⟩=some (.int .i64 0):=(blk_cell BK262.out 0).trans rfl
        have hfs85:=blk_frozen BK262.out 0
        have hns85_0:=NB214_262.out
        have hns85_1:=NB227_262.out
        have hms85_0:=NB262_214.out
        have hms85_1:=NB262_227.out
        have hs87:w84.cell? ⟨gb262,1,none⟩=some (.slice none 0 0):=(blk_cell BK262.out 1).trans rfl
        have hfs87:=blk_frozen BK262.out 1
        have hns87_0:=NB214_262.out
        have hns87_1:=NB227_262.out
        have hms87_0:=NB262_214.out
        have hms87_1:=NB262_227.out
        have hs88:w84.cell? ⟨gb262,2,none⟩=some (.int .i64 0):=(blk_cell BK262.out 2).trans rfl
        have hfs88:=blk_frozen BK262.out 2
        have hns88_0:=NB214_262.out
        have hns88_1:=NB227_262.out
        have hms88_0:=NB262_214.out
        have hms88_1:=NB262_227.out
        refine skip_ (w1:=?_) (by rfl) rfl ?_ ?_
        rotate_left
        ·go_simp
         rfl
        refine hK.out _ _ ⟨(cf_ NB227_262.out ((cf_ NB227_262.out ((cf_ NB227_262.out (hHeld.1)))))),(cf_ NB227_262.out ((cf_ NB227_262.out ((cf_ NB227_262.out (hHeld.2.1)))))),(cf_ NB227_262.out ((cf_ NB227_262.out ((cf_ NB227_262.out (hHeld.2.2))))))⟩ (fun hHeld => ?_)
        clear hK K
        refine pS HT_ 15 10 ?_
        refine done_ (done_of HT_.out (by kernel_rfl)) ?_
        try go_wp2
        go_roundg k2
        case measure=>have:=HJ4.out;have:=HK2.out;omega
        case rel=>exact⟨(wrap64 (x5_2 - 1)),(t254),(t255),(x228000_2),(x228001_2),(x228002_2),(.slice Ao78 x228001_2.length co78),(bR),H',⟨by have:=HJ4.out;have:=HK2.out;omega⟩,⟨by(with_reducible repeat (first|apply Kd.S_alloc|apply Kd.S_drewN|apply Kd.S_drew));exact Kd.S_mono (Kd.S_far (p:=⟨gb262,2,none⟩) (Kd.S_far (p:=⟨gb262,1,none⟩) (Kd.S_far (p:=⟨gb262,0,none⟩) (Kd.S_types HO_228001.out BK262.out (by decide)) (fun _ hk=>hk.2) (.int .i64 t256)) (fun _ hk=>hk.2) (.slice Ao86 t257.length co86)) (fun _ hk=>hk.2) (.int .i64 t260)) (fun _ hk=>trivial)⟩,⟨by(with_reducible repeat (first|refine blk_drewN ?_ _|refine blk_drew ?_|refine blk_alloc ?_ _));refine blk_far ?_ NB214_262.out _;(with_reducible repeat (first|refine blk_drewN ?_ _|refine blk_drew ?_|refine blk_alloc ?_ _));refine blk_far ?_ NB214_262.out _;(with_reducible repeat (first|refine blk_drewN ?_ _|refine blk_drew ?_|refine blk_alloc ?_ _));refine blk_far ?_ NB214_262.out _;(with_reducible repeat (first|refine blk_drewN ?_ _|refine blk_drew ?_|refine blk_alloc ?_ _));exact BK214.out⟩,⟨by(with_reducible repeat (first|refine blk_drewN ?_ _|refine blk_drew ?_|refine blk_alloc ?_ _));refine blk_far ?_ NB227_262.out _;(with_reducible repeat (first|refine blk_drewN ?_ _|refine blk_drew ?_|refine blk_alloc ?_ _));refine blk_far ?_ NB227_262.out _;(with_reducible repeat (first|refine blk_drewN ?_ _|refine blk_drew ?_|refine blk_alloc ?_ _));refine blk_far ?_ NB227_262.out _;(with_reducible repeat (first|refine blk_drewN ?_ _|refine blk_drew ?_|refine blk_alloc ?_ _));exact BK227.out⟩,⟨by repeat (first|(with_reducible first|exact HI0.out|apply IsS58.alloc|apply IsS58.drewN|apply IsS58.drew|apply IsS58.set_1|apply IsS58.set_2|apply IsS58.far (hne:=NB0_214.out)|apply IsS58.far (hne:=NB0_227.out)|apply IsS58.far (hne:=NB0_262.out))|exact HI0.out)⟩,⟨by repeat (first|(with_reducible first|exact HK.out|apply KeepBut.set_|apply keep_drewN|apply keep_drew|apply keep_alloc|refine keep_far ?_ GW214.out _|refine keep_far ?_ GW227.out _|refine keep_far ?_ GW262.out _)|exact HK.out)⟩,⟨by repeat (first|(with_reducible first|exact HB.out|apply below_alloc|apply pw_below_drewN|apply below_drew1|refine below_set ?_ (IsS58.ge HI0.out)|refine below_set ?_ GE214.out|refine below_set ?_ GE227.out|refine below_set ?_ GE262.out)|exact HB.out)⟩⟩
     ·rw[if_neg c24] at H
      have c24b0:decide (0 < x5_2)=false:=decide_eq_false c24
      clear c24
      replace H:=bI_ H
      obtain⟨⟨t263,t264,t265⟩,A890,H⟩:=H
      replace H:(if t263=0 then ((spec_l1Cur_among.f s0_0 t264 t265 (([(-1),100,101]:List Int))).bind fun bt269=>(if 0 < (x228001_2.length:Int) then (some (x228000_2,(x228001_2.set (0:Int).toNat (⟨(rd_T34 x228001_2 0).f0,bt269.1,(rd_T34 x228001_2 0).f2⟩:S34)),x228002_2,bt269.2.1,bt269.2.2)) else (none))) else (if t263=1 then ((spec_l1Cur_among.f s0_0 t264 t265 (([(-1),1000000,1000001]:List Int))).bind fun bt276=>(some (x228000_2,x228001_2,bt276.1,bt276.2.1,bt276.2.2))) else (some (x228000_2,x228001_2,x228002_2,t264,t265))))=some (r1,r2,r3,r4,r5):=H
      have A89:=am A890
      clear A890
      by_cases c90:t263=0
      ·rw[if_pos c90] at H
       have c90b0:(t263 == 0)=true:=beq_iff_eq.mpr c90
       have c90b1:(t263 != 0)=false:=bne_eq_false_iff_eq.mpr c90
       clear c90
       obtain⟨y266,hy266⟩ : ∃ y_:List Int,y_=(([(-1),100,101]:List Int)):=⟨_,rfl⟩
       replace H:((spec_l1Cur_among.f s0_0 t264 t265 y266).bind fun bt269=>(if 0 < (x228001_2.length:Int) then (some (x228000_2,(x228001_2.set (0:Int).toNat (⟨(rd_T34 x228001_2 0).f0,bt269.1,(rd_T34 x228001_2 0).f2⟩:S34)),x228002_2,bt269.2.1,bt269.2.2)) else (none)))=some (r1,r2,r3,r4,r5):=by first|(rw[hy266];with_reducible exact H)|(have H2_:=(Option.bind_some _ _).symm.trans H;rw[hy266];with_reducible exact H2_)|(have H2_:=(Option.bind_some _ _).symm.trans H;with_reducible exact H2_)|with_reducible exact H|(rw[hy266];exact H)|exact H
       have Ny266:=am hy266
       clear hy266
       replace H:=bI_ H
       obtain⟨⟨t269,t270,t271⟩,A910,H⟩:=H
       replace H:(if 0 < (x228001_2.length:Int) then (some (x228000_2,(x228001_2.set (0:Int).toNat (⟨(rd_T34 x228001_2 0).f0,t269,(rd_T34 x228001_2 0).f2⟩:S34)),x228002_2,t270,t271)) else (none))=some (r1,r2,r3,r4,r5):=H
       have A91:=am A910
       clear A910
       by_cases c92:0 < (x228001_2.length:Int)
       ·rw[if_pos c92] at H
        have c92b0:decide (0 < (x228001_2.length:Int))=true:=decide_eq_true c92
        have c92b1:decide (0 < x228001_2.length)=true:=decide_eq_true (by omega)
        clear c92
        obtain⟨y272,hy272⟩ : ∃ y_:List (S34),y_=(x228001_2.set (0:Int).toNat (⟨(rd_T34 x228001_2 0).f0,t269,(rd_T34 x228001_2 0).f2⟩:S34)):=⟨_,rfl⟩
        replace H:(some (x228000_2,y272,x228002_2,t270,t271))=some (r1,r2,r3,r4,r5):=by first|(rw[hy272];with_reducible exact H)|(have H2_:=(Option.bind_some _ _).symm.trans H;rw[hy272];with_reducible exact H2_)|(have H2_:=(Option.bind_some _ _).symm.trans H;with_reducible exact H2_)|with_reducible exact H|(rw[hy272];exact H)|exact H
        have Ny272:=am hy272
        clear hy272
        simp only[Option.some.injEq,Prod.mk.injEq] at H
        obtain⟨rfl,rfl,rfl,rfl,rfl⟩:=H
        try go_wp2_with (first|((with_reducible refine gate_callee (f:=29) rfl ?_);refine goesA (some 59) rfl rfl Try.func29 #[.pointer (some ⟨g,0,none⟩),.int .i64 40] rfl ?_;(with_reducible refine(spec_l1Cur_pick.calls g s0_0 x1001_2 x1002_2 40 t263 t264 t265 w0 _ ?side1 ?side2 A89.out).mono ?_);(case side1=>repeat (first|(with_reducible first|exact HI0.out|apply IsS58.alloc|apply IsS58.drewN|apply IsS58.drew|apply IsS58.set_1|apply IsS58.set_2|apply IsS58.far (hne:=NB0_214.out)|apply IsS58.far (hne:=NB0_227.out))|exact HI0.out));(case side2=>repeat (first|(with_reducible first|exact HB.out|apply below_alloc|apply pw_below_drewN|apply below_drew1|refine below_set ?_ (IsS58.ge HI0.out)|refine below_set ?_ GE214.out|refine below_set ?_ GE227.out)|exact HB.out));rintro e w94 ⟨rfl,hi,hb,hk⟩;refine⟨_,rfl,?_⟩;have n0_:=am (Kd.S_mono (Kd.S_keep (IsS58.apartS (show IsS58 w0 _ g s0_0 x1001_2 x1002_2 from by repeat (first|(with_reducible first|exact HI0.out|apply IsS58.alloc|apply IsS58.drewN|apply IsS58.drew|apply IsS58.set_1|apply IsS58.set_2|apply IsS58.far (hne:=NB0_214.out)|apply IsS58.far (hne:=NB0_227.out))|exact HI0.out)) (by(with_reducible repeat (first|apply Kd.S_alloc|apply Kd.S_drewN|apply Kd.S_drew));exact HO_228001.out) (by decide)) hk (fun _ h=>h.2)) (fun _ h=>h.1));have n1_:=am (KeepBut.blk hk (g':=gb214) (o:=.cells #[.int .i64 0,.slice none 0 0,.int .i64 0] 25 (0,0)) (bL BK214.out) NB214_0.out (by simp));have n2_:=am (KeepBut.blk hk (g':=gb227) (o:=.cells #[.int .i64 x228000_2,u228001,.int .i64 x228002_2] 25 (0,0)) (bL BK227.out) NB227_0.out (by simp));have n3_:=am (KeepBut.trans (by repeat (first|(with_reducible first|exact HK.out|apply KeepBut.set_|apply keep_drewN|apply keep_drew|apply keep_alloc|refine keep_far ?_ GW214.out _|refine keep_far ?_ GW227.out _)|exact HK.out)) hk (.inl rfl));have n4_:=am (hb);have n5_:=am (hi);clear HO_228001 BK214 BK227 HK HB;(try clear HI0);have HO_228001:=n0_;have BK214:=n1_;have BK227:=n2_;have HK:=n3_;have HB:=n4_;have HI0:=n5_;clear n0_ n1_ n2_ n3_ n4_ n5_;(try clear hb);(try clear hb2);(try clear hk);(try clear hi)))
        (try (rw[drewN_self w94];generalize hq_:World.drewN w94 _=w94;have n0_:=am (Kd.S_at hq_ HO_228001.out);have n1_:=am (blk_at hq_ BK214.out);have n2_:=am (blk_at hq_ BK227.out);have n3_:=am (IsS58.at_ hq_ HI0.out);have n4_:=am (keep_at hq_ HK.out);have n5_:=am (below_at hq_ HB.out);clear hq_ HO_228001 BK214 BK227 HI0 HK HB;have HO_228001:=n0_;have BK214:=n1_;have BK227:=n2_;have HI0:=n3_;have HK:=n4_;have HB:=n5_;clear n0_ n1_ n2_ n3_ n4_ n5_))
        have n0_:=am (Kd.S_drew HO_228001.out)
        have n1_:=am (blk_drew BK214.out)
        have n2_:=am (blk_drew BK227.out)
        have n3_:=am (IsS58.drew HI0.out)
        have n4_:=am (keep_drew HK.out)
        have n5_:=am (below_drew1 HB.out)
        clear HO_228001 BK214 BK227 HI0 HK HB
        have HO_228001:=n0_
        have BK214:=n1_
        have BK227:=n2_
        have HI0:=n3_
        have HK:=n4_
        have HB:=n5_
        clear n0_ n1_ n2_ n3_ n4_ n5_
        refine start_ (n:=8) (S:=fun w'=>w'.cell? ⟨gb227,0,none⟩=some (.int .i64 x228000_2)∧w'.cell? ⟨gb227,1,none⟩=some (u228001)∧w'.cell? ⟨gb227,2,none⟩=some (.int .i64 x228002_2)) (ds:=[7]) #[false,false,false,false,false,false,false,false] (by kernel_rfl) rfl rfl (cC3 BK227.out) (fun hHeld => ?_);refine with_tabW spec_l1Cur_turns.tab16 spec_l1Cur_turns.bits16 (fun HT_ HW_ => ?_)
        generalize w94.drew=w95 at HO_228001 BK214 BK227 HI0 HK HB hHeld ⊢
        refine pS HT_ 0 62 ?_;refine pS HT_ 2 64 ?_;refine tS HT_ HW_ hHeld 1 63 ?_
        refine one_ (i:=3) (N:=some 65) #[true,true,true,true,false,false,false,false] rfl rfl (one_of HT_.out (by kernel_rfl)) (by decide) (fun K hK => ?_)
        refine Kd.R_lit_step (Kd.int .i64) _ 3 ?hg (N:=65) ?hd (xs:=([(-1),100,101]:List Int)) (inner:=[.int .i64 (-1),.int .i64 100,.int .i64 101]) (ok:=fun _=>True) (okp:=fun _=>True) ?hr ?hp (fun _ hk=>hk) trivial (Below.refl _ _) (Nat.le_refl _) (by simp) ?_;(case hd=>rfl);(case hg=>rfl);(case hr=>first|(go_simp;done)|(go_simp;rfl));(case hp=>exact(Reps.one (show Kd.M (Kd.int .i64) _ _ _ (-1) [.int .i64 (-1)] from rfl) (Reps.one (show Kd.M (Kd.int .i64) _ _ _ 100 [.int .i64 100] from rfl) (Reps.one (show Kd.M (Kd.int .i64) _ _ _ 101 [.int .i64 101] from rfl) (Reps.none _ _)))))
        intro v267 w96 ho97 hb hg_ hnew_
        clear hg_ hnew_
        (first|rw[← Ny266.out] at ho97|(simp only[Int.reduceToNat] at ho97;rw[← Ny266.out] at ho97))
        have n0_:=am (Kd.S_elder' (by(with_reducible repeat (first|apply Kd.S_alloc|apply Kd.S_drewN|apply Kd.S_drew));exact HO_228001.out) (Kd.R_base ho97) hb)
        have n1_:=am (Kd.R_lower ho97 (keep_size (w:=w) (g:=g) (row:=none) (by repeat (first|(with_reducible first|exact HK.out|apply KeepBut.set_|apply keep_drewN|apply keep_drew|apply keep_alloc|refine keep_far ?_ GW214.out _|refine keep_far ?_ GW227.out _)|exact HK.out))))
        have n2_:=am (bM BK214.out hb)
        have n3_:=am (bM BK227.out hb)
        have n4_:=am (IsS58.below (by repeat (first|(with_reducible first|exact HI0.out|apply IsS58.alloc|apply IsS58.drewN|apply IsS58.drew|apply IsS58.set_1|apply IsS58.set_2|apply IsS58.far (hne:=NB0_214.out)|apply IsS58.far (hne:=NB0_227.out))|exact HI0.out)) hb)
        have n5_:=am (KeepBut.trans (by repeat (first|(with_reducible first|exact HK.out|apply KeepBut.set_|apply keep_drewN|apply keep_drew|apply keep_alloc|refine keep_far ?_ GW214.out _|refine keep_far ?_ GW227.out _)|exact HK.out)) (KeepBut.of_below hb g none) (.inl rfl))
        have n6_:=am (below_step (by repeat (first|(with_reducible first|exact HB.out|apply below_alloc|apply pw_below_drewN|apply below_drew1|refine below_set ?_ (IsS58.ge HI0.out)|refine below_set ?_ GE214.out|refine below_set ?_ GE227.out)|exact HB.out)) hb)
        clear HO_228001 BK214 BK227 HI0 HK HB
        have HO_228001:=n0_
        have HO268:=n1_
        have BK214:=n2_
        have BK227:=n3_
        have HI0:=n4_
        have HK:=n5_
        have HB:=n6_
        clear n0_ n1_ n2_ n3_ n4_ n5_ n6_ hb ho97
        obtain⟨Ao98,co98,eo98⟩:=Kd.R_slice HO268.out
        (first|subst eo98|(injection eo98 with f1_ f2_ f3_;have f4_:=f1_.symm;have f5_:=f3_.symm;clear f1_ f2_ f3_;subst f4_;subst f5_))
        refine hK.out _ _ (cC3 BK227.out) (fun hHeld => ?_)
        clear hK K
        refine norm_ (a':=?_) ?_ ?_
        rotate_left
        ·show Act.put _ (some 65) _=_
         simp only[Act.put,zA,zB,zC,i64_w,i32_w]
         rfl
        refine one_ (i:=4) (N:=some 66) #[true,true,true,true,true,false,false,false] rfl rfl (one_of HT_.out (by kernel_rfl)) (by decide) (fun K hK => ?_)
        refine goes_ Try.func30 (by kernel_rfl) rfl #[.pointer (some ⟨g,0,none⟩),.slice Ao98 y266.length co98] (by rfl) rfl rfl (by(try simp only[List.map_toArray,List.map_cons,List.map_nil]);first|done|rfl|(simp only[List.length_drop,List.length_take];rfl)) ?_
        with_reducible refine(spec_l1Cur_among.calls g s0_0 t264 t265 _ _ y266 t269 t270 t271 w0 _ ?side1 ?side2 ?side3 ?side4 ?side5 A91.out).mono ?_
        (case side1=>repeat (first|(with_reducible first|exact HI0.out|apply IsS58.alloc|apply IsS58.drewN|apply IsS58.drew|apply IsS58.set_1|apply IsS58.set_2|apply IsS58.far (hne:=NB0_214.out)|apply IsS58.far (hne:=NB0_227.out))|exact HI0.out))
        (case side2=>repeat (first|(with_reducible first|exact HB.out|apply below_alloc|apply pw_below_drewN|apply below_drew1|refine below_set ?_ (IsS58.ge HI0.out)|refine below_set ?_ GE214.out|refine below_set ?_ GE227.out)|exact HB.out))
        (case side3=>exact bT HO268.out)
        (case side4=>exact(Kd.R_reads' HO268.out).2.1)
        (case side5=>exact far_slice (IsS58.own_ne HI0.out HO268.out (by decide)))
        rintro e w99 ⟨rfl,hi,hb,hk⟩
        refine⟨_,rfl,?_⟩
        have n0_:=am (Kd.S_mono (Kd.S_keep (IsS58.apartS (show IsS58 w0 _ g s0_0 t264 t265 from by repeat (first|(with_reducible first|exact HI0.out|apply IsS58.alloc|apply IsS58.drewN|apply IsS58.drew|apply IsS58.set_1|apply IsS58.set_2|apply IsS58.far (hne:=NB0_214.out)|apply IsS58.far (hne:=NB0_227.out))|exact HI0.out)) (by(with_reducible repeat (first|apply Kd.S_alloc|apply Kd.S_drewN|apply Kd.S_drew));exact HO_228001.out) (by decide)) hk (fun _ h=>h.2)) (fun _ h=>h.1))
        have n1_:=am (KeepBut.blk hk (g':=gb214) (o:=.cells #[.int .i64 0,.slice none 0 0,.int .i64 0] 25 (0,0)) (bL BK214.out) NB214_0.out (by simp))
        have n2_:=am (KeepBut.blk hk (g':=gb227) (o:=.cells #[.int .i64 x228000_2,u228001,.int .i64 x228002_2] 25 (0,0)) (bL BK227.out) NB227_0.out (by simp))
        have n3_:=am (Kd.R_mono (Kd.R_keep (IsS58.apart (show IsS58 w0 _ g s0_0 t264 t265 from by repeat (first|(with_reducible first|exact HI0.out|apply IsS58.alloc|apply IsS58.drewN|apply IsS58.drew|apply IsS58.set_1|apply IsS58.set_2|apply IsS58.far (hne:=NB0_214.out)|apply IsS58.far (hne:=NB0_227.out))|exact HI0.out)) (bK HO268.out) (by decide)) hk (fun _ h=>h.2)) (fun _ h=>h.1))
        have n4_:=am (KeepBut.trans (by repeat (first|(with_reducible first|exact HK.out|apply KeepBut.set_|apply keep_drewN|apply keep_drew|apply keep_alloc|refine keep_far ?_ GW214.out _|refine keep_far ?_ GW227.out _)|exact HK.out)) hk (.inl rfl))
        have n5_:=am (hb)
        have n6_:=am (hi)
        clear HO_228001 BK214 BK227 HO268 HK HB HI0
        have HO_228001:=n0_
        have BK214:=n1_
        have BK227:=n2_
        have HO268:=n3_
        have HK:=n4_
        have HB:=n5_
        have HI0:=n6_
        clear n0_ n1_ n2_ n3_ n4_ n5_ n6_
        (try clear hb)
        (try clear hb2)
        (try clear hk)
        (try clear hi)
        have p93:0≤(0:Int):=(by omega)
        have q93:(0:Int) < ((x228001_2.length:Int):Int):=bD_
        have qi93:(0 < x228001_2.length)=True:=eq_true (by omega)
        obtain⟨go93,co93,eo93,gb93,gl93,cl93,HG93⟩:=Kd.S_form HO_228001.out (by omega)
        (first|cases eo93|(injection eo93 with ea_ en_ ec_;(first|subst ea_|(injection ea_ with ea_;subst ea_));subst ec_;clear en_))
        have GB93:=am gb93
        have GG93:=am HG93
        clear gb93 gl93 HG93
        obtain⟨_,ce93,hcl93,hM93,hcc93,hfr93,_,_⟩:=Kd.S_elem HO_228001.out z34 (0:Int) p93 q93
        obtain⟨ve93_0,rfl,ge93_0⟩:=k34_openM hM93
        have hx93_0:World.cell? _ ⟨go93,(0:Int).toNat * 3,none⟩=some (ve93_0):=hcc93 0 _ rfl
        have hx93_1:World.cell? _ ⟨go93,(0:Int).toNat * 3+1,none⟩=some (.int .i64 ((rd_T34 x228001_2 0).f1)):=hcc93 1 _ rfl
        have hx93_2:World.cell? _ ⟨go93,(0:Int).toNat * 3+2,none⟩=some (.int .i64 ((rd_T34 x228001_2 0).f2)):=hcc93 2 _ rfl
        have hf93_0:World.frozen? _ ⟨go93,(0:Int).toNat * 3,none⟩=false:=hfr93 0
        have hf93_1:World.frozen? _ ⟨go93,(0:Int).toNat * 3+1,none⟩=false:=hfr93 1
        have hf93_2:World.frozen? _ ⟨go93,(0:Int).toNat * 3+2,none⟩=false:=hfr93 2
        clear hcl93 hcc93 hfr93 hM93
        (try rw[show((0:Int)).toNat=0 from rfl] at hx93_0)
        (try simp only[Nat.reduceMul,Nat.zero_mul,Nat.zero_add,Nat.reduceAdd] at hx93_0)
        (try rw[show((0:Int)).toNat=0 from rfl] at hf93_0)
        (try simp only[Nat.reduceMul,Nat.zero_mul,Nat.zero_add,Nat.reduceAdd] at hf93_0)
        (try rw[show((0:Int)).toNat=0 from rfl] at hx93_1)
        (try simp only[Nat.reduceMul,Nat.zero_mul,Nat.zero_add,Nat.reduceAdd] at hx93_1)
        (try rw[show((0:Int)).toNat=0 from rfl] at hf93_1)
        (try simp only[Nat.reduceMul,Nat.zero_mul,Nat.zero_add,Nat.reduceAdd] at hf93_1)
        (try rw[show((0:Int)).toNat=0 from rfl] at hx93_2)
        (try simp only[Nat.reduceMul,Nat.zero_mul,Nat.zero_add,Nat.reduceAdd] at hx93_2)
        (try rw[show((0:Int)).toNat=0 from rfl] at hf93_2)
        (try simp only[Nat.reduceMul,Nat.zero_mul,Nat.zero_add,Nat.reduceAdd] at hf93_2)
        replace p93:=eq_true p93
        replace q93:=eq_true q93
        have HN0_go93:=am (show g≠go93 from by have h_:=IsS58.own_neS HI0.out HO_228001.out (by decide);intro e_;exact h_ (by rw[e_];rfl))
        have HX100:=am (show Kd.S k34 34 _ w.heap.size (fun k_=>((fun k_=>some k_≠(.slice Ao98 y266.length co98:Value).ownBlock)) k_ ∧ ¬ (fun _=>False) k_) (.slice (some ⟨go93,0,none⟩) x228001_2.length co93) x228001_2 from (Kd.S_mono HO_228001.out (fun k_ hk=>⟨hk.2,fun e_=>e_⟩)))
        obtain⟨oki100,ce100,hcl100,hM100,hcc100,hfr100,hoki100,hH100⟩:=Kd.S_elem HX100.out z34 (0:Int) (by omega) (by have h_:(0:Int) < ((x228001_2.length:Int):Int):=bD_;first|exact h_|(have e_:=(Kd.S_reads' HO_228001.out).1;omega)|simpa using h_)
        obtain⟨ve100_0,rfl,ge100_0⟩:=k34_openM hM100
        have HP100:=(Kd.S_seg hH100 (by omega) (by have h_:(0:Int) < ((x228001_2.length:Int):Int):=bD_;first|exact h_|(have e_:=(Kd.S_reads' HO_228001.out).1;omega)|simpa using h_) (seg:=[.int .i64 t269]) (j:=1) (show 2≤3 from by decide) (x':=(⟨(rd_T34 x228001_2 0).f0,t269,(rd_T34 x228001_2 0).f2⟩:S34)) (k34_mkM _ _ _ (⟨(rd_T34 x228001_2 0).f0,t269,(rd_T34 x228001_2 0).f2⟩:S34) ge100_0) (fun _ hk=>Or.inl hk) (fun _ hk=>hk.elim)).1
        rw[← Ny272.out] at HP100
        have HQ100:=am HP100
        clear hcl100 hcc100 hfr100 hM100 HP100
        refine hK.out _ _ (cC3 BK227.out) (fun hHeld => ?_)
        clear hK K
        refine norm_ (a':=?_) ?_ ?_
        rotate_left
        ·show Act.put _ (some 66) _=_
         simp only[Act.put,zA,zB,zC,i64_w,i32_w]
         rfl
        refine pS HT_ 5 67 ?_;refine pS HT_ 6 68 ?_
        refine last_ (i:=7) (N:=none) #[true,true,true,true,true,true,true,true] rfl rfl (one_of HT_.out (by kernel_rfl)) (by decide) (fun K hK => ?_)
        refine skip_ (w1:=?_) (by rfl) rfl ?_ ?_
        rotate_left
        ·go_simp
         rfl
        refine hK.out _ _ ?_
        clear hK K
        refine done_ (done_of HT_.out (by kernel_rfl)) ?_
        have n0_:Aside0 (Kd.S k34 34 (w99.setCell ⟨go93,1,none⟩ (.int .i64 t269)) w.heap.size (fun k_=>some k_≠(.slice Ao98 y266.length co98:Value).ownBlock) (.slice (some ⟨go93,0,none⟩) x228001_2.length co93) y272):=⟨by(with_reducible repeat (first|apply Kd.S_alloc|apply Kd.S_drewN|apply Kd.S_drew));exact HQ100.out⟩
        have n1_:Aside0 (Kd.R (Kd.int .i64) 3 (w99.setCell ⟨go93,1,none⟩ (.int .i64 t269)) w.heap.size (fun _=>True) (.slice Ao98 y266.length co98) y266):=⟨by(with_reducible repeat (first|apply Kd.R_alloc|apply Kd.R_drewN|apply Kd.R_drew));exact Kd.R_mono (Kd.R_far (p:=⟨go93,1,none⟩) (Kd.R_types HO268.out GG93.out (by decide)) (fun _ hk=>hk.2) (.int .i64 t269)) (fun _ hk=>trivial)⟩
        have n2_:Aside0 ((w99.setCell ⟨go93,1,none⟩ (.int .i64 t269)).heap[gb214]?=some (.cells #[.int .i64 0,.slice none 0 0,.int .i64 0] 25 (0,0))):=⟨by(with_reducible repeat (first|refine blk_drewN ?_ _|refine blk_drew ?_|refine blk_alloc ?_ _));refine blk_far ?_ (by have h_:=Kd.S_ne HO_228001.out BK214.out (by decide);intro e_;exact h_ (by rw[e_];rfl)) _;(with_reducible repeat (first|refine blk_drewN ?_ _|refine blk_drew ?_|refine blk_alloc ?_ _));exact BK214.out⟩
        have n3_:Aside0 ((w99.setCell ⟨go93,1,none⟩ (.int .i64 t269)).heap[gb227]?=some (.cells #[.int .i64 x228000_2,.slice (some ⟨go93,0,none⟩) x228001_2.length co93,.int .i64 x228002_2] 25 (0,0))):=⟨by(with_reducible repeat (first|refine blk_drewN ?_ _|refine blk_drew ?_|refine blk_alloc ?_ _));refine blk_far ?_ (by have h_:=Kd.S_ne HO_228001.out BK227.out (by decide);intro e_;exact h_ (by rw[e_];rfl)) _;(with_reducible repeat (first|refine blk_drewN ?_ _|refine blk_drew ?_|refine blk_alloc ?_ _));exact BK227.out⟩
        have n4_:Aside0 (IsS58 w0 (w99.setCell ⟨go93,1,none⟩ (.int .i64 t269)) g s0_0 t270 t271):=⟨by repeat (first|(with_reducible first|exact HI0.out|apply IsS58.alloc|apply IsS58.drewN|apply IsS58.drew|apply IsS58.set_1|apply IsS58.set_2|refine IsS58.far ?_ HN0_go93.out _|apply IsS58.far (hne:=NB0_214.out)|apply IsS58.far (hne:=NB0_227.out))|exact HI0.out)⟩
        have n5_:Aside0 (KeepBut w (w99.setCell ⟨go93,1,none⟩ (.int .i64 t269)) g none):=⟨by repeat (first|(with_reducible first|exact HK.out|apply KeepBut.set_|apply keep_drewN|apply keep_drew|apply keep_alloc|refine keep_far ?_ GB93.out _|refine keep_far ?_ GW214.out _|refine keep_far ?_ GW227.out _)|exact HK.out)⟩
        have n6_:Aside0 (Below w0.heap.size w0 (w99.setCell ⟨go93,1,none⟩ (.int .i64 t269))):=⟨by repeat (first|(with_reducible first|exact HB.out|apply below_alloc|apply pw_below_drewN|apply below_drew1|refine below_set ?_ (Nat.le_trans HL.out GB93.out)|refine below_set ?_ (IsS58.ge HI0.out)|refine below_set ?_ GE214.out|refine below_set ?_ GE227.out)|exact HB.out)⟩
        (try clear HO_228001)
        (try clear HO268)
        (try clear BK214)
        (try clear BK227)
        (try clear HI0)
        (try clear HK)
        (try clear HB)
        generalize (w99.setCell ⟨go93,1,none⟩ (.int .i64 t269))=w101 at n0_ n1_ n2_ n3_ n4_ n5_ n6_ ⊢
        have HO_228001:=n0_
        have HO268:=n1_
        have BK214:=n2_
        have BK227:=n3_
        have HI0:=n4_
        have HK:=n5_
        have HB:=n6_
        clear n0_ n1_ n2_ n3_ n4_ n5_ n6_
        have hnb102:=NB227_214.out
        have hnc102:=NB214_227.out
        have hnb103:=NB227_0.out
        have hnc103:=NB0_227.out
        obtain⟨hcz104_0,hcz104_1,hcz104_2⟩:=cC3 BK227.out
        obtain⟨hfz104_0,hfz104_1,hfz104_2⟩:=cF3 BK227.out
        have hnb105:=NB214_0.out
        have hnc105:=NB0_214.out
        obtain⟨hcz106_0,hcz106_1,hcz106_2⟩:=cC3 BK214.out
        obtain⟨hfz106_0,hfz106_1,hfz106_2⟩:=cF3 BK214.out
        try go_wp2
        refine bodyPost_ret (results_cell_row rfl _ _ gb214 25 #[.int .i64 x228000_2,.slice (some ⟨go93,0,none⟩) x228001_2.length co93,.int .i64 x228002_2] (0,0) _ rfl (by(with_reducible repeat (first|refine blk_drewN ?_ _|refine blk_drew ?_|refine blk_alloc ?_ _));apply bU3;(with_reducible repeat (first|refine blk_drewN ?_ _|refine blk_drew ?_|refine blk_alloc ?_ _));exact BK214.out) Try.underlying25 rfl (by kernel_rfl)) rfl ?_
        exact⟨_,by first|rfl|(simp[errW_none,errW_some]<;>rfl)|(simp[*,errW_none,errW_some]<;>rfl),by(with_reducible repeat (first|apply Kd.S_alloc|apply Kd.S_drewN|apply Kd.S_drew));exact Kd.S_mono (Kd.S_far (p:=⟨gb214,2,none⟩) (Kd.S_far (p:=⟨gb214,1,none⟩) (Kd.S_far (p:=⟨gb214,0,none⟩) (Kd.S_types HO_228001.out BK214.out (by decide)) (fun _ hk=>hk.2) (.int .i64 x228000_2)) (fun _ hk=>hk.2) (.slice (some ⟨go93,0,none⟩) x228001_2.length co93)) (fun _ hk=>hk.2) (.int .i64 x228002_2)) (fun _ hk=>trivial),by repeat (first|(with_reducible first|exact HI0.out|apply IsS58.alloc|apply IsS58.drewN|apply IsS58.drew|apply IsS58.set_1|apply IsS58.set_2|apply IsS58.far (hne:=NB0_214.out)|apply IsS58.far (hne:=NB0_227.out))|exact HI0.out),by repeat (first|(with_reducible first|exact HB.out|apply below_alloc|apply pw_below_drewN|apply below_drew1|refine below_set ?_ (IsS58.ge HI0.out)|refine below_set ?_ GE214.out|refine below_set ?_ GE227.out)|exact HB.out),by repeat (first|(with_reducible first|exact HK.out|apply KeepBut.set_|apply keep_drewN|apply keep_drew|apply keep_alloc|refine keep_far ?_ GW214.out _|refine keep_far ?_ GW227.out _)|exact HK.out)⟩
       ·rw[if_neg c92] at H
        exact absurd H (by simp)
      ·rw[if_neg c90] at H
       have c90b0:(t263 == 0)=false:=beq_eq_false_iff_ne.mpr c90
       have c90b1:(t263 != 0)=true:=bne_iff_ne.mpr c90
       by_cases c107:t263=1
       ·rw[if_pos c107] at H
        have c107b0:(t263 == 1)=true:=beq_iff_eq.mpr c107
        have c107b1:(t263 != 1)=false:=bne_eq_false_iff_eq.mpr c107
        clear c107
        obtain⟨y273,hy273⟩ : ∃ y_:List Int,y_=(([(-1),1000000,1000001]:List Int)):=⟨_,rfl⟩
        replace H:((spec_l1Cur_among.f s0_0 t264 t265 y273).bind fun bt276=>(some (x228000_2,x228001_2,bt276.1,bt276.2.1,bt276.2.2)))=some (r1,r2,r3,r4,r5):=by first|(rw[hy273];with_reducible exact H)|(have H2_:=(Option.bind_some _ _).symm.trans H;rw[hy273];with_reducible exact H2_)|(have H2_:=(Option.bind_some _ _).symm.trans H;with_reducible exact H2_)|with_reducible exact H|(rw[hy273];exact H)|exact H
        have Ny273:=am hy273
        clear hy273
        replace H:=bI_ H
        obtain⟨⟨t276,t277,t278⟩,A1080,H⟩:=H
        replace H:(some (x228000_2,x228001_2,t276,t277,t278))=some (r1,r2,r3,r4,r5):=H
        have A108:=am A1080
        clear A1080
        simp only[Option.some.injEq,Prod.mk.injEq] at H
        obtain⟨rfl,rfl,rfl,rfl,rfl⟩:=H
        go_wp2_with (first|((with_reducible refine gate_callee (f:=29) rfl ?_);refine goesA (some 59) rfl rfl Try.func29 #[.pointer (some ⟨g,0,none⟩),.int .i64 40] rfl ?_;(with_reducible refine(spec_l1Cur_pick.calls g s0_0 x1001_2 x1002_2 40 t263 t264 t265 w0 _ ?side1 ?side2 A89.out).mono ?_);(case side1=>repeat (first|(with_reducible first|exact HI0.out|apply IsS58.alloc|apply IsS58.drewN|apply IsS58.drew|apply IsS58.set_1|apply IsS58.set_2|apply IsS58.far (hne:=NB0_214.out)|apply IsS58.far (hne:=NB0_227.out))|exact HI0.out));(case side2=>repeat (first|(with_reducible first|exact HB.out|apply below_alloc|apply pw_below_drewN|apply below_drew1|refine below_set ?_ (IsS58.ge HI0.out)|refine below_set ?_ GE214.out|refine below_set ?_ GE227.out)|exact HB.out));rintro e w109 ⟨rfl,hi,hb,hk⟩;refine⟨_,rfl,?_⟩;have n0_:=am (Kd.S_mono (Kd.S_keep (IsS58.apartS (show IsS58 w0 _ g s0_0 x1001_2 x1002_2 from by repeat (first|(with_reducible first|exact HI0.out|apply IsS58.alloc|apply IsS58.drewN|apply IsS58.drew|apply IsS58.set_1|apply IsS58.set_2|apply IsS58.far (hne:=NB0_214.out)|apply IsS58.far (hne:=NB0_227.out))|exact HI0.out)) (by(with_reducible repeat (first|apply Kd.S_alloc|apply Kd.S_drewN|apply Kd.S_drew));exact HO_228001.out) (by decide)) hk (fun _ h=>h.2)) (fun _ h=>h.1));have n1_:=am (KeepBut.blk hk (g':=gb214) (o:=.cells #[.int .i64 0,.slice none 0 0,.int .i64 0] 25 (0,0)) (bL BK214.out) NB214_0.out (by simp));have n2_:=am (KeepBut.blk hk (g':=gb227) (o:=.cells #[.int .i64 x228000_2,u228001,.int .i64 x228002_2] 25 (0,0)) (bL BK227.out) NB227_0.out (by simp));have n3_:=am (KeepBut.trans (by repeat (first|(with_reducible first|exact HK.out|apply KeepBut.set_|apply keep_drewN|apply keep_drew|apply keep_alloc|refine keep_far ?_ GW214.out _|refine keep_far ?_ GW227.out _)|exact HK.out)) hk (.inl rfl));have n4_:=am (hb);have n5_:=am (hi);clear HO_228001 BK214 BK227 HK HB;(try clear HI0);have HO_228001:=n0_;have BK214:=n1_;have BK227:=n2_;have HK:=n3_;have HB:=n4_;have HI0:=n5_;clear n0_ n1_ n2_ n3_ n4_ n5_;(try clear hb);(try clear hb2);(try clear hk);(try clear hi))|((with_reducible refine gate_dst (N:=72) rfl ?_);refine Kd.R_lit (Kd.int .i64) _ 3 ?hg (N:=72) ?hd (xs:=([(-1),1000000,1000001]:List Int)) (inner:=[.int .i64 (-1),.int .i64 1000000,.int .i64 1000001]) (ok:=fun _=>True) (okp:=fun _=>True) ?hr ?hp (fun _ hk=>hk) trivial (Below.refl _ _) (Nat.le_refl _) (by simp) ?_;(case hd=>rfl);(case hg=>rfl);(case hr=>first|(go_simp;done)|(go_simp;rfl));(case hp=>exact(Reps.one (show Kd.M (Kd.int .i64) _ _ _ (-1) [.int .i64 (-1)] from rfl) (Reps.one (show Kd.M (Kd.int .i64) _ _ _ 1000000 [.int .i64 1000000] from rfl) (Reps.one (show Kd.M (Kd.int .i64) _ _ _ 1000001 [.int .i64 1000001] from rfl) (Reps.none _ _)))));intro v274 w110 ho111 hb hg_ hnew_;clear hg_ hnew_;(first|rw[← Ny273.out] at ho111|(simp only[Int.reduceToNat] at ho111;rw[← Ny273.out] at ho111));have n0_:=am (Kd.S_elder' (by(with_reducible repeat (first|apply Kd.S_alloc|apply Kd.S_drewN|apply Kd.S_drew));exact HO_228001.out) (Kd.R_base ho111) hb);have n1_:=am (Kd.R_lower ho111 (keep_size (w:=w) (g:=g) (row:=none) (by repeat (first|(with_reducible first|exact HK.out|apply KeepBut.set_|apply keep_drewN|apply keep_drew|apply keep_alloc|refine keep_far ?_ GW214.out _|refine keep_far ?_ GW227.out _)|exact HK.out))));have n2_:=am (bM BK214.out hb);have n3_:=am (bM BK227.out hb);have n4_:=am (IsS58.below (by repeat (first|(with_reducible first|exact HI0.out|apply IsS58.alloc|apply IsS58.drewN|apply IsS58.drew|apply IsS58.set_1|apply IsS58.set_2|apply IsS58.far (hne:=NB0_214.out)|apply IsS58.far (hne:=NB0_227.out))|exact HI0.out)) hb);have n5_:=am (KeepBut.trans (by repeat (first|(with_reducible first|exact HK.out|apply KeepBut.set_|apply keep_drewN|apply keep_drew|apply keep_alloc|refine keep_far ?_ GW214.out _|refine keep_far ?_ GW227.out _)|exact HK.out)) (KeepBut.of_below hb g none) (.inl rfl));have n6_:=am (below_step (by repeat (first|(with_reducible first|exact HB.out|apply below_alloc|apply pw_below_drewN|apply below_drew1|refine below_set ?_ (IsS58.ge HI0.out)|refine below_set ?_ GE214.out|refine below_set ?_ GE227.out)|exact HB.out)) hb);clear HO_228001 BK214 BK227;(try clear HI0);clear HK HB;have HO_228001:=n0_;have HO275:=n1_;have BK214:=n2_;have BK227:=n3_;have HI0:=n4_;have HK:=n5_;have HB:=n6_;clear n0_ n1_ n2_ n3_ n4_ n5_ n6_;clear hb ho111;obtain⟨Ao112,co112,eo112⟩:=Kd.R_slice HO275.out;subst eo112)|((with_reducible refine gate_callee (f:=30) rfl ?_);refine goesA (some 73) rfl rfl Try.func30 #[.pointer (some ⟨g,0,none⟩),.slice Ao112 y273.length co112] rfl ?_;(with_reducible refine(spec_l1Cur_among.calls g s0_0 t264 t265 _ _ y273 t276 t277 t278 w0 _ ?side1 ?side2 ?side3 ?side4 ?side5 A108.out).mono ?_);(case side1=>repeat (first|(with_reducible first|exact HI0.out|apply IsS58.alloc|apply IsS58.drewN|apply IsS58.drew|apply IsS58.set_1|apply IsS58.set_2|apply IsS58.far (hne:=NB0_214.out)|apply IsS58.far (hne:=NB0_227.out))|exact HI0.out));(case side2=>repeat (first|(with_reducible first|exact HB.out|apply below_alloc|apply pw_below_drewN|apply below_drew1|refine below_set ?_ (IsS58.ge HI0.out)|refine below_set ?_ GE214.out|refine below_set ?_ GE227.out)|exact HB.out));(case side3=>exact bT HO275.out);(case side4=>exact(Kd.R_reads' HO275.out).2.1);(case side5=>exact far_slice (IsS58.own_ne HI0.out HO275.out (by decide)));rintro e w113 ⟨rfl,hi,hb,hk⟩;refine⟨_,rfl,?_⟩;have n0_:=am (Kd.S_mono (Kd.S_keep (IsS58.apartS (show IsS58 w0 _ g s0_0 t264 t265 from by repeat (first|(with_reducible first|exact HI0.out|apply IsS58.alloc|apply IsS58.drewN|apply IsS58.drew|apply IsS58.set_1|apply IsS58.set_2|apply IsS58.far (hne:=NB0_214.out)|apply IsS58.far (hne:=NB0_227.out))|exact HI0.out)) (by(with_reducible repeat (first|apply Kd.S_alloc|apply Kd.S_drewN|apply Kd.S_drew));exact HO_228001.out) (by decide)) hk (fun _ h=>h.2)) (fun _ h=>h.1));have n1_:=am (KeepBut.blk hk (g':=gb214) (o:=.cells #[.int .i64 0,.slice none 0 0,.int .i64 0] 25 (0,0)) (bL BK214.out) NB214_0.out (by simp));have n2_:=am (KeepBut.blk hk (g':=gb227) (o:=.cells #[.int .i64 x228000_2,u228001,.int .i64 x228002_2] 25 (0,0)) (bL BK227.out) NB227_0.out (by simp));have n3_:=am (Kd.R_mono (Kd.R_keep (IsS58.apart (show IsS58 w0 _ g s0_0 t264 t265 from by repeat (first|(with_reducible first|exact HI0.out|apply IsS58.alloc|apply IsS58.drewN|apply IsS58.drew|apply IsS58.set_1|apply IsS58.set_2|apply IsS58.far (hne:=NB0_214.out)|apply IsS58.far (hne:=NB0_227.out))|exact HI0.out)) (bK HO275.out) (by decide)) hk (fun _ h=>h.2)) (fun _ h=>h.1));have n4_:=am (KeepBut.trans (by repeat (first|(with_reducible first|exact HK.out|apply KeepBut.set_|apply keep_drewN|apply keep_drew|apply keep_alloc|refine keep_far ?_ GW214.out _|refine keep_far ?_ GW227.out _)|exact HK.out)) hk (.inl rfl));have n5_:=am (hb);have n6_:=am (hi);clear HO_228001 BK214 BK227 HO275 HK HB;(try clear HI0);have HO_228001:=n0_;have BK214:=n1_;have BK227:=n2_;have HO275:=n3_;have HK:=n4_;have HB:=n5_;have HI0:=n6_;clear n0_ n1_ n2_ n3_ n4_ n5_ n6_;(try clear hb);(try clear hb2);(try clear hk);(try clear hi);have hnb114:=NB227_214.out;have hnc114:=NB214_227.out;have hnb115:=NB227_0.out;have hnc115:=NB0_227.out;obtain⟨hcz116_0,hcz116_1,hcz116_2⟩:=cC3 BK227.out;obtain⟨hfz116_0,hfz116_1,hfz116_2⟩:=cF3 BK227.out;have hnb117:=NB214_0.out;have hnc117:=NB0_214.out;obtain⟨hcz118_0,hcz118_1,hcz118_2⟩:=cC3 BK214.out;obtain⟨hfz118_0,hfz118_1,hfz118_2⟩:=cF3 BK214.out;obtain⟨Ao119,co119,eo119⟩:=Kd.S_slice HO_228001.out;subst eo119))
        refine bodyPost_ret (results_cell_row rfl _ _ gb214 25 #[.int .i64 x228000_2,.slice Ao119 x228001_2.length co119,.int .i64 t276] (0,0) _ rfl (by(with_reducible repeat (first|refine blk_drewN ?_ _|refine blk_drew ?_|refine blk_alloc ?_ _));apply bU3;(with_reducible repeat (first|refine blk_drewN ?_ _|refine blk_drew ?_|refine blk_alloc ?_ _));refine blk_far ?_ NB214_227.out _;(with_reducible repeat (first|refine blk_drewN ?_ _|refine blk_drew ?_|refine blk_alloc ?_ _));exact BK214.out) Try.underlying25 rfl (by kernel_rfl)) rfl ?_
        exact⟨_,by first|rfl|(simp[errW_none,errW_some]<;>rfl)|(simp[*,errW_none,errW_some]<;>rfl),by(with_reducible repeat (first|apply Kd.S_alloc|apply Kd.S_drewN|apply Kd.S_drew));exact Kd.S_mono (Kd.S_far (p:=⟨gb214,2,none⟩) (Kd.S_far (p:=⟨gb214,1,none⟩) (Kd.S_far (p:=⟨gb214,0,none⟩) (Kd.S_far (p:=⟨gb227,2,none⟩) (Kd.S_types (Kd.S_types HO_228001.out BK227.out (by decide)) BK214.out (by decide)) (fun _ hk=>hk.1.2) (.int .i64 t276)) (fun _ hk=>hk.2) (.int .i64 x228000_2)) (fun _ hk=>hk.2) (.slice Ao119 x228001_2.length co119)) (fun _ hk=>hk.2) (.int .i64 t276)) (fun _ hk=>trivial),by repeat (first|(with_reducible first|exact HI0.out|apply IsS58.alloc|apply IsS58.drewN|apply IsS58.drew|apply IsS58.set_1|apply IsS58.set_2|apply IsS58.far (hne:=NB0_214.out)|apply IsS58.far (hne:=NB0_227.out))|exact HI0.out),by repeat (first|(with_reducible first|exact HB.out|apply below_alloc|apply pw_below_drewN|apply below_drew1|refine below_set ?_ (IsS58.ge HI0.out)|refine below_set ?_ GE214.out|refine below_set ?_ GE227.out)|exact HB.out),by repeat (first|(with_reducible first|exact HK.out|apply KeepBut.set_|apply keep_drewN|apply keep_drew|apply keep_alloc|refine keep_far ?_ GW214.out _|refine keep_far ?_ GW227.out _)|exact HK.out)⟩
       ·rw[if_neg c107] at H
        have c107b0:(t263 == 1)=false:=beq_eq_false_iff_ne.mpr c107
        have c107b1:(t263 != 1)=true:=bne_iff_ne.mpr c107
        simp only[Option.some.injEq,Prod.mk.injEq] at H
        obtain⟨rfl,rfl,rfl,rfl,rfl⟩:=H
        go_wp2_with (first|((with_reducible refine gate_callee (f:=29) rfl ?_);refine goesA (some 59) rfl rfl Try.func29 #[.pointer (some ⟨g,0,none⟩),.int .i64 40] rfl ?_;(with_reducible refine(spec_l1Cur_pick.calls g s0_0 x1001_2 x1002_2 40 t263 t264 t265 w0 _ ?side1 ?side2 A89.out).mono ?_);(case side1=>repeat (first|(with_reducible first|exact HI0.out|apply IsS58.alloc|apply IsS58.drewN|apply IsS58.drew|apply IsS58.set_1|apply IsS58.set_2|apply IsS58.far (hne:=NB0_214.out)|apply IsS58.far (hne:=NB0_227.out))|exact HI0.out));(case side2=>repeat (first|(with_reducible first|exact HB.out|apply below_alloc|apply pw_below_drewN|apply below_drew1|refine below_set ?_ (IsS58.ge HI0.out)|refine below_set ?_ GE214.out|refine below_set ?_ GE227.out)|exact HB.out));rintro e w120 ⟨rfl,hi,hb,hk⟩;refine⟨_,rfl,?_⟩;have n0_:=am (Kd.S_mono (Kd.S_keep (IsS58.apartS (show IsS58 w0 _ g s0_0 x1001_2 x1002_2 from by repeat (first|(with_reducible first|exact HI0.out|apply IsS58.alloc|apply IsS58.drewN|apply IsS58.drew|apply IsS58.set_1|apply IsS58.set_2|apply IsS58.far (hne:=NB0_214.out)|apply IsS58.far (hne:=NB0_227.out))|exact HI0.out)) (by(with_reducible repeat (first|apply Kd.S_alloc|apply Kd.S_drewN|apply Kd.S_drew));exact HO_228001.out) (by decide)) hk (fun _ h=>h.2)) (fun _ h=>h.1));have n1_:=am (KeepBut.blk hk (g':=gb214) (o:=.cells #[.int .i64 0,.slice none 0 0,.int .i64 0] 25 (0,0)) (bL BK214.out) NB214_0.out (by simp));have n2_:=am (KeepBut.blk hk (g':=gb227) (o:=.cells #[.int .i64 x228000_2,u228001,.int .i64 x228002_2] 25 (0,0)) (bL BK227.out) NB227_0.out (by simp));have n3_:=am (KeepBut.trans (by repeat (first|(with_reducible first|exact HK.out|apply KeepBut.set_|apply keep_drewN|apply keep_drew|apply keep_alloc|refine keep_far ?_ GW214.out _|refine keep_far ?_ GW227.out _)|exact HK.out)) hk (.inl rfl));have n4_:=am (hb);have n5_:=am (hi);clear HO_228001 BK214 BK227 HK HB;(try clear HI0);have HO_228001:=n0_;have BK214:=n1_;have BK227:=n2_;have HK:=n3_;have HB:=n4_;have HI0:=n5_;clear n0_ n1_ n2_ n3_ n4_ n5_;(try clear hb);(try clear hb2);(try clear hk);(try clear hi);have hnb121:=NB227_214.out;have hnc121:=NB214_227.out;have hnb122:=NB227_0.out;have hnc122:=NB0_227.out;obtain⟨hcz123_0,hcz123_1,hcz123_2⟩:=cC3 BK227.out;obtain⟨hfz123_0,hfz123_1,hfz123_2⟩:=cF3 BK227.out;have hnb124:=NB214_0.out;have hnc124:=NB0_214.out;obtain⟨hcz125_0,hcz125_1,hcz125_2⟩:=cC3 BK214.out;obtain⟨hfz125_0,hfz125_1,hfz125_2⟩:=cF3 BK214.out;obtain⟨Ao126,co126,eo126⟩:=Kd.S_slice HO_228001.out;subst eo126))
        refine bodyPost_ret (results_cell_row rfl _ _ gb214 25 #[.int .i64 x228000_2,.slice Ao126 x228001_2.length co126,.int .i64 x228002_2] (0,0) _ rfl (by(with_reducible repeat (first|refine blk_drewN ?_ _|refine blk_drew ?_|refine blk_alloc ?_ _));apply bU3;(with_reducible repeat (first|refine blk_drewN ?_ _|refine blk_drew ?_|refine blk_alloc ?_ _));exact BK214.out) Try.underlying25 rfl (by kernel_rfl)) rfl ?_
        exact⟨_,by first|rfl|(simp[errW_none,errW_some]<;>rfl)|(simp[*,errW_none,errW_some]<;>rfl),by(with_reducible repeat (first|apply Kd.S_alloc|apply Kd.S_drewN|apply Kd.S_drew));exact Kd.S_mono (Kd.S_far (p:=⟨gb214,2,none⟩) (Kd.S_far (p:=⟨gb214,1,none⟩) (Kd.S_far (p:=⟨gb214,0,none⟩) (Kd.S_types HO_228001.out BK214.out (by decide)) (fun _ hk=>hk.2) (.int .i64 x228000_2)) (fun _ hk=>hk.2) (.slice Ao126 x228001_2.length co126)) (fun _ hk=>hk.2) (.int .i64 x228002_2)) (fun _ hk=>trivial),by repeat (first|(with_reducible first|exact HI0.out|apply IsS58.alloc|apply IsS58.drewN|apply IsS58.drew|apply IsS58.set_1|apply IsS58.set_2|apply IsS58.far (hne:=NB0_214.out)|apply IsS58.far (hne:=NB0_227.out))|exact HI0.out),by repeat (first|(with_reducible first|exact HB.out|apply below_alloc|apply pw_below_drewN|apply below_drew1|refine below_set ?_ (IsS58.ge HI0.out)|refine below_set ?_ GE214.out|refine below_set ?_ GE227.out)|exact HB.out),by repeat (first|(with_reducible first|exact HK.out|apply KeepBut.set_|apply keep_drewN|apply keep_drew|apply keep_alloc|refine keep_far ?_ GW214.out _|refine keep_far ?_ GW227.out _)|exact HK.out)⟩

end Go.Proofs.Ythghcoepkknkeaa.XFnFair
