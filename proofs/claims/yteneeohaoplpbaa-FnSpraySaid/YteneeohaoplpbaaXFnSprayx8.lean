-- Written by this session's own program (wip/xprint.py) out of the translation; Lean checks it.
import Derived.Test.YteneeohaoplpbaaXFnSprayx0
import Derived.Test.YteneeohaoplpbaaXFnSprayx1
import Derived.Test.YteneeohaoplpbaaXFnSprayx4
import Derived.Test.YteneeohaoplpbaaXFnSprayx6
namespace Go.Proofs.Yteneeohaoplpbaa.XFnSpray
open Go.RowKit Go.Proofs.YteneeohaoplpbaaW.PrintWords Go.Proofs.YteneeohaoplpbaaW.PrintLast Go.Proofs.YteneeohaoplpbaaW.PrintMore
open Go.Proofs.YteneeohaoplpbaaW.PrintWords.Aside0 renaming mk → am
open List renaming setIfInBounds_toArray → zA, set_cons_zero → zB, set_cons_succ → zC
attribute [local go_sem] max2_int min2_int max_two min_two max_three min_three max_four min_four   -- for this text's walks alone
set_option linter.unusedVariables false
set_option linter.unusedSimpArgs false

/-! ### spec_l1Cur_spray: function 115 -/
def spec_l1Cur_spray.j0:Nat→List Int→Int→Int→List Int→Int→Bool→Option (List Int × Int × Bool × Int × Int)
 | 0,_,_,_,_,_,_=>none
 | k+1,x1000,x1001,x1002,x404000,x404001,x404002=>(spec_l1Cur_one.f x1000 x1001 x1002 20).bind fun bt410=>(if bt410.1=true then ((spec_l1Cur_pick.f x1000 bt410.2.1 bt410.2.2 (x404000.length:Int)).bind fun bt413=>(if 0≤bt413.1 then (if bt413.1 < (x404000.length:Int) then ((spec_l1Cur_pick.f x1000 bt413.2.1 bt413.2.2 3).bind fun bt417=>(some ((x404000.set (bt413.1:Int).toNat (wrap64 ((rd x404000 bt413.1)+(wrap64 (bt417.1 - 1))))),x404001,x404002,bt417.2.1,bt417.2.2))) else (none)) else (none))) else (some (x404000,x404001,x404002,bt410.2.1,bt410.2.2)))
def spec_l1Cur_spray.f (k:Nat) (s0_0:List Int) (s0_1:Int) (s0_2:Int):Option (List Int × Int × Bool × Int × Int):=(spec_l1Cur_sprayOf.f s0_0 s0_1 s0_2).bind fun bt385=>((spec_l1Cur_meets.f k s0_0 bt385.2.2.2.2.1 bt385.2.2.2.2.2 bt385.1).bind fun bt391=>((spec_PlaySpray.f k bt385.1 bt385.2.1 bt385.2.2.1 bt385.2.2.2.1 bt391.1).bind fun bt396=>(if bt396.2.2.2.2=true then (spec_l1Cur_spray.j0 k s0_0 bt391.2.1 bt391.2.2 bt396.1 bt396.2.1 bt396.2.2.1) else ((spec_NewSpray.f 3 0 2 4).bind fun bt404=>(spec_l1Cur_spray.j0 k s0_0 bt391.2.1 bt391.2.2 bt404.1 bt404.2.1 bt404.2.2.1)))))
theorem spec_l1Cur_spray.mono_l : ∀ k,(∀ y0 y1 y2 y3 y4 y5,LeO (spec_l1Cur_spray.j0 k y0 y1 y2 y3 y4 y5) (spec_l1Cur_spray.j0 (k+1) y0 y1 y2 y3 y4 y5))
 | 0=>fun _ _ _ _ _ _ r h=>by simp[spec_l1Cur_spray.j0] at h
 | k+1=>by
  have ih0:=spec_l1Cur_spray.mono_l k
  ·intro y0 y1 y2 y3 y4 y5
   unfold spec_l1Cur_spray.j0
   repeat' first
   | (with_reducible exact ih0 _ _ _ _ _ _)
   | (with_reducible exact spec_PlaySpray.mono _ _ _ _ _ _)
   | (with_reducible exact spec_l1Cur_meets.mono _ _ _ _ _)
   | (with_reducible exact LeO.refl _)
   | (with_reducible exact LeO.none _)
   | (with_reducible refine LeO.ite ?_ ?_)
   | (with_reducible refine LeO.bind ?_ (fun _ => ?_))
theorem spec_l1Cur_spray.mono : ∀ a0 a1 a2 k,LeO (spec_l1Cur_spray.f k a0 a1 a2) (spec_l1Cur_spray.f (k+1) a0 a1 a2):=by
 intro a0 a1 a2 k
 have ih0:=spec_l1Cur_spray.mono_l k
 unfold spec_l1Cur_spray.f
 repeat' first
  | (with_reducible exact ih0 _ _ _ _ _ _)
  | (with_reducible exact spec_PlaySpray.mono _ _ _ _ _ _)
  | (with_reducible exact spec_l1Cur_meets.mono _ _ _ _ _)
  | (with_reducible exact LeO.refl _)
  | (with_reducible exact LeO.none _)
  | (with_reducible refine LeO.ite ?_ ?_)
  | (with_reducible refine LeO.bind ?_ (fun _ => ?_))
def spec_l1Cur_spray.T7:Bool × List (List Nat × List Nat):=(true,[([],[]),([0],[0]),([],[]),([],[]),([3],[3]),([4],[4]),([2,5],[2,5]),([1,6],[1,6]),([7],[7]),([],[]),([9,6],[9]),([10],[10]),([8,11],[8,11]),([1,6,0,1,2,3,4,5,6,7,8,9,10,11,12],[1,6]),([13,12,10,0,1,2,3,4,5,6,7,8,9,10,11,12],[12,13])])
def spec_l1Cur_spray.B7:List Nat:=[0,1,0,0,8,24,60,127,255,0,636,1660,4095,8191,16383]
theorem spec_l1Cur_spray.tab7:rtab .any (opsOf Try.f115 7)=spec_l1Cur_spray.T7:=by kernel_rfl
theorem spec_l1Cur_spray.bits7:waitsOk spec_l1Cur_spray.T7.2 spec_l1Cur_spray.B7=true:=by kernel_rfl
set_option maxHeartbeats 8000000 in
set_option maxRecDepth 100000 in
theorem spec_l1Cur_spray.calls (k:Nat) (g:Nat) (s0_0:List Int) (s0_1:Int) (s0_2:Int) (r1:List Int) (r2:Int) (r3:Bool) (r4:Int) (r5:Int) (w0 w:World) (hI:IsS138 w0 w g s0_0 s0_1 s0_2) (hB:Below w0.heap.size w0 w) (h:spec_l1Cur_spray.f k s0_0 s0_1 s0_2=some (r1,r2,r3,r4,r5)) :
  Calls Try.prog 115 #[.pointer (some ⟨g,0,none⟩)] w fun e w' => ∃ v0_:Value,e=.returned (.agg #[v0_,.int .i64 r2,.bool r3])∧Kd.R (Kd.int .i64) 3 w' w.heap.size (fun _=>True) v0_ r1∧IsS138 w0 w' g s0_0 r4 r5∧Below w0.heap.size w0 w'∧KeepBut w w' g none:=by
 have hu62:=Try.underlying62
 have HI0:=am hI
 have HK:=am (KeepBut.refl w g none)
 have HL:=am hB.size
 clear hI
 have HW0:=am hB.size
 have HB:=am hB
 clear hB
 have H:((spec_l1Cur_sprayOf.f s0_0 s0_1 s0_2).bind fun bt385=>((spec_l1Cur_meets.f k s0_0 bt385.2.2.2.2.1 bt385.2.2.2.2.2 bt385.1).bind fun bt391=>((spec_PlaySpray.f k bt385.1 bt385.2.1 bt385.2.2.1 bt385.2.2.2.1 bt391.1).bind fun bt396=>(if bt396.2.2.2.2=true then (spec_l1Cur_spray.j0 k s0_0 bt391.2.1 bt391.2.2 bt396.1 bt396.2.1 bt396.2.2.1) else ((spec_NewSpray.f 3 0 2 4).bind fun bt404=>(spec_l1Cur_spray.j0 k s0_0 bt391.2.1 bt391.2.2 bt404.1 bt404.2.1 bt404.2.2.1))))))=some (r1,r2,r3,r4,r5):=h
 clear h
 replace H:=bI_ H
 obtain⟨⟨t385,t386,t387,t388,t389,t390⟩,A20,H⟩:=H
 replace H:((spec_l1Cur_meets.f k s0_0 t389 t390 t385).bind fun bt391=>((spec_PlaySpray.f k t385 t386 t387 t388 bt391.1).bind fun bt396=>(if bt396.2.2.2.2=true then (spec_l1Cur_spray.j0 k s0_0 bt391.2.1 bt391.2.2 bt396.1 bt396.2.1 bt396.2.2.1) else ((spec_NewSpray.f 3 0 2 4).bind fun bt404=>(spec_l1Cur_spray.j0 k s0_0 bt391.2.1 bt391.2.2 bt404.1 bt404.2.1 bt404.2.2.1)))))=some (r1,r2,r3,r4,r5):=H
 have A2:=am A20
 clear A20
 replace H:=bI_ H
 obtain⟨⟨t391,t394,t395⟩,A30,H⟩:=H
 replace H:((spec_PlaySpray.f k t385 t386 t387 t388 t391).bind fun bt396=>(if bt396.2.2.2.2=true then (spec_l1Cur_spray.j0 k s0_0 t394 t395 bt396.1 bt396.2.1 bt396.2.2.1) else ((spec_NewSpray.f 3 0 2 4).bind fun bt404=>(spec_l1Cur_spray.j0 k s0_0 t394 t395 bt404.1 bt404.2.1 bt404.2.2.1))))=some (r1,r2,r3,r4,r5):=H
 have A3:=am A30
 clear A30
 replace H:=bI_ H
 obtain⟨⟨t396,t399,t400,t401,t402⟩,A40,H⟩:=H
 replace H:(if t402=true then (spec_l1Cur_spray.j0 k s0_0 t394 t395 t396 t399 t400) else ((spec_NewSpray.f 3 0 2 4).bind fun bt404=>(spec_l1Cur_spray.j0 k s0_0 t394 t395 bt404.1 bt404.2.1 bt404.2.2.1)))=some (r1,r2,r3,r4,r5):=H
 have A4:=am A40
 clear A40
 have HC5:=am H
 clear H
 go_enter Try.func115,Try.ntmps115
 go_upto_if 32 with (first|((with_reducible refine gate_dst (N:=2) rfl ?_);refine box_event ?hg (N:=2) ?hd (cs:=#[.slice none 0 0,.int .i64 0,.bool false]) (t:=62) ?hr ?_;(case hd=>rfl);(case hg=>rfl);(case hr=>first|(go_simp;done)|(go_simp;rfl));intro gb384 hg w6 hbox hb;have n0_:=am (IsS138.below (b19_) hb);have n1_:=am (KeepBut.trans (b0_) (KeepBut.of_below hb g none) (.inl rfl));have n2_:=am (below_step (b23_) hb);have n3_:=am (hbox);have n4_:=am ((by rw[hg];exact(keep_size (w:=w) (g:=g) (row:=none) (b0_)):w.heap.size≤gb384));have n5_:=am ((Nat.le_trans HW0.out (by rw[hg];exact(keep_size (w:=w) (g:=g) (row:=none) (b0_)):w.heap.size≤gb384):w0.heap.size≤gb384));have n6_:=am ((by rw[hg];exact Nat.ne_of_lt (IsS138.lt (show IsS138 w0 _ g s0_0 s0_1 s0_2 from by repeat (first|(with_reducible first|exact HI0.out|apply IsS138.alloc|apply IsS138.drewN|apply IsS138.drew|apply IsS138.set_1|apply IsS138.set_2)|exact HI0.out))):g≠gb384));have n7_:=am ((by rw[hg];exact Nat.ne_of_gt (IsS138.lt (show IsS138 w0 _ g s0_0 s0_1 s0_2 from by repeat (first|(with_reducible first|exact HI0.out|apply IsS138.alloc|apply IsS138.drewN|apply IsS138.drew|apply IsS138.set_1|apply IsS138.set_2)|exact HI0.out))):gb384≠g));(try clear HI0);clear HK HB;have HI0:=n0_;have HK:=n1_;have HB:=n2_;have BK384:=n3_;have GW384:=n4_;have GE384:=n5_;have NB0_384:=n6_;have NB384_0:=n7_;clear n0_ n1_ n2_ n3_ n4_ n5_ n6_ n7_;clear hb hbox hg)|((with_reducible refine gate_callee (f:=105) rfl ?_);refine goesA (some 13) rfl rfl Try.func105 #[.pointer (some ⟨g,0,none⟩)] rfl ?_;(with_reducible refine(spec_l1Cur_sprayOf.calls g s0_0 s0_1 s0_2 t385 t386 t387 t388 t389 t390 w0 _ ?side1 ?side2 A2.out).mono ?_);(case side1=>repeat (first|(with_reducible first|exact HI0.out|apply IsS138.alloc|apply IsS138.drewN|apply IsS138.drew|apply IsS138.set_1|apply IsS138.set_2|apply IsS138.far (hne:=NB0_384.out))|exact HI0.out));(case side2=>repeat (first|(with_reducible first|exact HB.out|apply below_alloc|apply pw_below_drewN|apply below_drew1|refine below_set ?_ (IsS138.ge HI0.out)|refine below_set ?_ GE384.out)|exact HB.out));rintro e w7 ⟨rfl,hi,hb,hk⟩;refine⟨_,rfl,?_⟩;have n0_:=am (KeepBut.blk hk (g':=gb384) (o:=.cells #[.slice none 0 0,.int .i64 0,.bool false] 62 (0,0)) (bL BK384.out) NB384_0.out (by simp));have n1_:=am (KeepBut.trans (b18_) hk (.inl rfl));have n2_:=am (hb);have n3_:=am (hi);clear BK384 HK HB;(try clear HI0);have BK384:=n0_;have HK:=n1_;have HB:=n2_;have HI0:=n3_;clear n0_ n1_ n2_ n3_;(try clear hb);(try clear hb2);(try clear hk);(try clear hi))|((with_reducible refine gate_callee (f:=106) rfl ?_);refine goesA (some 20) rfl rfl Try.func106 #[.pointer (some ⟨g,0,none⟩),.int .i64 t385] rfl ?_;(with_reducible refine(spec_l1Cur_meets.calls k g s0_0 t389 t390 t385 t391 t394 t395 w0 _ ?side1 ?side2 A3.out).mono ?_);(case side1=>repeat (first|(with_reducible first|exact HI0.out|apply IsS138.alloc|apply IsS138.drewN|apply IsS138.drew|apply IsS138.set_1|apply IsS138.set_2|apply IsS138.far (hne:=NB0_384.out))|exact HI0.out));(case side2=>repeat (first|(with_reducible first|exact HB.out|apply below_alloc|apply pw_below_drewN|apply below_drew1|refine below_set ?_ (IsS138.ge HI0.out)|refine below_set ?_ GE384.out)|exact HB.out));rintro e w8 ⟨v392,rfl,ho0,hi,hb,hk⟩;refine⟨_,rfl,?_⟩;have n0_:=am (KeepBut.blk hk (g':=gb384) (o:=.cells #[.slice none 0 0,.int .i64 0,.bool false] 62 (0,0)) (bL BK384.out) NB384_0.out (by simp));have n1_:=am (Kd.R_lower ho0 (keep_size (w:=w) (g:=g) (row:=none) (b18_)));have n2_:=am (KeepBut.trans (b18_) hk (.inl rfl));have n3_:=am (hb);have n4_:=am (hi);clear BK384 HK HB;(try clear HI0);have BK384:=n0_;have HO393:=n1_;have HK:=n2_;have HB:=n3_;have HI0:=n4_;clear n0_ n1_ n2_ n3_ n4_;(try clear hb);(try clear hb2);(try clear hk);(try clear hi);(try clear ho0);obtain⟨Ao9,co9,eo9⟩:=Kd.R_slice HO393.out;subst eo9)|((with_reducible refine gate_callee (f:=39) rfl ?_);refine goesA (some 27) rfl rfl Try.func39 #[.int .i64 t385,.int .i64 t386,.int .i64 t387,.int .i64 t388,.slice Ao9 t391.length co9] rfl ?_;(with_reducible refine(spec_PlaySpray.calls k t385 t386 t387 t388 _ _ t391 t396 t399 t400 t401 t402 _ ?side1 ?side2 A4.out).mono ?_);(case side1=>exact bT HO393.out);(case side2=>exact(Kd.R_reads' HO393.out).2.1);rintro e w10 ⟨v397,rfl,ho0,hb⟩;refine⟨_,rfl,?_⟩;have n0_:=am (Kd.R_below (bK HO393.out) hb);have n1_:=am (Kd.R_lower ho0 (keep_size (w:=w) (g:=g) (row:=none) (b18_)));have n2_:=am (IsS138.below (by repeat (first|(with_reducible first|exact HI0.out|apply IsS138.alloc|apply IsS138.drewN|apply IsS138.drew|apply IsS138.set_1|apply IsS138.set_2|apply IsS138.far (hne:=NB0_384.out))|exact HI0.out)) hb);have n3_:=am (bM BK384.out hb);have n4_:=am (KeepBut.trans (b18_) (KeepBut.of_below hb g none) (.inl rfl));have n5_:=am (below_step (by repeat (first|(with_reducible first|exact HB.out|apply below_alloc|apply pw_below_drewN|apply below_drew1|refine below_set ?_ (IsS138.ge HI0.out)|refine below_set ?_ GE384.out)|exact HB.out)) hb);clear HO393;(try clear HI0);clear BK384 HK HB;have HO393:=n0_;have HO398:=n1_;have HI0:=n2_;have BK384:=n3_;have HK:=n4_;have HB:=n5_;clear n0_ n1_ n2_ n3_ n4_ n5_;(try clear hb);(try clear hb2);(try clear hk);(try clear hi);(try clear ho0))|((with_reducible refine gate_dst (N:=8) rfl ?_);refine box_event ?hg (N:=8) ?hd (cs:=#[.slice none 0 0,.int .i64 0,.bool false]) (t:=62) ?hr ?_;(case hd=>rfl);(case hg=>rfl);(case hr=>first|(go_simp;done)|(go_simp;rfl));intro gb403 hg w11 hbox hb;have n0_:=am (Kd.R_below (bK HO393.out) hb);have n1_:=am (Kd.R_below (bK HO398.out) hb);have n2_:=am (IsS138.below (by repeat (first|(with_reducible first|exact HI0.out|apply IsS138.alloc|apply IsS138.drewN|apply IsS138.drew|apply IsS138.set_1|apply IsS138.set_2|apply IsS138.far (hne:=NB0_384.out))|exact HI0.out)) hb);have n3_:=am (bM BK384.out hb);have n4_:=am (KeepBut.trans (b18_) (KeepBut.of_below hb g none) (.inl rfl));have n5_:=am (below_step (by repeat (first|(with_reducible first|exact HB.out|apply below_alloc|apply pw_below_drewN|apply below_drew1|refine below_set ?_ (IsS138.ge HI0.out)|refine below_set ?_ GE384.out)|exact HB.out)) hb);have n6_:=am (hbox);have n7_:=am ((by rw[hg];exact(keep_size (w:=w) (g:=g) (row:=none) (b18_)):w.heap.size≤gb403));have n8_:=am ((Nat.le_trans HW0.out (by rw[hg];exact(keep_size (w:=w) (g:=g) (row:=none) (b18_)):w.heap.size≤gb403):w0.heap.size≤gb403));have n9_:=am ((bN BK384.out hg:gb384≠gb403));have n10_:=am ((bO BK384.out hg:gb403≠gb384));have n11_:=am ((by rw[hg];exact Nat.ne_of_lt (IsS138.lt (show IsS138 w0 _ g s0_0 t394 t395 from by repeat (first|(with_reducible first|exact HI0.out|apply IsS138.alloc|apply IsS138.drewN|apply IsS138.drew|apply IsS138.set_1|apply IsS138.set_2|apply IsS138.far (hne:=NB0_384.out))|exact HI0.out))):g≠gb403));have n12_:=am ((by rw[hg];exact Nat.ne_of_gt (IsS138.lt (show IsS138 w0 _ g s0_0 t394 t395 from by repeat (first|(with_reducible first|exact HI0.out|apply IsS138.alloc|apply IsS138.drewN|apply IsS138.drew|apply IsS138.set_1|apply IsS138.set_2|apply IsS138.far (hne:=NB0_384.out))|exact HI0.out))):gb403≠g));clear HO393 HO398;(try clear HI0);clear BK384 HK HB;have HO393:=n0_;have HO398:=n1_;have HI0:=n2_;have BK384:=n3_;have HK:=n4_;have HB:=n5_;have BK403:=n6_;have GW403:=n7_;have GE403:=n8_;have NB384_403:=n9_;have NB403_384:=n10_;have NB0_403:=n11_;have NB403_0:=n12_;clear n0_ n1_ n2_ n3_ n4_ n5_ n6_ n7_ n8_ n9_ n10_ n11_ n12_;clear hb hbox hg;obtain⟨Ao12,co12,eo12⟩:=Kd.R_slice HO398.out;subst eo12;have hnb13:=NB403_384.out;have hnc13:=NB384_403.out;have hnb14:=NB403_0.out;have hnc14:=NB0_403.out;obtain⟨hcz15_0,hcz15_1,hcz15_2⟩:=cC3 BK403.out;obtain⟨hfz15_0,hfz15_1,hfz15_2⟩:=cF3 BK403.out))
 (try simp only[Act.put,zA,zB,zC])
 go_cut [] (fun wc => ∃ (kq:Nat) (x404000_4:List Int) (x404001_4:Int) (x404002_4:Bool) (u404000:Value),Aside0 (spec_l1Cur_spray.j0 kq s0_0 t394 t395 x404000_4 x404001_4 x404002_4=some (r1,r2,r3,r4,r5))∧Aside0 (kq≤k)∧Aside0 (Kd.R (Kd.int .i64) 3 wc w.heap.size (fun _=>True) u404000 x404000_4)∧Aside0 (wc.heap[gb384]?=some (.cells #[(.slice none 0 0),.int .i64 0,.bool false] 62 (0,0)))∧Aside0 (wc.heap[gb403]?=some (.cells #[u404000,.int .i64 x404001_4,.bool x404002_4] 62 (0,0)))∧Aside0 (IsS138 w0 wc g s0_0 t394 t395)∧Aside0 (KeepBut w wc g none)∧Aside0 (Below w0.heap.size w0 wc))
 case first =>
  have H:=HC5.out
  clear HC5
  by_cases c16:t402=true
  ·subst c16
   have H1:(spec_l1Cur_spray.j0 k s0_0 t394 t395 t396 t399 t400)=some (r1,r2,r3,r4,r5):=by rw[if_pos rfl] at H;exact H
   clear H
   have H:=H1
   clear H1
   have H':=am H
   clear H
   go_wp2
   go_meet
   case rel=>exact⟨_,(t396),(t399),(t400),(.slice Ao12 t396.length co12),H',⟨by first|omega|exact Nat.le_refl _⟩,⟨by(with_reducible repeat (first|apply Kd.R_alloc|apply Kd.R_drewN|apply Kd.R_drew));exact Kd.R_mono (Kd.R_far (p:=⟨gb403,2,none⟩) (Kd.R_far (p:=⟨gb403,1,none⟩) (Kd.R_far (p:=⟨gb403,0,none⟩) (Kd.R_types HO398.out BK403.out (b17_)) (fun _ hk=>hk.2) (.slice Ao12 t396.length co12)) (fun _ hk=>hk.2) (.int .i64 t399)) (fun _ hk=>hk.2) (.bool t400)) (fun _ hk=>trivial)⟩,⟨by(with_reducible repeat (first|refine blk_drewN ?_ _|refine blk_drew ?_|refine blk_alloc ?_ _));refine blk_far ?_ NB384_403.out _;(with_reducible repeat (first|refine blk_drewN ?_ _|refine blk_drew ?_|refine blk_alloc ?_ _));refine blk_far ?_ NB384_403.out _;(with_reducible repeat (first|refine blk_drewN ?_ _|refine blk_drew ?_|refine blk_alloc ?_ _));refine blk_far ?_ NB384_403.out _;(with_reducible repeat (first|refine blk_drewN ?_ _|refine blk_drew ?_|refine blk_alloc ?_ _));exact BK384.out⟩,⟨by(with_reducible repeat (first|refine blk_drewN ?_ _|refine blk_drew ?_|refine blk_alloc ?_ _));apply bU3;(with_reducible repeat (first|refine blk_drewN ?_ _|refine blk_drew ?_|refine blk_alloc ?_ _));exact BK403.out⟩,⟨by repeat (first|(with_reducible first|exact HI0.out|apply IsS138.alloc|apply IsS138.drewN|apply IsS138.drew|apply IsS138.set_1|apply IsS138.set_2|apply IsS138.far (hne:=NB0_384.out)|apply IsS138.far (hne:=NB0_403.out))|exact HI0.out)⟩,⟨by repeat (first|(with_reducible first|exact HK.out|apply KeepBut.set_|apply keep_drewN|apply keep_drew|apply keep_alloc|refine keep_far ?_ GW384.out _|refine keep_far ?_ GW403.out _)|exact HK.out)⟩,⟨by repeat (first|(with_reducible first|exact HB.out|apply below_alloc|apply pw_below_drewN|apply below_drew1|refine below_set ?_ (IsS138.ge HI0.out)|refine below_set ?_ GE384.out|refine below_set ?_ GE403.out)|exact HB.out)⟩⟩
  ·replace c16:=Bool.eq_false_iff.mpr c16
   subst c16
   have H1:((spec_NewSpray.f 3 0 2 4).bind fun bt404=>(spec_l1Cur_spray.j0 k s0_0 t394 t395 bt404.1 bt404.2.1 bt404.2.2.1))=some (r1,r2,r3,r4,r5):=by rw[if_neg (show ¬ (false=true) by decide)] at H;exact H
   clear H
   have H:=H1
   clear H1
   replace H:=bI_ H
   obtain⟨⟨t404,t407,t408,t409⟩,A170,H⟩:=H
   replace H:(spec_l1Cur_spray.j0 k s0_0 t394 t395 t404 t407 t408)=some (r1,r2,r3,r4,r5):=H
   have A17:=am A170
   clear A170
   have H':=am H
   clear H
   go_wp2_with (first|((with_reducible refine gate_callee (f:=108) rfl ?_);refine goesA (some 34) rfl rfl Try.func108 #[.int .i64 3,.int .i64 0,.int .i64 2,.int .i64 4] rfl ?_;(with_reducible refine(spec_NewSpray.calls 3 0 2 4 t404 t407 t408 t409 _ A17.out).mono ?_);rintro e w18 ⟨v405,rfl,ho0,hb⟩;refine⟨_,rfl,?_⟩;have n0_:=am (Kd.R_below (by(with_reducible repeat (first|apply Kd.R_alloc|apply Kd.R_drewN|apply Kd.R_drew));exact(Kd.R_mono (Kd.R_far (p:=⟨gb403,2,none⟩) (Kd.R_far (p:=⟨gb403,1,none⟩) (Kd.R_far (p:=⟨gb403,0,none⟩) (Kd.R_types HO393.out BK403.out (b17_)) (fun _ hk=>hk.2) (.slice Ao12 t396.length co12)) (fun _ hk=>hk.2) (.int .i64 t399)) (fun _ hk=>hk.2) (.bool t400)) (fun _ h_=>h_.1))) hb);have n1_:=am (Kd.R_elder' (b37_) (Kd.R_base ho0) hb);have n2_:=am (Kd.R_lower (Kd.R_new' ho0 (Kd.R_lt (b37_))) (keep_size (w:=w) (g:=g) (row:=none) (b20_)));have n3_:=am (IsS138.below (show IsS138 w0 (((w11.setCell ⟨gb403,0,none⟩ (.slice Ao12 t396.length co12)).setCell ⟨gb403,1,none⟩ (.int .i64 t399)).setCell ⟨gb403,2,none⟩ (.bool t400)) g s0_0 t394 t395 from by repeat (first|(with_reducible first|exact HI0.out|apply IsS138.alloc|apply IsS138.drewN|apply IsS138.drew|apply IsS138.set_1|apply IsS138.set_2|apply IsS138.far (hne:=NB0_384.out)|apply IsS138.far (hne:=NB0_403.out))|exact HI0.out)) hb);have n4_:=am (blk_below (g:=gb384) (o:=.cells #[.slice none 0 0,.int .i64 0,.bool false] 62 (0,0)) (by(with_reducible repeat (first|refine blk_drewN ?_ _|refine blk_drew ?_|refine blk_alloc ?_ _));refine blk_far ?_ NB384_403.out _;(with_reducible repeat (first|refine blk_drewN ?_ _|refine blk_drew ?_|refine blk_alloc ?_ _));refine blk_far ?_ NB384_403.out _;(with_reducible repeat (first|refine blk_drewN ?_ _|refine blk_drew ?_|refine blk_alloc ?_ _));refine blk_far ?_ NB384_403.out _;(with_reducible repeat (first|refine blk_drewN ?_ _|refine blk_drew ?_|refine blk_alloc ?_ _));exact BK384.out) hb);have n5_:=am (blk_below (g:=gb403) (o:=.cells #[.slice Ao12 t396.length co12,.int .i64 t399,.bool t400] 62 (0,0)) (by(with_reducible repeat (first|refine blk_drewN ?_ _|refine blk_drew ?_|refine blk_alloc ?_ _));apply bU3;(with_reducible repeat (first|refine blk_drewN ?_ _|refine blk_drew ?_|refine blk_alloc ?_ _));exact BK403.out) hb);have n6_:=am (KeepBut.trans (b20_) (KeepBut.of_below hb g none) (.inl rfl));have n7_:=am (below_step (by repeat (first|(with_reducible first|exact HB.out|apply below_alloc|apply pw_below_drewN|apply below_drew1|refine below_set ?_ (IsS138.ge HI0.out)|refine below_set ?_ GE384.out|refine below_set ?_ GE403.out)|exact HB.out)) hb);clear HO393 HO398;(try clear HI0);clear BK384 BK403 HK HB;have HO393:=n0_;have HO398:=n1_;have HO406:=n2_;have HI0:=n3_;have BK384:=n4_;have BK403:=n5_;have HK:=n6_;have HB:=n7_;clear n0_ n1_ n2_ n3_ n4_ n5_ n6_ n7_;(try clear hb);(try clear hb2);(try clear hk);(try clear hi);(try clear ho0);obtain⟨Ao19,co19,eo19⟩:=Kd.R_slice HO406.out;subst eo19;have hnb20:=NB403_384.out;have hnc20:=NB384_403.out;have hnb21:=NB403_0.out;have hnc21:=NB0_403.out;obtain⟨hcz22_0,hcz22_1,hcz22_2⟩:=cC3 BK403.out;obtain⟨hfz22_0,hfz22_1,hfz22_2⟩:=cF3 BK403.out))
   go_meet
   case rel=>exact⟨_,(t404),(t407),(t408),(.slice Ao19 t404.length co19),H',⟨by first|omega|exact Nat.le_refl _⟩,⟨by(with_reducible repeat (first|apply Kd.R_alloc|apply Kd.R_drewN|apply Kd.R_drew));exact Kd.R_mono (Kd.R_far (p:=⟨gb403,2,none⟩) (Kd.R_far (p:=⟨gb403,1,none⟩) (Kd.R_far (p:=⟨gb403,0,none⟩) (Kd.R_types HO406.out BK403.out (b17_)) (fun _ hk=>hk.2) (.slice Ao19 t404.length co19)) (fun _ hk=>hk.2) (.int .i64 t407)) (fun _ hk=>hk.2) (.bool t408)) (fun _ hk=>trivial)⟩,⟨by(with_reducible repeat (first|refine blk_drewN ?_ _|refine blk_drew ?_|refine blk_alloc ?_ _));refine blk_far ?_ NB384_403.out _;(with_reducible repeat (first|refine blk_drewN ?_ _|refine blk_drew ?_|refine blk_alloc ?_ _));refine blk_far ?_ NB384_403.out _;(with_reducible repeat (first|refine blk_drewN ?_ _|refine blk_drew ?_|refine blk_alloc ?_ _));refine blk_far ?_ NB384_403.out _;(with_reducible repeat (first|refine blk_drewN ?_ _|refine blk_drew ?_|refine blk_alloc ?_ _));exact BK384.out⟩,⟨by(with_reducible repeat (first|refine blk_drewN ?_ _|refine blk_drew ?_|refine blk_alloc ?_ _));apply bU3;(with_reducible repeat (first|refine blk_drewN ?_ _|refine blk_drew ?_|refine blk_alloc ?_ _));exact BK403.out⟩,⟨by repeat (first|(with_reducible first|exact HI0.out|apply IsS138.alloc|apply IsS138.drewN|apply IsS138.drew|apply IsS138.set_1|apply IsS138.set_2|apply IsS138.far (hne:=NB0_384.out)|apply IsS138.far (hne:=NB0_403.out))|exact HI0.out)⟩,⟨by repeat (first|(with_reducible first|exact HK.out|apply KeepBut.set_|apply keep_drewN|apply keep_drew|apply keep_alloc|refine keep_far ?_ GW384.out _|refine keep_far ?_ GW403.out _)|exact HK.out)⟩,⟨by repeat (first|(with_reducible first|exact HB.out|apply below_alloc|apply pw_below_drewN|apply below_drew1|refine below_set ?_ (IsS138.ge HI0.out)|refine below_set ?_ GE384.out|refine below_set ?_ GE403.out)|exact HB.out)⟩⟩
 case rest =>
  clear HC5
  try clear c1
  try clear c2
  try clear p2
  try clear c3
  try clear c10
  try clear c11
  try clear c13
  try clear c14
  try clear c16
  try clear c20
  try clear c21
  try clear hcz15_0 hcz15_1 hcz15_2
  try clear hcz22_0 hcz22_1 hcz22_2
  try clear hfz15_0 hfz15_1 hfz15_2
  try clear hfz22_0 hfz22_1 hfz22_2
  obtain⟨kq,x404000_4,x404001_4,x404002_4,u404000,HA,HJ4,HO_404000,BK384,BK403,HI0,HK,HB⟩:=hcut
  cases kq with
  | zero=>exact absurd HA.out (by simp[spec_l1Cur_spray.j0])
  | succ kj4 =>
   have H:=HA.out
   clear HA
   simp only[spec_l1Cur_spray.j0] at H
   replace H:=bI_ H
   obtain⟨⟨t410,t411,t412⟩,A230,H⟩:=H
   replace H:(if t410=true then ((spec_l1Cur_pick.f s0_0 t411 t412 (x404000_4.length:Int)).bind fun bt413=>(if 0≤bt413.1 then (if bt413.1 < (x404000_4.length:Int) then ((spec_l1Cur_pick.f s0_0 bt413.2.1 bt413.2.2 3).bind fun bt417=>(some ((x404000_4.set (bt413.1:Int).toNat (wrap64 ((rd x404000_4 bt413.1)+(wrap64 (bt417.1 - 1))))),x404001_4,x404002_4,bt417.2.1,bt417.2.2))) else (none)) else (none))) else (some (x404000_4,x404001_4,x404002_4,t411,t412)))=some (r1,r2,r3,r4,r5):=H
   have A23:=am A230
   clear A230
   by_cases c24:t410=true
   ·subst c24
    have H1:((spec_l1Cur_pick.f s0_0 t411 t412 (x404000_4.length:Int)).bind fun bt413=>(if 0≤bt413.1 then (if bt413.1 < (x404000_4.length:Int) then ((spec_l1Cur_pick.f s0_0 bt413.2.1 bt413.2.2 3).bind fun bt417=>(some ((x404000_4.set (bt413.1:Int).toNat (wrap64 ((rd x404000_4 bt413.1)+(wrap64 (bt417.1 - 1))))),x404001_4,x404002_4,bt417.2.1,bt417.2.2))) else (none)) else (none)))=some (r1,r2,r3,r4,r5):=by rw[if_pos rfl] at H;exact H
    clear H
    have H:=H1
    clear H1
    replace H:=bI_ H
    obtain⟨⟨t413,t414,t415⟩,A250,H⟩:=H
    replace H:(if 0≤t413 then (if t413 < (x404000_4.length:Int) then ((spec_l1Cur_pick.f s0_0 t414 t415 3).bind fun bt417=>(some ((x404000_4.set (t413:Int).toNat (wrap64 ((rd x404000_4 t413)+(wrap64 (bt417.1 - 1))))),x404001_4,x404002_4,bt417.2.1,bt417.2.2))) else (none)) else (none))=some (r1,r2,r3,r4,r5):=H
    have A25:=am A250
    clear A250
    by_cases c26:0≤t413
    ·rw[if_pos c26] at H
     have c26b0:decide (0≤t413)=true:=decide_eq_true c26
     clear c26
     by_cases c27:t413 < (x404000_4.length:Int)
     ·rw[if_pos c27] at H
      have c27b0:decide (t413 < (x404000_4.length:Int))=true:=decide_eq_true c27
      clear c27
      replace H:=bI_ H
      obtain⟨⟨t417,t418,t419⟩,A280,H⟩:=H
      replace H:(some ((x404000_4.set (t413:Int).toNat (wrap64 ((rd x404000_4 t413)+(wrap64 (t417 - 1))))),x404001_4,x404002_4,t418,t419))=some (r1,r2,r3,r4,r5):=H
      have A28:=am A280
      clear A280
      obtain⟨y420,hy420⟩ : ∃ y_:List Int,y_=(x404000_4.set (t413:Int).toNat (wrap64 ((rd x404000_4 t413)+(wrap64 (t417 - 1))))):=⟨_,rfl⟩
      replace H:(some (y420,x404001_4,x404002_4,t418,t419))=some (r1,r2,r3,r4,r5):=by first|(rw[hy420];with_reducible exact H)|(have H2_:=(Option.bind_some _ _).symm.trans H;rw[hy420];with_reducible exact H2_)|(have H2_:=(Option.bind_some _ _).symm.trans H;with_reducible exact H2_)|with_reducible exact H|(rw[hy420];exact H)|exact H
      have Ny420:=am hy420
      clear hy420
      simp only[Option.some.injEq,Prod.mk.injEq] at H
      obtain⟨rfl,rfl,rfl,rfl,rfl⟩:=H
      try go_wp2_with (first|((with_reducible refine gate_callee (f:=153) rfl ?_);refine goesA (some 38) rfl rfl Try.func153 #[.pointer (some ⟨g,0,none⟩),.int .i64 20] rfl ?_;(with_reducible refine(spec_l1Cur_one.calls g s0_0 t394 t395 20 true t411 t412 w0 _ ?side1 ?side2 A23.out).mono ?_);(case side1=>exact b49_);(case side2=>exact b50_);rintro e w30 ⟨rfl,hi,hb,hk⟩;refine⟨_,rfl,?_⟩;have n0_:=am (Kd.R_mono (Kd.R_keep (IsS138.apart (show IsS138 w0 _ g s0_0 t394 t395 from by repeat (first|(with_reducible first|exact HI0.out|apply IsS138.alloc|apply IsS138.drewN|apply IsS138.drew|apply IsS138.set_1|apply IsS138.set_2|apply IsS138.far (hne:=NB0_384.out)|apply IsS138.far (hne:=NB0_403.out))|exact HI0.out)) (bK HO_404000.out) (b17_)) hk (fun _ h=>h.2)) (fun _ h=>h.1));have n1_:=am (KeepBut.blk hk (g':=gb384) (o:=.cells #[.slice none 0 0,.int .i64 0,.bool false] 62 (0,0)) (bL BK384.out) NB384_0.out (by simp));have n2_:=am (KeepBut.blk hk (g':=gb403) (o:=.cells #[u404000,.int .i64 x404001_4,.bool x404002_4] 62 (0,0)) (bL BK403.out) NB403_0.out (by simp));have n3_:=am (KeepBut.trans (b20_) hk (.inl rfl));have n4_:=am (hb);have n5_:=am (hi);clear HO_404000 BK384 BK403 HK HB;(try clear HI0);have HO_404000:=n0_;have BK384:=n1_;have BK403:=n2_;have HK:=n3_;have HB:=n4_;have HI0:=n5_;clear n0_ n1_ n2_ n3_ n4_ n5_;(try clear hb);(try clear hb2);(try clear hk);(try clear hi)))
      (try (rw[drewN_self w30];generalize hq_:World.drewN w30 _=w30;have n0_:=am (Kd.R_at hq_ HO_404000.out);have n1_:=am (blk_at hq_ BK384.out);have n2_:=am (blk_at hq_ BK403.out);have n3_:=am (IsS138.at_ hq_ HI0.out);have n4_:=am (keep_at hq_ HK.out);have n5_:=am (below_at hq_ HB.out);clear hq_ HO_404000 BK384 BK403 HI0 HK HB;have HO_404000:=n0_;have BK384:=n1_;have BK403:=n2_;have HI0:=n3_;have HK:=n4_;have HB:=n5_;clear n0_ n1_ n2_ n3_ n4_ n5_))
      have n0_:=am (Kd.R_drew HO_404000.out)
      have n1_:=am (blk_drew BK384.out)
      have n2_:=am (blk_drew BK403.out)
      have n3_:=am (IsS138.drew HI0.out)
      have n4_:=am (keep_drew HK.out)
      have n5_:=am (below_drew1 HB.out)
      clear HO_404000 BK384 BK403 HI0 HK HB
      have HO_404000:=n0_
      have BK384:=n1_
      have BK403:=n2_
      have HI0:=n3_
      have HK:=n4_
      have HB:=n5_
      clear n0_ n1_ n2_ n3_ n4_ n5_
      obtain⟨Ao32,co32,eo32⟩:=Kd.R_slice HO_404000.out
      (first|subst eo32|(injection eo32 with f1_ f2_ f3_;have f4_:=f1_.symm;have f5_:=f3_.symm;clear f1_ f2_ f3_;subst f4_;subst f5_))
      have p416:0≤(t413:Int):=bD_
      have q416:t413 < (x404000_4.length:Int):=bD_
      obtain⟨ad416,e416,hx416_0⟩:=Kd.at_int (Kd.R_reads' HO_404000.out).2.2 t413 p416 q416
      cases e416
      replace p416:=eq_true p416
      replace q416:=eq_true q416
      refine start_ (n:=15) (S:=fun w'=>w'.cell? ⟨gb403,0,none⟩=some (.slice (some ad416) x404000_4.length co32)∧w'.cell? ⟨gb403,1,none⟩=some (.int .i64 x404001_4)∧w'.cell? ⟨gb403,2,none⟩=some (.bool x404002_4)∧w'.cell? (ad416.add (t413).toNat)=some (.int .i64 (rd x404000_4 t413))) (ds:=[14]) #[false,false,false,false,false,false,false,false,false,false,false,false,false,false,false] (b4_) rfl rfl ⟨(blk_cell BK403.out 0).trans rfl,(blk_cell BK403.out 1).trans rfl,(blk_cell BK403.out 2).trans rfl,hx416_0⟩ (fun hHeld => ?_);refine with_tabW spec_l1Cur_spray.tab7 spec_l1Cur_spray.bits7 (fun HT_ HW_ => ?_)
      generalize w30.drew=w31 at HO_404000 BK384 BK403 HI0 HK HB hx416_0 hHeld ⊢
      refine pure_ (i:=0) (N:=some 39) (v:=?_) (a':=?_) #[true,false,false,false,false,false,false,false,false,false,false,false,false,false,false] rfl rfl (any_of HT_.out (b4_)) (fun _ _ _ h=>h) (Or.inl ⟨by rfl,?_⟩) ?_ ?_
      rotate_left
      ·intro w'
       go_simp
       with_reducible rfl
      rotate_left
      ·simp only[Act.put,zA,zB,zC,i64_w,i32_w]
       rfl
      refine pure_ (i:=2) (N:=some 41) (v:=?_) (a':=?_) #[true,false,true,false,false,false,false,false,false,false,false,false,false,false,false] rfl rfl (any_of HT_.out (b4_)) (fun _ _ _ h=>h) (Or.inl ⟨by rfl,?_⟩) ?_ ?_
      rotate_left
      ·intro w'
       go_simp
       with_reducible rfl
      rotate_left
      ·simp only[Act.put,zA,zB,zC,i64_w,i32_w]
       rfl
      refine pure_ (i:=3) (N:=some 42) (v:=?_) (a':=?_) #[true,false,true,true,false,false,false,false,false,false,false,false,false,false,false] rfl rfl (any_of HT_.out (b4_)) (fun _ _ _ h=>h) (Or.inl ⟨by rfl,?_⟩) ?_ ?_
      rotate_left
      ·intro w'
       go_simp
       with_reducible rfl
      rotate_left
      ·simp only[Act.put,zA,zB,zC,i64_w,i32_w]
       rfl
      refine pure_ (i:=9) (N:=some 48) (v:=?_) (a':=?_) #[true,false,true,true,false,false,false,false,false,true,false,false,false,false,false] rfl rfl (any_of HT_.out (b4_)) (fun _ _ _ h=>h) (Or.inl ⟨by rfl,?_⟩) ?_ ?_
      rotate_left
      ·intro w'
       go_simp
       with_reducible rfl
      rotate_left
      ·simp only[Act.put,zA,zB,zC,i64_w,i32_w]
       rfl
      refine take_ (i:=1) (N:=some 40) (v:=?_) (a':=?_) #[true,true,true,true,false,false,false,false,false,true,false,false,false,false,false] rfl rfl (take_ofW HT_.out HW_.out (b4_)) (fun _ _ _ h=>h) (Or.inl ⟨by rfl,?_⟩) hHeld ?_ ?_
      rotate_left
      ·rintro w' ⟨s0,s1,s2,s3⟩
       go_simp
       with_reducible rfl
      rotate_left
      ·simp only[Act.put,zA,zB,zC,i64_w,i32_w]
       rfl
      refine take_ (i:=4) (N:=some 43) (v:=?_) (a':=?_) #[true,true,true,true,true,false,false,false,false,true,false,false,false,false,false] rfl rfl (take_ofW HT_.out HW_.out (b4_)) (fun _ _ _ h=>h) (Or.inl ⟨by rfl,?_⟩) hHeld ?_ ?_
      rotate_left
      ·rintro w' ⟨s0,s1,s2,s3⟩
       go_simp
       with_reducible rfl
      rotate_left
      ·simp only[Act.put,zA,zB,zC,i64_w,i32_w]
       rfl
      refine pure_ (i:=5) (N:=some 44) (v:=?_) (a':=?_) #[true,true,true,true,true,true,false,false,false,true,false,false,false,false,false] rfl rfl (any_of HT_.out (b4_)) (fun _ _ _ h=>h) (Or.inl ⟨by rfl,?_⟩) ?_ ?_
      rotate_left
      ·intro w'
       go_simp
       with_reducible rfl
      rotate_left
      ·simp only[Act.put,zA,zB,zC,i64_w,i32_w]
       rfl
      refine one_ (i:=6) (N:=some 45) #[true,true,true,true,true,true,true,false,false,true,false,false,false,false,false] rfl rfl (one_of HT_.out (b4_)) (b17_) (fun K hK => ?_)
      refine goes_ Try.func116 (b4_) rfl #[.pointer (some ⟨g,0,none⟩),.int .i64 (x404000_4.length:Int)] (by rfl) rfl rfl (b27_) ?_
      with_reducible refine(spec_l1Cur_pick.calls g s0_0 t411 t412 (x404000_4.length:Int) t413 t414 t415 w0 _ ?side1 ?side2 A25.out).mono ?_
      (case side1=>exact b49_)
      (case side2=>exact b50_)
      rintro e w33 ⟨rfl,hi,hb,hk⟩
      have HS3_:=keep_cell hk (hHeld.2.2.2) (by first|(rw[add_block];exact Kd.own_blk (IsS138.own_ne HI0.out HO_404000.out (b17_)))|(show(Addr.add _ _).block≠_;rw[add_block];exact Kd.own_blk (IsS138.own_ne HI0.out HO_404000.out (b17_)))|exact Kd.own_blk (IsS138.own_ne HI0.out HO_404000.out (b17_)))
      refine⟨_,rfl,?_⟩
      have n0_:=am (Kd.R_mono (Kd.R_keep (IsS138.apart (show IsS138 w0 _ g s0_0 t411 t412 from by repeat (first|(with_reducible first|exact HI0.out|apply IsS138.alloc|apply IsS138.drewN|apply IsS138.drew|apply IsS138.set_1|apply IsS138.set_2|apply IsS138.far (hne:=NB0_384.out)|apply IsS138.far (hne:=NB0_403.out))|exact HI0.out)) (bK HO_404000.out) (b17_)) hk (fun _ h=>h.2)) (fun _ h=>h.1))
      have n1_:=am (KeepBut.blk hk (g':=gb384) (o:=.cells #[.slice none 0 0,.int .i64 0,.bool false] 62 (0,0)) (bL BK384.out) NB384_0.out (by simp))
      have n2_:=am (KeepBut.blk hk (g':=gb403) (o:=.cells #[.slice (some ad416) x404000_4.length co32,.int .i64 x404001_4,.bool x404002_4] 62 (0,0)) (bL BK403.out) NB403_0.out (by simp))
      have n3_:=am (KeepBut.trans (b20_) hk (.inl rfl))
      have n4_:=am (hb)
      have n5_:=am (hi)
      clear HO_404000 BK384 BK403 HK HB HI0
      have HO_404000:=n0_
      have BK384:=n1_
      have BK403:=n2_
      have HK:=n3_
      have HB:=n4_
      have HI0:=n5_
      clear n0_ n1_ n2_ n3_ n4_ n5_
      (try clear hb)
      (try clear hb2)
      (try clear hk)
      (try clear hi)
      refine hK.out _ _ ⟨(blk_cell BK403.out 0).trans rfl,(blk_cell BK403.out 1).trans rfl,(blk_cell BK403.out 2).trans rfl,HS3_⟩ (fun hHeld => ?_)
      clear hK K
      refine norm_ (a':=?_) ?_ ?_
      rotate_left
      ·show Act.put _ (some 45) _=_
       simp only[Act.put,zA,zB,zC,i64_w,i32_w]
       rfl
      refine pure_ (i:=7) (N:=some 46) (v:=?_) (a':=?_) #[true,true,true,true,true,true,true,true,false,true,false,false,false,false,false] rfl rfl (any_of HT_.out (b4_)) (fun _ _ _ h=>h) (Or.inl ⟨by rfl,?_⟩) ?_ ?_
      rotate_left
      ·intro w'
       go_simp
       with_reducible rfl
      rotate_left
      ·simp only[Act.put,zA,zB,zC,i64_w,i32_w]
       rfl
      refine take_ (i:=8) (N:=some 47) (v:=?_) (a':=?_) #[true,true,true,true,true,true,true,true,true,true,false,false,false,false,false] rfl rfl (take_ofW HT_.out HW_.out (b4_)) (fun _ _ _ h=>h) (Or.inl ⟨by rfl,?_⟩) hHeld ?_ ?_
      rotate_left
      ·rintro w' ⟨s0,s1,s2,s3⟩
       go_simp
       with_reducible rfl
      rotate_left
      ·simp only[Act.put,zA,zB,zC,i64_w,i32_w]
       rfl
      refine one_ (i:=10) (N:=some 49) #[true,true,true,true,true,true,true,true,true,true,true,false,false,false,false] rfl rfl (one_of HT_.out (b4_)) (b17_) (fun K hK => ?_)
      refine goes_ Try.func116 (b4_) rfl #[.pointer (some ⟨g,0,none⟩),.int .i64 3] (by rfl) rfl rfl (b27_) ?_
      with_reducible refine(spec_l1Cur_pick.calls g s0_0 t414 t415 3 t417 t418 t419 w0 _ ?side1 ?side2 A28.out).mono ?_
      (case side1=>exact b49_)
      (case side2=>exact b50_)
      rintro e w34 ⟨rfl,hi,hb,hk⟩
      have HS3_:=keep_cell hk (hHeld.2.2.2) (by first|(rw[add_block];exact Kd.own_blk (IsS138.own_ne HI0.out HO_404000.out (b17_)))|(show(Addr.add _ _).block≠_;rw[add_block];exact Kd.own_blk (IsS138.own_ne HI0.out HO_404000.out (b17_)))|exact Kd.own_blk (IsS138.own_ne HI0.out HO_404000.out (b17_)))
      refine⟨_,rfl,?_⟩
      have n0_:=am (Kd.R_mono (Kd.R_keep (IsS138.apart (show IsS138 w0 _ g s0_0 t414 t415 from by repeat (first|(with_reducible first|exact HI0.out|apply IsS138.alloc|apply IsS138.drewN|apply IsS138.drew|apply IsS138.set_1|apply IsS138.set_2|apply IsS138.far (hne:=NB0_384.out)|apply IsS138.far (hne:=NB0_403.out))|exact HI0.out)) (bK HO_404000.out) (b17_)) hk (fun _ h=>h.2)) (fun _ h=>h.1))
      have n1_:=am (KeepBut.blk hk (g':=gb384) (o:=.cells #[.slice none 0 0,.int .i64 0,.bool false] 62 (0,0)) (bL BK384.out) NB384_0.out (by simp))
      have n2_:=am (KeepBut.blk hk (g':=gb403) (o:=.cells #[.slice (some ad416) x404000_4.length co32,.int .i64 x404001_4,.bool x404002_4] 62 (0,0)) (bL BK403.out) NB403_0.out (by simp))
      have n3_:=am (KeepBut.trans (b20_) hk (.inl rfl))
      have n4_:=am (hb)
      have n5_:=am (hi)
      clear HO_404000 BK384 BK403 HK HB HI0
      have HO_404000:=n0_
      have BK384:=n1_
      have BK403:=n2_
      have HK:=n3_
      have HB:=n4_
      have HI0:=n5_
      clear n0_ n1_ n2_ n3_ n4_ n5_
      (try clear hb)
      (try clear hb2)
      (try clear hk)
      (try clear hi)
      have p29:0≤(t413:Int):=bD_
      have q29:(t413:Int) < ((x404000_4.length:Int):Int):=bD_
      obtain⟨go29,co29,eo29,gb29,gl29,cl29,HG29⟩:=Kd.R_form HO_404000.out (by omega)
      (first|cases eo29|(injection eo29 with ea_ en_ ec_;(first|subst ea_|(injection ea_ with ea_;subst ea_));subst ec_;clear en_))
      have GB29:=am gb29
      have GG29:=am HG29
      clear gb29 gl29 HG29
      (first|simp only[add_plain] at hx416_0|skip)
      obtain⟨hx29_0,hf29_0⟩:=Kd.R_celln 0 HO_404000.out (t413:Int) p29 q29
      replace p29:=eq_true p29
      replace q29:=eq_true q29
      have HN0_go29:=am (show g≠go29 from by have h_:=IsS138.own_ne HI0.out HO_404000.out (b17_);intro e_;exact h_ (by rw[e_];rfl))
      have HP35:=Kd.R_putn HO_404000.out (t413:Int) (wrap64 ((rd x404000_4 t413)+(wrap64 (t417 - 1))))
      rw[← Ny420.out] at HP35
      have HQ35:=am HP35
      clear HP35
      refine hK.out _ _ ⟨(blk_cell BK403.out 0).trans rfl,(blk_cell BK403.out 1).trans rfl,(blk_cell BK403.out 2).trans rfl,HS3_⟩ (fun hHeld => ?_)
      clear hK K
      refine norm_ (a':=?_) ?_ ?_
      rotate_left
      ·show Act.put _ (some 49) _=_
       simp only[Act.put,zA,zB,zC,i64_w,i32_w]
       rfl
      refine pure_ (i:=11) (N:=some 50) (v:=?_) (a':=?_) #[true,true,true,true,true,true,true,true,true,true,true,true,false,false,false] rfl rfl (any_of HT_.out (b4_)) (fun _ _ _ h=>h) (Or.inl ⟨by rfl,?_⟩) ?_ ?_
      rotate_left
      ·intro w'
       go_simp
       with_reducible rfl
      rotate_left
      ·simp only[Act.put,zA,zB,zC,i64_w,i32_w]
       rfl
      refine pure_ (i:=12) (N:=some 51) (v:=?_) (a':=?_) #[true,true,true,true,true,true,true,true,true,true,true,true,true,false,false] rfl rfl (any_of HT_.out (b4_)) (fun _ _ _ h=>h) (Or.inl ⟨by rfl,?_⟩) ?_ ?_
      rotate_left
      ·intro w'
       go_simp
       with_reducible rfl
      rotate_left
      ·simp only[Act.put,zA,zB,zC,i64_w,i32_w]
       rfl
      refine pure_ (i:=13) (N:=some 52) (v:=?_) (a':=?_) #[true,true,true,true,true,true,true,true,true,true,true,true,true,true,false] rfl rfl (any_of HT_.out (b4_)) (fun _ _ _ h=>h) (Or.inl ⟨by rfl,?_⟩) ?_ ?_
      rotate_left
      ·intro w'
       go_simp
       with_reducible rfl
      rotate_left
      ·simp only[Act.put,zA,zB,zC,i64_w,i32_w]
       rfl
      refine last_ (i:=14) (N:=none) #[true,true,true,true,true,true,true,true,true,true,true,true,true,true,true] rfl rfl (one_of HT_.out (b4_)) (b17_) (fun K hK => ?_)
      refine skip_ (w1:=?_) (by rfl) rfl ?_ ?_
      rotate_left
      ·go_simp
       rfl
      refine hK.out _ _ ?_
      clear hK K
      refine done_ (done_of HT_.out (b4_)) ?_
      have n0_:Aside0 (Kd.R (Kd.int .i64) 3 (w34.setCell ⟨go29,(t413:Int).toNat,none⟩ (.int .i64 (wrap64 ((rd x404000_4 t413)+(wrap64 (t417 - 1)))))) w.heap.size (fun _=>True) (.slice (some ⟨go29,0,none⟩) x404000_4.length co32) y420):=⟨by(with_reducible repeat (first|apply Kd.R_alloc|apply Kd.R_drewN|apply Kd.R_drew));exact HQ35.out⟩
      have n1_:Aside0 ((w34.setCell ⟨go29,(t413:Int).toNat,none⟩ (.int .i64 (wrap64 ((rd x404000_4 t413)+(wrap64 (t417 - 1)))))).heap[gb384]?=some (.cells #[.slice none 0 0,.int .i64 0,.bool false] 62 (0,0))):=⟨by(with_reducible repeat (first|refine blk_drewN ?_ _|refine blk_drew ?_|refine blk_alloc ?_ _));refine blk_far ?_ (by have h_:=Kd.R_ne HO_404000.out BK384.out (b17_);intro e_;exact h_ (by rw[e_];rfl)) _;(with_reducible repeat (first|refine blk_drewN ?_ _|refine blk_drew ?_|refine blk_alloc ?_ _));exact BK384.out⟩
      have n2_:Aside0 ((w34.setCell ⟨go29,(t413:Int).toNat,none⟩ (.int .i64 (wrap64 ((rd x404000_4 t413)+(wrap64 (t417 - 1)))))).heap[gb403]?=some (.cells #[.slice (some ⟨go29,0,none⟩) x404000_4.length co32,.int .i64 x404001_4,.bool x404002_4] 62 (0,0))):=⟨by(with_reducible repeat (first|refine blk_drewN ?_ _|refine blk_drew ?_|refine blk_alloc ?_ _));refine blk_far ?_ (by have h_:=Kd.R_ne HO_404000.out BK403.out (b17_);intro e_;exact h_ (by rw[e_];rfl)) _;(with_reducible repeat (first|refine blk_drewN ?_ _|refine blk_drew ?_|refine blk_alloc ?_ _));exact BK403.out⟩
      have n3_:Aside0 (IsS138 w0 (w34.setCell ⟨go29,(t413:Int).toNat,none⟩ (.int .i64 (wrap64 ((rd x404000_4 t413)+(wrap64 (t417 - 1)))))) g s0_0 t418 t419):=⟨by repeat (first|(with_reducible first|exact HI0.out|apply IsS138.alloc|apply IsS138.drewN|apply IsS138.drew|apply IsS138.set_1|apply IsS138.set_2|refine IsS138.far ?_ HN0_go29.out _|apply IsS138.far (hne:=NB0_384.out)|apply IsS138.far (hne:=NB0_403.out))|exact HI0.out)⟩
      have n4_:Aside0 (KeepBut w (w34.setCell ⟨go29,(t413:Int).toNat,none⟩ (.int .i64 (wrap64 ((rd x404000_4 t413)+(wrap64 (t417 - 1)))))) g none):=⟨by repeat (first|(with_reducible first|exact HK.out|apply KeepBut.set_|apply keep_drewN|apply keep_drew|apply keep_alloc|refine keep_far ?_ GB29.out _|refine keep_far ?_ GW384.out _|refine keep_far ?_ GW403.out _)|exact HK.out)⟩
      have n5_:Aside0 (Below w0.heap.size w0 (w34.setCell ⟨go29,(t413:Int).toNat,none⟩ (.int .i64 (wrap64 ((rd x404000_4 t413)+(wrap64 (t417 - 1))))))):=⟨by repeat (first|(with_reducible first|exact HB.out|apply below_alloc|apply pw_below_drewN|apply below_drew1|refine below_set ?_ (Nat.le_trans HL.out GB29.out)|refine below_set ?_ (IsS138.ge HI0.out)|refine below_set ?_ GE384.out|refine below_set ?_ GE403.out)|exact HB.out)⟩
      (try clear HO_404000)
      (try clear BK384)
      (try clear BK403)
      (try clear HI0)
      (try clear HK)
      (try clear HB)
      generalize (w34.setCell ⟨go29,(t413:Int).toNat,none⟩ (.int .i64 (wrap64 ((rd x404000_4 t413)+(wrap64 (t417 - 1))))))=w36 at n0_ n1_ n2_ n3_ n4_ n5_ ⊢
      have HO_404000:=n0_
      have BK384:=n1_
      have BK403:=n2_
      have HI0:=n3_
      have HK:=n4_
      have HB:=n5_
      clear n0_ n1_ n2_ n3_ n4_ n5_
      have hnb37:=NB403_384.out
      have hnc37:=NB384_403.out
      have hnb38:=NB403_0.out
      have hnc38:=NB0_403.out
      obtain⟨hcz39_0,hcz39_1,hcz39_2⟩:=cC3 BK403.out
      obtain⟨hfz39_0,hfz39_1,hfz39_2⟩:=cF3 BK403.out
      have hnb40:=NB384_0.out
      have hnc40:=NB0_384.out
      obtain⟨hcz41_0,hcz41_1,hcz41_2⟩:=cC3 BK384.out
      obtain⟨hfz41_0,hfz41_1,hfz41_2⟩:=cF3 BK384.out
      try go_wp2
      refine bodyPost_ret (results_cell_row rfl _ _ gb384 62 #[.slice (some ⟨go29,0,none⟩) x404000_4.length co32,.int .i64 x404001_4,.bool x404002_4] (0,0) _ rfl (by(with_reducible repeat (first|refine blk_drewN ?_ _|refine blk_drew ?_|refine blk_alloc ?_ _));apply bU3;(with_reducible repeat (first|refine blk_drewN ?_ _|refine blk_drew ?_|refine blk_alloc ?_ _));exact BK384.out) Try.underlying62 rfl (b4_)) rfl ?_
      exact⟨_,by first|rfl|(simp[errW_none,errW_some]<;>rfl)|(simp[*,errW_none,errW_some]<;>rfl),by(with_reducible repeat (first|apply Kd.R_alloc|apply Kd.R_drewN|apply Kd.R_drew));exact Kd.R_mono (Kd.R_far (p:=⟨gb384,2,none⟩) (Kd.R_far (p:=⟨gb384,1,none⟩) (Kd.R_far (p:=⟨gb384,0,none⟩) (Kd.R_types HO_404000.out BK384.out (b17_)) (fun _ hk=>hk.2) (.slice (some ⟨go29,0,none⟩) x404000_4.length co32)) (fun _ hk=>hk.2) (.int .i64 x404001_4)) (fun _ hk=>hk.2) (.bool x404002_4)) (fun _ hk=>trivial),by repeat (first|(with_reducible first|exact HI0.out|apply IsS138.alloc|apply IsS138.drewN|apply IsS138.drew|apply IsS138.set_1|apply IsS138.set_2|apply IsS138.far (hne:=NB0_384.out)|apply IsS138.far (hne:=NB0_403.out))|exact HI0.out),by repeat (first|(with_reducible first|exact HB.out|apply below_alloc|apply pw_below_drewN|apply below_drew1|refine below_set ?_ (IsS138.ge HI0.out)|refine below_set ?_ GE384.out|refine below_set ?_ GE403.out)|exact HB.out),by repeat (first|(with_reducible first|exact HK.out|apply KeepBut.set_|apply keep_drewN|apply keep_drew|apply keep_alloc|refine keep_far ?_ GW384.out _|refine keep_far ?_ GW403.out _)|exact HK.out)⟩
     ·rw[if_neg c27] at H
      exact absurd H (by simp)
    ·rw[if_neg c26] at H
     exact absurd H (by simp)
   ·replace c24:=Bool.eq_false_iff.mpr c24
    subst c24
    have H1:(some (x404000_4,x404001_4,x404002_4,t411,t412))=some (r1,r2,r3,r4,r5):=by rw[if_neg (show ¬ (false=true) by decide)] at H;exact H
    clear H
    have H:=H1
    clear H1
    simp only[Option.some.injEq,Prod.mk.injEq] at H
    obtain⟨rfl,rfl,rfl,rfl,rfl⟩:=H
    go_wp2_with (first|((with_reducible refine gate_callee (f:=153) rfl ?_);refine goesA (some 38) rfl rfl Try.func153 #[.pointer (some ⟨g,0,none⟩),.int .i64 20] rfl ?_;(with_reducible refine(spec_l1Cur_one.calls g s0_0 t394 t395 20 false t411 t412 w0 _ ?side1 ?side2 A23.out).mono ?_);(case side1=>exact b49_);(case side2=>exact b50_);rintro e w42 ⟨rfl,hi,hb,hk⟩;refine⟨_,rfl,?_⟩;have n0_:=am (Kd.R_mono (Kd.R_keep (IsS138.apart (show IsS138 w0 _ g s0_0 t394 t395 from by repeat (first|(with_reducible first|exact HI0.out|apply IsS138.alloc|apply IsS138.drewN|apply IsS138.drew|apply IsS138.set_1|apply IsS138.set_2|apply IsS138.far (hne:=NB0_384.out)|apply IsS138.far (hne:=NB0_403.out))|exact HI0.out)) (bK HO_404000.out) (b17_)) hk (fun _ h=>h.2)) (fun _ h=>h.1));have n1_:=am (KeepBut.blk hk (g':=gb384) (o:=.cells #[.slice none 0 0,.int .i64 0,.bool false] 62 (0,0)) (bL BK384.out) NB384_0.out (by simp));have n2_:=am (KeepBut.blk hk (g':=gb403) (o:=.cells #[u404000,.int .i64 x404001_4,.bool x404002_4] 62 (0,0)) (bL BK403.out) NB403_0.out (by simp));have n3_:=am (KeepBut.trans (b20_) hk (.inl rfl));have n4_:=am (hb);have n5_:=am (hi);clear HO_404000 BK384 BK403 HK HB;(try clear HI0);have HO_404000:=n0_;have BK384:=n1_;have BK403:=n2_;have HK:=n3_;have HB:=n4_;have HI0:=n5_;clear n0_ n1_ n2_ n3_ n4_ n5_;(try clear hb);(try clear hb2);(try clear hk);(try clear hi);have hnb43:=NB403_384.out;have hnc43:=NB384_403.out;have hnb44:=NB403_0.out;have hnc44:=NB0_403.out;obtain⟨hcz45_0,hcz45_1,hcz45_2⟩:=cC3 BK403.out;obtain⟨hfz45_0,hfz45_1,hfz45_2⟩:=cF3 BK403.out;obtain⟨Ao46,co46,eo46⟩:=Kd.R_slice HO_404000.out;subst eo46;have hnb47:=NB384_0.out;have hnc47:=NB0_384.out;obtain⟨hcz48_0,hcz48_1,hcz48_2⟩:=cC3 BK384.out;obtain⟨hfz48_0,hfz48_1,hfz48_2⟩:=cF3 BK384.out))
    refine bodyPost_ret (results_cell_row rfl _ _ gb384 62 #[.slice Ao46 x404000_4.length co46,.int .i64 x404001_4,.bool x404002_4] (0,0) _ rfl (by(with_reducible repeat (first|refine blk_drewN ?_ _|refine blk_drew ?_|refine blk_alloc ?_ _));apply bU3;(with_reducible repeat (first|refine blk_drewN ?_ _|refine blk_drew ?_|refine blk_alloc ?_ _));exact BK384.out) Try.underlying62 rfl (b4_)) rfl ?_
    exact⟨_,by first|rfl|(simp[errW_none,errW_some]<;>rfl)|(simp[*,errW_none,errW_some]<;>rfl),by(with_reducible repeat (first|apply Kd.R_alloc|apply Kd.R_drewN|apply Kd.R_drew));exact Kd.R_mono (Kd.R_far (p:=⟨gb384,2,none⟩) (Kd.R_far (p:=⟨gb384,1,none⟩) (Kd.R_far (p:=⟨gb384,0,none⟩) (Kd.R_types HO_404000.out BK384.out (b17_)) (fun _ hk=>hk.2) (.slice Ao46 x404000_4.length co46)) (fun _ hk=>hk.2) (.int .i64 x404001_4)) (fun _ hk=>hk.2) (.bool x404002_4)) (fun _ hk=>trivial),by repeat (first|(with_reducible first|exact HI0.out|apply IsS138.alloc|apply IsS138.drewN|apply IsS138.drew|apply IsS138.set_1|apply IsS138.set_2|apply IsS138.far (hne:=NB0_384.out)|apply IsS138.far (hne:=NB0_403.out))|exact HI0.out),by repeat (first|(with_reducible first|exact HB.out|apply below_alloc|apply pw_below_drewN|apply below_drew1|refine below_set ?_ (IsS138.ge HI0.out)|refine below_set ?_ GE384.out|refine below_set ?_ GE403.out)|exact HB.out),by repeat (first|(with_reducible first|exact HK.out|apply KeepBut.set_|apply keep_drewN|apply keep_drew|apply keep_alloc|refine keep_far ?_ GW384.out _|refine keep_far ?_ GW403.out _)|exact HK.out)⟩

/-! ### spec_DrawMeetBoth: function 45 -/
def spec_DrawMeetBoth.f (k:Nat) (l0:List Int):Option (List Int × Int × Bool × Int × Int):=(spec_l1Cur_spray.f k l0 0 0).bind fun bt424=>((spec_l1Cur_pick.f l0 bt424.2.2.2.1 bt424.2.2.2.2 (wrap64 ((bt424.1.length:Int)+1))).bind fun bt432=>((spec_l1Cur_pick.f l0 bt432.2.1 bt432.2.2 (bt424.1.length:Int)).bind fun bt435=>(some (bt424.1,bt424.2.1,bt424.2.2.1,bt432.1,bt435.1))))
theorem spec_DrawMeetBoth.mono : ∀ a0 k,LeO (spec_DrawMeetBoth.f k a0) (spec_DrawMeetBoth.f (k+1) a0):=by
 intro a0 k
 unfold spec_DrawMeetBoth.f
 repeat' first
  | (with_reducible exact spec_l1Cur_spray.mono _ _ _ _)
  | (with_reducible exact LeO.refl _)
  | (with_reducible exact LeO.none _)
  | (with_reducible refine LeO.ite ?_ ?_)
  | (with_reducible refine LeO.bind ?_ (fun _ => ?_))
def spec_DrawMeetBoth.T3:Bool × List (List Nat × List Nat):=(true,[([],[]),([],[]),([],[]),([2],[2]),([3],[3]),([4],[4]),([1,5],[1,5]),([],[]),([],[]),([8],[8]),([9],[9]),([7,10,6],[7,10]),([6,11],[6,11]),([0,11,0],[0]),([12,13,0,1,2,3,4,5,6,7,8,9,10,11,12,13],[12])])
def spec_DrawMeetBoth.B3:List Nat:=[0,0,0,4,12,28,62,0,0,256,768,2046,4094,4095,16383]
theorem spec_DrawMeetBoth.tab3:rtab .any (opsOf Try.f45 3)=spec_DrawMeetBoth.T3:=by kernel_rfl
theorem spec_DrawMeetBoth.bits3:waitsOk spec_DrawMeetBoth.T3.2 spec_DrawMeetBoth.B3=true:=by kernel_rfl
set_option maxHeartbeats 8000000 in
set_option maxRecDepth 100000 in
theorem spec_DrawMeetBoth.calls (k:Nat) (A0:Option Addr) (c0:Nat) (l0:List Int) (r1:List Int) (r2:Int) (r3:Bool) (r4:Int) (r5:Int) (w:World) (hr0:Kd.C (Kd.int .u8) w A0 l0.length l0) (hc0:l0.length≤c0) (h:spec_DrawMeetBoth.f k l0=some (r1,r2,r3,r4,r5)) :
  Calls Try.prog 45 #[.slice A0 l0.length c0] w fun e w' => ∃ v0_:Value,e=.returned (.tuple #[.agg #[v0_,.int .i64 r2,.bool r3],.agg #[.int .i64 r4,.int .i64 r5]])∧Kd.R (Kd.int .i64) 3 w' w.heap.size (fun _=>True) v0_ r1∧Below w.heap.size w w':=by
 have hu62:=Try.underlying62
 have hu72:=Try.underlying72
 have hu138:=Try.underlying138
 have HR0:=am hr0
 have HC0:=am hc0
 clear hr0 hc0
 have HB:=am (Below.refl w.heap.size w)
 have H:((spec_l1Cur_spray.f k l0 0 0).bind fun bt424=>((spec_l1Cur_pick.f l0 bt424.2.2.2.1 bt424.2.2.2.2 (wrap64 ((bt424.1.length:Int)+1))).bind fun bt432=>((spec_l1Cur_pick.f l0 bt432.2.1 bt432.2.2 (bt424.1.length:Int)).bind fun bt435=>(some (bt424.1,bt424.2.1,bt424.2.2.1,bt432.1,bt435.1)))))=some (r1,r2,r3,r4,r5):=h
 clear h
 replace H:=bI_ H
 obtain⟨⟨t424,t427,t428,t429,t430⟩,A20,H⟩:=H
 replace H:((spec_l1Cur_pick.f l0 t429 t430 (wrap64 ((t424.length:Int)+1))).bind fun bt432=>((spec_l1Cur_pick.f l0 bt432.2.1 bt432.2.2 (t424.length:Int)).bind fun bt435=>(some (t424,t427,t428,bt432.1,bt435.1))))=some (r1,r2,r3,r4,r5):=H
 have A2:=am A20
 clear A20
 replace H:=bI_ H
 obtain⟨⟨t432,t433,t434⟩,A30,H⟩:=H
 replace H:((spec_l1Cur_pick.f l0 t433 t434 (t424.length:Int)).bind fun bt435=>(some (t424,t427,t428,t432,bt435.1)))=some (r1,r2,r3,r4,r5):=H
 have A3:=am A30
 clear A30
 replace H:=bI_ H
 obtain⟨⟨t435,t436,t437⟩,A40,H⟩:=H
 replace H:(some (t424,t427,t428,t432,t435))=some (r1,r2,r3,r4,r5):=H
 have A4:=am A40
 clear A40
 simp only[Option.some.injEq,Prod.mk.injEq] at H
 obtain⟨rfl,rfl,rfl,rfl,rfl⟩:=H
 go_enter Try.func45,Try.ntmps45
 try go_wp2_with (first|((with_reducible refine gate_dst (N:=2) rfl ?_);refine box_event ?hg (N:=2) ?hd (cs:=#[.slice none 0 0,.int .i64 0,.bool false]) (t:=62) ?hr ?_;(case hd=>rfl);(case hg=>rfl);(case hr=>first|(go_simp;done)|(go_simp;rfl));intro gb421 hg w5 hbox hb;have n0_:=am (below_step (bB) hb);have n1_:=am (hbox);have n2_:=am ((bG:w.heap.size≤gb421));have n3_:=am ((bG:w.heap.size≤gb421));clear HB;have HB:=n0_;have BK421:=n1_;have GW421:=n2_;have GE421:=n3_;clear n0_ n1_ n2_ n3_;clear hb hbox hg)|((with_reducible refine gate_dst (N:=3) rfl ?_);refine box_event ?hg (N:=3) ?hd (cs:=#[.int .i64 0,.int .i64 0]) (t:=72) ?hr ?_;(case hd=>rfl);(case hg=>rfl);(case hr=>first|(go_simp;done)|(go_simp;rfl));intro gb422 hg w6 hbox hb;have n0_:=am (bM BK421.out hb);have n1_:=am (below_step (bS GE421.out) hb);have n2_:=am (hbox);have n3_:=am ((by rw[hg];exact(below_size (bS GE421.out)):w.heap.size≤gb422));have n4_:=am ((by rw[hg];exact(below_size (bS GE421.out)):w.heap.size≤gb422));have n5_:=am ((bN BK421.out hg:gb421≠gb422));have n6_:=am ((bO BK421.out hg:gb422≠gb421));clear BK421 HB;have BK421:=n0_;have HB:=n1_;have BK422:=n2_;have GW422:=n3_;have GE422:=n4_;have NB421_422:=n5_;have NB422_421:=n6_;clear n0_ n1_ n2_ n3_ n4_ n5_ n6_;clear hb hbox hg)|((with_reducible refine gate_dst (N:=8) rfl ?_);refine box_event ?hg (N:=8) ?hd (cs:=#[.slice A0 l0.length c0,.int .i64 0,.int .u64 0]) (t:=138) ?hr ?_;(case hd=>rfl);(case hg=>rfl);(case hr=>first|(go_simp;done)|(go_simp;rfl));intro gb423 hg w7 hbox hb;have n0_:=am (bM BK421.out hb);have n1_:=am (bM BK422.out hb);have n2_:=am (below_step (bS2 GE421.out GE422.out) hb);have n3_:=am (hbox);have n4_:=am ((by rw[hg];exact(below_size (bS2 GE421.out GE422.out)):w.heap.size≤gb423));have n5_:=am ((by rw[hg];exact(below_size (bS2 GE421.out GE422.out)):w.heap.size≤gb423));have n6_:=am ((bN BK421.out hg:gb421≠gb423));have n7_:=am ((bO BK421.out hg:gb423≠gb421));have n8_:=am ((bN BK422.out hg:gb422≠gb423));have n9_:=am ((bO BK422.out hg:gb423≠gb422));clear BK421 BK422 HB;have BK421:=n0_;have BK422:=n1_;have HB:=n2_;have BK423:=n3_;have GW423:=n4_;have GE423:=n5_;have NB421_423:=n6_;have NB423_421:=n7_;have NB422_423:=n8_;have NB423_422:=n9_;clear n0_ n1_ n2_ n3_ n4_ n5_ n6_ n7_ n8_ n9_;clear hb hbox hg)|((with_reducible refine gate_callee (f:=115) rfl ?_);refine goesA (some 10) rfl rfl Try.func115 #[.pointer (some ⟨gb423,0,none⟩)] rfl ?_;(with_reducible refine(spec_l1Cur_spray.calls k gb423 l0 0 0 t424 t427 t428 t429 t430 w _ ?side1 ?side2 A2.out).mono ?_);(case side1=>exact⟨_,_,(bL BK423.out),GE423.out,HR0.out⟩);(case side2=>repeat (first|(with_reducible first|exact HB.out|apply below_alloc|apply pw_below_drewN|apply below_drew1|refine below_set ?_ (IsS138.ge HI423.out)|refine below_set ?_ GE421.out|refine below_set ?_ GE422.out)|exact HB.out));rintro e w8 ⟨v425,rfl,ho0,hi,hb,hk⟩;refine⟨_,rfl,?_⟩;have n0_:=am (KeepBut.blk hk (g':=gb421) (o:=.cells #[.slice none 0 0,.int .i64 0,.bool false] 62 (0,0)) (bL BK421.out) NB421_423.out (by simp));have n1_:=am (KeepBut.blk hk (g':=gb422) (o:=.cells #[.int .i64 0,.int .i64 0] 72 (0,0)) (bL BK422.out) NB422_423.out (by simp));have n2_:=am (Kd.R_lower ho0 (below_size (b30_)));have n3_:=am (hb);have n4_:=am (hi);clear BK421 BK422 HB BK423;have BK421:=n0_;have BK422:=n1_;have HO426:=n2_;have HB:=n3_;have HI423:=n4_;clear n0_ n1_ n2_ n3_ n4_;(try clear hb);(try clear hb2);(try clear hk);(try clear hi);(try clear ho0))|((with_reducible refine gate_dst (N:=5) rfl ?_);refine box_event ?hg (N:=5) ?hd (cs:=#[.slice none 0 0,.int .i64 0,.bool false]) (t:=62) ?hr ?_;(case hd=>rfl);(case hg=>rfl);(case hr=>first|(go_simp;done)|(go_simp;rfl));intro gb431 hg w9 hbox hb;have n0_:=am (Kd.R_below (bK HO426.out) hb);have n1_:=am (bM BK421.out hb);have n2_:=am (bM BK422.out hb);have n3_:=am (IsS138.below (by repeat (first|(with_reducible first|exact HI423.out|apply IsS138.alloc|apply IsS138.drewN|apply IsS138.drew|apply IsS138.set_1|apply IsS138.set_2|apply IsS138.far (hne:=NB423_421.out)|apply IsS138.far (hne:=NB423_422.out))|exact HI423.out)) hb);have n4_:=am (below_step (b30_) hb);have n5_:=am (hbox);have n6_:=am ((by rw[hg];exact(below_size (b30_)):w.heap.size≤gb431));have n7_:=am ((by rw[hg];exact(below_size (b30_)):w.heap.size≤gb431));have n8_:=am ((bN BK421.out hg:gb421≠gb431));have n9_:=am ((bO BK421.out hg:gb431≠gb421));have n10_:=am ((bN BK422.out hg:gb422≠gb431));have n11_:=am ((bO BK422.out hg:gb431≠gb422));have n12_:=am ((by rw[hg];exact Nat.ne_of_lt (IsS138.lt (show IsS138 w _ gb423 l0 t429 t430 from by repeat (first|(with_reducible first|exact HI423.out|apply IsS138.alloc|apply IsS138.drewN|apply IsS138.drew|apply IsS138.set_1|apply IsS138.set_2|apply IsS138.far (hne:=NB423_421.out)|apply IsS138.far (hne:=NB423_422.out))|exact HI423.out))):gb423≠gb431));have n13_:=am ((by rw[hg];exact Nat.ne_of_gt (IsS138.lt (show IsS138 w _ gb423 l0 t429 t430 from by repeat (first|(with_reducible first|exact HI423.out|apply IsS138.alloc|apply IsS138.drewN|apply IsS138.drew|apply IsS138.set_1|apply IsS138.set_2|apply IsS138.far (hne:=NB423_421.out)|apply IsS138.far (hne:=NB423_422.out))|exact HI423.out))):gb431≠gb423));clear HO426 BK421 BK422;(try clear HI423);clear HB;have HO426:=n0_;have BK421:=n1_;have BK422:=n2_;have HI423:=n3_;have HB:=n4_;have BK431:=n5_;have GW431:=n6_;have GE431:=n7_;have NB421_431:=n8_;have NB431_421:=n9_;have NB422_431:=n10_;have NB431_422:=n11_;have NB423_431:=n12_;have NB431_423:=n13_;clear n0_ n1_ n2_ n3_ n4_ n5_ n6_ n7_ n8_ n9_ n10_ n11_ n12_ n13_;clear hb hbox hg;obtain⟨Ao10,co10,eo10⟩:=Kd.R_slice HO426.out;subst eo10;have hnb11:=NB431_421.out;have hnc11:=NB421_431.out;have hnb12:=NB431_422.out;have hnc12:=NB422_431.out;have hnb13:=NB431_423.out;have hnc13:=NB423_431.out;obtain⟨hcz14_0,hcz14_1,hcz14_2⟩:=cC3 BK431.out;obtain⟨hfz14_0,hfz14_1,hfz14_2⟩:=cF3 BK431.out))
 have n0_:Aside0 (Kd.R (Kd.int .i64) 3 (((w9.setCell ⟨gb431,0,none⟩ (.slice Ao10 t424.length co10)).setCell ⟨gb431,1,none⟩ (.int .i64 t427)).setCell ⟨gb431,2,none⟩ (.bool t428)) w.heap.size (fun _=>True) (.slice Ao10 t424.length co10) t424):=⟨by(with_reducible repeat (first|apply Kd.R_alloc|apply Kd.R_drewN|apply Kd.R_drew));exact Kd.R_mono (Kd.R_far (p:=⟨gb431,2,none⟩) (Kd.R_far (p:=⟨gb431,1,none⟩) (Kd.R_far (p:=⟨gb431,0,none⟩) (Kd.R_types HO426.out BK431.out (b17_)) (fun _ hk=>hk.2) (.slice Ao10 t424.length co10)) (fun _ hk=>hk.2) (.int .i64 t427)) (fun _ hk=>hk.2) (.bool t428)) (fun _ hk=>trivial)⟩
 have n1_:Aside0 ((((w9.setCell ⟨gb431,0,none⟩ (.slice Ao10 t424.length co10)).setCell ⟨gb431,1,none⟩ (.int .i64 t427)).setCell ⟨gb431,2,none⟩ (.bool t428)).heap[gb421]?=some (.cells #[.slice none 0 0,.int .i64 0,.bool false] 62 (0,0))):=⟨by(with_reducible repeat (first|refine blk_drewN ?_ _|refine blk_drew ?_|refine blk_alloc ?_ _));refine blk_far ?_ NB421_431.out _;(with_reducible repeat (first|refine blk_drewN ?_ _|refine blk_drew ?_|refine blk_alloc ?_ _));refine blk_far ?_ NB421_431.out _;(with_reducible repeat (first|refine blk_drewN ?_ _|refine blk_drew ?_|refine blk_alloc ?_ _));refine blk_far ?_ NB421_431.out _;(with_reducible repeat (first|refine blk_drewN ?_ _|refine blk_drew ?_|refine blk_alloc ?_ _));exact BK421.out⟩
 have n2_:Aside0 ((((w9.setCell ⟨gb431,0,none⟩ (.slice Ao10 t424.length co10)).setCell ⟨gb431,1,none⟩ (.int .i64 t427)).setCell ⟨gb431,2,none⟩ (.bool t428)).heap[gb422]?=some (.cells #[.int .i64 0,.int .i64 0] 72 (0,0))):=⟨by(with_reducible repeat (first|refine blk_drewN ?_ _|refine blk_drew ?_|refine blk_alloc ?_ _));refine blk_far ?_ NB422_431.out _;(with_reducible repeat (first|refine blk_drewN ?_ _|refine blk_drew ?_|refine blk_alloc ?_ _));refine blk_far ?_ NB422_431.out _;(with_reducible repeat (first|refine blk_drewN ?_ _|refine blk_drew ?_|refine blk_alloc ?_ _));refine blk_far ?_ NB422_431.out _;(with_reducible repeat (first|refine blk_drewN ?_ _|refine blk_drew ?_|refine blk_alloc ?_ _));exact BK422.out⟩
 have n3_:Aside0 ((((w9.setCell ⟨gb431,0,none⟩ (.slice Ao10 t424.length co10)).setCell ⟨gb431,1,none⟩ (.int .i64 t427)).setCell ⟨gb431,2,none⟩ (.bool t428)).heap[gb431]?=some (.cells #[.slice Ao10 t424.length co10,.int .i64 t427,.bool t428] 62 (0,0))):=⟨by(with_reducible repeat (first|refine blk_drewN ?_ _|refine blk_drew ?_|refine blk_alloc ?_ _));apply bU3;(with_reducible repeat (first|refine blk_drewN ?_ _|refine blk_drew ?_|refine blk_alloc ?_ _));exact BK431.out⟩
 have n4_:Aside0 (IsS138 w (((w9.setCell ⟨gb431,0,none⟩ (.slice Ao10 t424.length co10)).setCell ⟨gb431,1,none⟩ (.int .i64 t427)).setCell ⟨gb431,2,none⟩ (.bool t428)) gb423 l0 t429 t430):=⟨by repeat (first|(with_reducible first|exact HI423.out|apply IsS138.alloc|apply IsS138.drewN|apply IsS138.drew|apply IsS138.set_1|apply IsS138.set_2|apply IsS138.far (hne:=NB423_421.out)|apply IsS138.far (hne:=NB423_422.out)|apply IsS138.far (hne:=NB423_431.out))|exact HI423.out)⟩
 have n5_:Aside0 (Below w.heap.size w (((w9.setCell ⟨gb431,0,none⟩ (.slice Ao10 t424.length co10)).setCell ⟨gb431,1,none⟩ (.int .i64 t427)).setCell ⟨gb431,2,none⟩ (.bool t428))):=⟨by repeat (first|(with_reducible first|exact HB.out|apply below_alloc|apply pw_below_drewN|apply below_drew1|refine below_set ?_ (IsS138.ge HI423.out)|refine below_set ?_ GE421.out|refine below_set ?_ GE422.out|refine below_set ?_ GE431.out)|exact HB.out)⟩
 (try clear HO426)
 (try clear BK421)
 (try clear BK422)
 (try clear BK431)
 (try clear HI423)
 (try clear HB)
 generalize (((w9.setCell ⟨gb431,0,none⟩ (.slice Ao10 t424.length co10)).setCell ⟨gb431,1,none⟩ (.int .i64 t427)).setCell ⟨gb431,2,none⟩ (.bool t428))=w15 at n0_ n1_ n2_ n3_ n4_ n5_ ⊢
 have HO426:=n0_
 have BK421:=n1_
 have BK422:=n2_
 have BK431:=n3_
 have HI423:=n4_
 have HB:=n5_
 clear n0_ n1_ n2_ n3_ n4_ n5_
 (try (rw[drewN_self w15];generalize hq_:World.drewN w15 _=w15;have n0_:=am (Kd.R_at hq_ HO426.out);have n1_:=am (blk_at hq_ BK421.out);have n2_:=am (blk_at hq_ BK422.out);have n3_:=am (blk_at hq_ BK431.out);have n4_:=am (IsS138.at_ hq_ HI423.out);have n5_:=am (below_at hq_ HB.out);clear hq_ HO426 BK421 BK422 BK431 HI423 HB;have HO426:=n0_;have BK421:=n1_;have BK422:=n2_;have BK431:=n3_;have HI423:=n4_;have HB:=n5_;clear n0_ n1_ n2_ n3_ n4_ n5_))
 have n0_:=am (Kd.R_drew HO426.out)
 have n1_:=am (blk_drew BK421.out)
 have n2_:=am (blk_drew BK422.out)
 have n3_:=am (blk_drew BK431.out)
 have n4_:=am (IsS138.drew HI423.out)
 have n5_:=am (below_drew1 HB.out)
 clear HO426 BK421 BK422 BK431 HI423 HB
 have HO426:=n0_
 have BK421:=n1_
 have BK422:=n2_
 have BK431:=n3_
 have HI423:=n4_
 have HB:=n5_
 clear n0_ n1_ n2_ n3_ n4_ n5_
 refine start_ (n:=15) (S:=fun w'=>w'.cell? ⟨gb431,0,none⟩=some (.slice Ao10 t424.length co10)∧w'.cell? ⟨gb431,1,none⟩=some (.int .i64 t427)∧w'.cell? ⟨gb431,2,none⟩=some (.bool t428)) (ds:=[]) #[false,false,false,false,false,false,false,false,false,false,false,false,false,false,false] (b4_) rfl rfl (cC3 BK431.out) (fun hHeld => ?_);refine with_tabW spec_DrawMeetBoth.tab3 spec_DrawMeetBoth.bits3 (fun HT_ HW_ => ?_)
 generalize w15.drew=w16 at HO426 BK421 BK422 BK431 HI423 HB hHeld ⊢
 refine pure_ (i:=1) (N:=some 12) (v:=?_) (a':=?_) #[false,true,false,false,false,false,false,false,false,false,false,false,false,false,false] rfl rfl (any_of HT_.out (b4_)) (fun _ _ _ h=>h) (Or.inl ⟨by rfl,?_⟩) ?_ ?_
 rotate_left
 ·intro w'
  go_simp
  with_reducible rfl
 rotate_left
 ·simp only[Act.put,zA,zB,zC,i64_w,i32_w]
  rfl
 refine pure_ (i:=2) (N:=some 13) (v:=?_) (a':=?_) #[false,true,true,false,false,false,false,false,false,false,false,false,false,false,false] rfl rfl (any_of HT_.out (b4_)) (fun _ _ _ h=>h) (Or.inl ⟨by rfl,?_⟩) ?_ ?_
 rotate_left
 ·intro w'
  go_simp
  with_reducible rfl
 rotate_left
 ·simp only[Act.put,zA,zB,zC,i64_w,i32_w]
  rfl
 refine pure_ (i:=7) (N:=some 18) (v:=?_) (a':=?_) #[false,true,true,false,false,false,false,true,false,false,false,false,false,false,false] rfl rfl (any_of HT_.out (b4_)) (fun _ _ _ h=>h) (Or.inl ⟨by rfl,?_⟩) ?_ ?_
 rotate_left
 ·intro w'
  go_simp
  with_reducible rfl
 rotate_left
 ·simp only[Act.put,zA,zB,zC,i64_w,i32_w]
  rfl
 refine pure_ (i:=8) (N:=some 19) (v:=?_) (a':=?_) #[false,true,true,false,false,false,false,true,true,false,false,false,false,false,false] rfl rfl (any_of HT_.out (b4_)) (fun _ _ _ h=>h) (Or.inl ⟨by rfl,?_⟩) ?_ ?_
 rotate_left
 ·intro w'
  go_simp
  with_reducible rfl
 rotate_left
 ·simp only[Act.put,zA,zB,zC,i64_w,i32_w]
  rfl
 refine take_ (i:=0) (N:=some 11) (v:=?_) (a':=?_) #[true,true,true,false,false,false,false,true,true,false,false,false,false,false,false] rfl rfl (take_ofW HT_.out HW_.out (b4_)) (fun _ _ _ h=>h) (Or.inl ⟨by rfl,?_⟩) hHeld ?_ ?_
 rotate_left
 ·rintro w' ⟨s0,s1,s2⟩
  go_simp
  with_reducible rfl
 rotate_left
 ·simp only[Act.put,zA,zB,zC,i64_w,i32_w]
  rfl
 refine take_ (i:=3) (N:=some 14) (v:=?_) (a':=?_) #[true,true,true,true,false,false,false,true,true,false,false,false,false,false,false] rfl rfl (take_ofW HT_.out HW_.out (b4_)) (fun _ _ _ h=>h) (Or.inl ⟨by rfl,?_⟩) hHeld ?_ ?_
 rotate_left
 ·rintro w' ⟨s0,s1,s2⟩
  go_simp
  with_reducible rfl
 rotate_left
 ·simp only[Act.put,zA,zB,zC,i64_w,i32_w]
  rfl
 refine pure_ (i:=4) (N:=some 15) (v:=?_) (a':=?_) #[true,true,true,true,true,false,false,true,true,false,false,false,false,false,false] rfl rfl (any_of HT_.out (b4_)) (fun _ _ _ h=>h) (Or.inl ⟨by rfl,?_⟩) ?_ ?_
 rotate_left
 ·intro w'
  go_simp
  with_reducible rfl
 rotate_left
 ·simp only[Act.put,zA,zB,zC,i64_w,i32_w]
  rfl
 refine pure_ (i:=5) (N:=some 16) (v:=?_) (a':=?_) #[true,true,true,true,true,true,false,true,true,false,false,false,false,false,false] rfl rfl (any_of HT_.out (b4_)) (fun _ _ _ h=>h) (Or.inl ⟨by rfl,?_⟩) ?_ ?_
 rotate_left
 ·intro w'
  go_simp
  with_reducible rfl
 rotate_left
 ·simp only[Act.put,zA,zB,zC,i64_w,i32_w]
  rfl
 refine take_ (i:=9) (N:=some 20) (v:=?_) (a':=?_) #[true,true,true,true,true,true,false,true,true,true,false,false,false,false,false] rfl rfl (take_ofW HT_.out HW_.out (b4_)) (fun _ _ _ h=>h) (Or.inl ⟨by rfl,?_⟩) hHeld ?_ ?_
 rotate_left
 ·rintro w' ⟨s0,s1,s2⟩
  go_simp
  with_reducible rfl
 rotate_left
 ·simp only[Act.put,zA,zB,zC,i64_w,i32_w]
  rfl
 refine pure_ (i:=10) (N:=some 21) (v:=?_) (a':=?_) #[true,true,true,true,true,true,false,true,true,true,true,false,false,false,false] rfl rfl (any_of HT_.out (b4_)) (fun _ _ _ h=>h) (Or.inl ⟨by rfl,?_⟩) ?_ ?_
 rotate_left
 ·intro w'
  go_simp
  with_reducible rfl
 rotate_left
 ·simp only[Act.put,zA,zB,zC,i64_w,i32_w]
  rfl
 refine one_ (i:=6) (N:=some 17) #[true,true,true,true,true,true,true,true,true,true,true,false,false,false,false] rfl rfl (one_of HT_.out (b4_)) (b17_) (fun K hK => ?_)
 refine goes_ Try.func116 (b4_) rfl #[.pointer (some ⟨gb423,0,none⟩),.int .i64 (wrap64 ((t424.length:Int)+1))] (by rfl) rfl rfl (b27_) ?_
 with_reducible refine(spec_l1Cur_pick.calls gb423 l0 t429 t430 (wrap64 ((t424.length:Int)+1)) t432 t433 t434 w _ ?side1 ?side2 A3.out).mono ?_
 (case side1=>repeat (first|(with_reducible first|exact HI423.out|apply IsS138.alloc|apply IsS138.drewN|apply IsS138.drew|apply IsS138.set_1|apply IsS138.set_2|apply IsS138.far (hne:=NB423_421.out)|apply IsS138.far (hne:=NB423_422.out)|apply IsS138.far (hne:=NB423_431.out))|exact HI423.out))
 (case side2=>repeat (first|(with_reducible first|exact HB.out|apply below_alloc|apply pw_below_drewN|apply below_drew1|refine below_set ?_ (IsS138.ge HI423.out)|refine below_set ?_ GE421.out|refine below_set ?_ GE422.out|refine below_set ?_ GE431.out)|exact HB.out))
 rintro e w17 ⟨rfl,hi,hb,hk⟩
 refine⟨_,rfl,?_⟩
 have n0_:=am (KeepBut.blk hk (g':=gb421) (o:=.cells #[.slice none 0 0,.int .i64 0,.bool false] 62 (0,0)) (bL BK421.out) NB421_423.out (by simp))
 have n1_:=am (KeepBut.blk hk (g':=gb422) (o:=.cells #[.int .i64 0,.int .i64 0] 72 (0,0)) (bL BK422.out) NB422_423.out (by simp))
 have n2_:=am (Kd.R_mono (Kd.R_keep (IsS138.apart (show IsS138 w _ gb423 l0 t429 t430 from by repeat (first|(with_reducible first|exact HI423.out|apply IsS138.alloc|apply IsS138.drewN|apply IsS138.drew|apply IsS138.set_1|apply IsS138.set_2|apply IsS138.far (hne:=NB423_421.out)|apply IsS138.far (hne:=NB423_422.out)|apply IsS138.far (hne:=NB423_431.out))|exact HI423.out)) (bK HO426.out) (b17_)) hk (fun _ h=>h.2)) (fun _ h=>h.1))
 have n3_:=am (KeepBut.blk hk (g':=gb431) (o:=.cells #[.slice Ao10 t424.length co10,.int .i64 t427,.bool t428] 62 (0,0)) (bL BK431.out) NB431_423.out (by simp))
 have n4_:=am (hb)
 have n5_:=am (hi)
 clear BK421 BK422 HO426 BK431 HB HI423
 have BK421:=n0_
 have BK422:=n1_
 have HO426:=n2_
 have BK431:=n3_
 have HB:=n4_
 have HI423:=n5_
 clear n0_ n1_ n2_ n3_ n4_ n5_
 (try clear hb)
 (try clear hb2)
 (try clear hk)
 (try clear hi)
 refine hK.out _ _ (cC3 BK431.out) (fun hHeld => ?_)
 clear hK K
 refine norm_ (a':=?_) ?_ ?_
 rotate_left
 ·show Act.put _ (some 17) _=_
  simp only[Act.put,zA,zB,zC,i64_w,i32_w]
  rfl
 refine one_ (i:=11) (N:=some 22) #[true,true,true,true,true,true,true,true,true,true,true,true,false,false,false] rfl rfl (one_of HT_.out (b4_)) (b17_) (fun K hK => ?_)
 refine goes_ Try.func116 (b4_) rfl #[.pointer (some ⟨gb423,0,none⟩),.int .i64 (t424.length:Int)] (by rfl) rfl rfl (b27_) ?_
 with_reducible refine(spec_l1Cur_pick.calls gb423 l0 t433 t434 (t424.length:Int) t435 t436 t437 w _ ?side1 ?side2 A4.out).mono ?_
 (case side1=>repeat (first|(with_reducible first|exact HI423.out|apply IsS138.alloc|apply IsS138.drewN|apply IsS138.drew|apply IsS138.set_1|apply IsS138.set_2|apply IsS138.far (hne:=NB423_421.out)|apply IsS138.far (hne:=NB423_422.out)|apply IsS138.far (hne:=NB423_431.out))|exact HI423.out))
 (case side2=>repeat (first|(with_reducible first|exact HB.out|apply below_alloc|apply pw_below_drewN|apply below_drew1|refine below_set ?_ (IsS138.ge HI423.out)|refine below_set ?_ GE421.out|refine below_set ?_ GE422.out|refine below_set ?_ GE431.out)|exact HB.out))
 rintro e w18 ⟨rfl,hi,hb,hk⟩
 refine⟨_,rfl,?_⟩
 have n0_:=am (KeepBut.blk hk (g':=gb421) (o:=.cells #[.slice none 0 0,.int .i64 0,.bool false] 62 (0,0)) (bL BK421.out) NB421_423.out (by simp))
 have n1_:=am (KeepBut.blk hk (g':=gb422) (o:=.cells #[.int .i64 0,.int .i64 0] 72 (0,0)) (bL BK422.out) NB422_423.out (by simp))
 have n2_:=am (Kd.R_mono (Kd.R_keep (IsS138.apart (show IsS138 w _ gb423 l0 t433 t434 from by repeat (first|(with_reducible first|exact HI423.out|apply IsS138.alloc|apply IsS138.drewN|apply IsS138.drew|apply IsS138.set_1|apply IsS138.set_2|apply IsS138.far (hne:=NB423_421.out)|apply IsS138.far (hne:=NB423_422.out)|apply IsS138.far (hne:=NB423_431.out))|exact HI423.out)) (bK HO426.out) (b17_)) hk (fun _ h=>h.2)) (fun _ h=>h.1))
 have n3_:=am (KeepBut.blk hk (g':=gb431) (o:=.cells #[.slice Ao10 t424.length co10,.int .i64 t427,.bool t428] 62 (0,0)) (bL BK431.out) NB431_423.out (by simp))
 have n4_:=am (hb)
 have n5_:=am (hi)
 clear BK421 BK422 HO426 BK431 HB HI423
 have BK421:=n0_
 have BK422:=n1_
 have HO426:=n2_
 have BK431:=n3_
 have HB:=n4_
 have HI423:=n5_
 clear n0_ n1_ n2_ n3_ n4_ n5_
 (try clear hb)
 (try clear hb2)
 (try clear hk)
 (try clear hi)
 refine hK.out _ _ (cC3 BK431.out) (fun hHeld => ?_)
 clear hK K
 refine norm_ (a':=?_) ?_ ?_
 rotate_left
 ·show Act.put _ (some 22) _=_
  simp only[Act.put,zA,zB,zC,i64_w,i32_w]
  rfl
 refine pure_ (i:=12) (N:=some 23) (v:=?_) (a':=?_) #[true,true,true,true,true,true,true,true,true,true,true,true,true,false,false] rfl rfl (any_of HT_.out (b4_)) (fun _ _ _ h=>h) (Or.inl ⟨by rfl,?_⟩) ?_ ?_
 rotate_left
 ·intro w'
  go_simp
  with_reducible rfl
 rotate_left
 ·simp only[Act.put,zA,zB,zC,i64_w,i32_w]
  rfl
 refine one_ (i:=13) (N:=none) #[true,true,true,true,true,true,true,true,true,true,true,true,true,true,false] rfl rfl (one_of HT_.out (b4_)) (b17_) (fun K hK => ?_)
 have hs19:w18.cell? ⟨gb421,0,none⟩=some (.slice none 0 0):=(blk_cell BK421.out 0).trans rfl
 have hfs19:=blk_frozen BK421.out 0
 have hns19_1:=NB422_421.out
 have hns19_2:=NB431_421.out
 have hms19_1:=NB421_422.out
 have hms19_2:=NB421_431.out
 have hs20:w18.cell? ⟨gb421,1,none⟩=some (.int .i64 0):=(blk_cell BK421.out 1).trans rfl
 have hfs20:=blk_frozen BK421.out 1
 have hns20_1:=NB422_421.out
 have hns20_2:=NB431_421.out
 have hms20_1:=NB421_422.out
 have hms20_2:=NB421_431.out
 have hs21:w18.cell? ⟨gb421,2,none⟩=some (.bool false):=(blk_cell BK421.out 2).trans rfl
 have hfs21:=blk_frozen BK421.out 2
 have hns21_1:=NB422_421.out
 have hns21_2:=NB431_421.out
 have hms21_1:=NB421_422.out
 have hms21_2:=NB421_431.out
 refine skip_ (w1:=?_) (by rfl) rfl ?_ ?_
 rotate_left
 ·go_simp
  rfl
 refine hK.out _ _ ⟨(cf_ NB431_421.out ((cf_ NB431_421.out ((cf_ NB431_421.out (hHeld.1)))))),(cf_ NB431_421.out ((cf_ NB431_421.out ((cf_ NB431_421.out (hHeld.2.1)))))),(cf_ NB431_421.out ((cf_ NB431_421.out ((cf_ NB431_421.out (hHeld.2.2))))))⟩ (fun hHeld => ?_)
 clear hK K
 refine one_ (i:=14) (N:=none) #[true,true,true,true,true,true,true,true,true,true,true,true,true,true,true] rfl rfl (one_of HT_.out (b4_)) (b17_) (fun K hK => ?_)
 have hs22:w18.cell? ⟨gb422,0,none⟩=some (.int .i64 0):=(blk_cell BK422.out 0).trans rfl
 have hfs22:=blk_frozen BK422.out 0
 have hns22_0:=NB421_422.out
 have hns22_2:=NB431_422.out
 have hms22_0:=NB422_421.out
 have hms22_2:=NB422_431.out
 have hs23:w18.cell? ⟨gb422,1,none⟩=some (.int .i64 0):=(blk_cell BK422.out 1).trans rfl
 have hfs23:=blk_frozen BK422.out 1
 have hns23_0:=NB421_422.out
 have hns23_2:=NB431_422.out
 have hms23_0:=NB422_421.out
 have hms23_2:=NB422_431.out
 refine skip_ (w1:=?_) (by rfl) rfl ?_ ?_
 rotate_left
 ·go_simp
  rfl
 refine hK.out _ _ ⟨(cf_ NB431_422.out ((cf_ NB431_422.out (hHeld.1)))),(cf_ NB431_422.out ((cf_ NB431_422.out (hHeld.2.1)))),(cf_ NB431_422.out ((cf_ NB431_422.out (hHeld.2.2))))⟩ (fun hHeld => ?_)
 clear hK K
 refine done_ (done_of HT_.out (b4_)) ?_
 try go_wp2
 refine bodyPost_ret (results_cc rfl _ _ gb421 gb422 62 72 #[.slice Ao10 t424.length co10,.int .i64 t427,.bool t428] #[.int .i64 t432,.int .i64 t435] (0,0) (0,0) _ _ rfl (by(with_reducible repeat (first|refine blk_drewN ?_ _|refine blk_drew ?_|refine blk_alloc ?_ _));refine blk_far ?_ NB421_422.out _;(with_reducible repeat (first|refine blk_drewN ?_ _|refine blk_drew ?_|refine blk_alloc ?_ _));refine blk_far ?_ NB421_422.out _;(with_reducible repeat (first|refine blk_drewN ?_ _|refine blk_drew ?_|refine blk_alloc ?_ _));apply bU3;(with_reducible repeat (first|refine blk_drewN ?_ _|refine blk_drew ?_|refine blk_alloc ?_ _));exact BK421.out) Try.underlying62 rfl (b4_) rfl (by(with_reducible repeat (first|refine blk_drewN ?_ _|refine blk_drew ?_|refine blk_alloc ?_ _));apply bU2;(with_reducible repeat (first|refine blk_drewN ?_ _|refine blk_drew ?_|refine blk_alloc ?_ _));refine blk_far ?_ NB422_421.out _;(with_reducible repeat (first|refine blk_drewN ?_ _|refine blk_drew ?_|refine blk_alloc ?_ _));refine blk_far ?_ NB422_421.out _;(with_reducible repeat (first|refine blk_drewN ?_ _|refine blk_drew ?_|refine blk_alloc ?_ _));refine blk_far ?_ NB422_421.out _;(with_reducible repeat (first|refine blk_drewN ?_ _|refine blk_drew ?_|refine blk_alloc ?_ _));exact BK422.out) Try.underlying72 rfl (b4_)) rfl ?_
 exact⟨_,by first|rfl|(simp[errW_none,errW_some]<;>rfl)|(simp[*,errW_none,errW_some]<;>rfl),by(with_reducible repeat (first|apply Kd.R_alloc|apply Kd.R_drewN|apply Kd.R_drew));exact Kd.R_mono (Kd.R_far (p:=⟨gb422,1,none⟩) (Kd.R_far (p:=⟨gb422,0,none⟩) (Kd.R_far (p:=⟨gb421,2,none⟩) (Kd.R_far (p:=⟨gb421,1,none⟩) (Kd.R_far (p:=⟨gb421,0,none⟩) (Kd.R_types (Kd.R_types HO426.out BK421.out (b17_)) BK422.out (b17_)) (fun _ hk=>hk.1.2) (.slice Ao10 t424.length co10)) (fun _ hk=>hk.1.2) (.int .i64 t427)) (fun _ hk=>hk.1.2) (.bool t428)) (fun _ hk=>hk.2) (.int .i64 t432)) (fun _ hk=>hk.2) (.int .i64 t435)) (fun _ hk=>trivial),by repeat (first|(with_reducible first|exact HB.out|apply below_alloc|apply pw_below_drewN|apply below_drew1|refine below_set ?_ (IsS138.ge HI423.out)|refine below_set ?_ GE421.out|refine below_set ?_ GE422.out|refine below_set ?_ GE431.out)|exact HB.out)⟩

end Go.Proofs.Yteneeohaoplpbaa.XFnSpray
