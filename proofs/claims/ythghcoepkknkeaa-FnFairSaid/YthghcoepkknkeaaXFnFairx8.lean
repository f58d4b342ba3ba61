-- Written by this session's own program (wip/xprint.py) out of the translation; Lean checks it.
import Derived.Test.YthghcoepkknkeaaXFnFairx0
import Derived.Test.YthghcoepkknkeaaXFnFairx5
import Derived.Test.YthghcoepkknkeaaXFnFairx7
namespace Go.Proofs.Ythghcoepkknkeaa.XFnFair
open Go.RowKit Go.Proofs.YthghcoepkknkeaaW.PrintWords Go.Proofs.YthghcoepkknkeaaW.PrintLast Go.Proofs.YthghcoepkknkeaaW.PrintMore
open Go.Proofs.YthghcoepkknkeaaW.PrintWords.Aside0 renaming mk → am
open List renaming setIfInBounds_toArray → zA, set_cons_zero → zB, set_cons_succ → zC
attribute [local go_sem] max2_int min2_int max_two min_two max_three min_three max_four min_four   -- for this text's walks alone
set_option linter.unusedVariables false
set_option linter.unusedSimpArgs false

/-! ### spec_DrawRunRounds: function 16 -/
def spec_DrawRunRounds.f (k:Nat) (l0:List Int):Option (Int × (List (S34)) × Int × Int):=(spec_l1Cur_turns.f k l0 0 0).bind fun bt281=>((spec_l1Cur_among.f l0 bt281.2.2.2.1 bt281.2.2.2.2 (([(-1),0,1,3,10,200,201]:List Int))).bind fun bt291=>(some (bt281.1,bt281.2.1,bt281.2.2.1,bt291.1)))
theorem spec_DrawRunRounds.mono : ∀ a0 k,LeO (spec_DrawRunRounds.f k a0) (spec_DrawRunRounds.f (k+1) a0):=by
 intro a0 k
 unfold spec_DrawRunRounds.f
 repeat' first
  | (with_reducible exact spec_l1Cur_turns.mono _ _ _ _)
  | (with_reducible exact LeO.refl _)
  | (with_reducible exact LeO.none _)
  | (with_reducible refine LeO.ite ?_ ?_)
  | (with_reducible refine LeO.bind ?_ (fun _ => ?_))
set_option maxHeartbeats 8000000 in
set_option maxRecDepth 100000 in
theorem spec_DrawRunRounds.calls (k:Nat) (A0:Option Addr) (c0:Nat) (l0:List Int) (r1:Int) (r2:List (S34)) (r3:Int) (r4:Int) (w:World) (hr0:Kd.C (Kd.int .u8) w A0 l0.length l0) (hc0:l0.length≤c0) (h:spec_DrawRunRounds.f k l0=some (r1,r2,r3,r4)) :
  Calls Try.prog 16 #[.slice A0 l0.length c0] w fun e w' => ∃ v1_:Value,e=.returned (.tuple #[.agg #[.int .i64 r1,v1_,.int .i64 r3],.int .i64 r4])∧Kd.S k34 34 w' w.heap.size (fun _=>True) v1_ r2∧Below w.heap.size w w':=by
 have hu25:=Try.underlying25
 have hu58:=Try.underlying58
 have HR0:=am hr0
 have HC0:=am hc0
 clear hr0 hc0
 have HB:=am (Below.refl w.heap.size w)
 have H:((spec_l1Cur_turns.f k l0 0 0).bind fun bt281=>((spec_l1Cur_among.f l0 bt281.2.2.2.1 bt281.2.2.2.2 (([(-1),0,1,3,10,200,201]:List Int))).bind fun bt291=>(some (bt281.1,bt281.2.1,bt281.2.2.1,bt291.1))))=some (r1,r2,r3,r4):=h
 clear h
 replace H:=bI_ H
 obtain⟨⟨t281,t282,t285,t286,t287⟩,A20,H⟩:=H
 replace H:((spec_l1Cur_among.f l0 t286 t287 (([(-1),0,1,3,10,200,201]:List Int))).bind fun bt291=>(some (t281,t282,t285,bt291.1)))=some (r1,r2,r3,r4):=H
 have A2:=am A20
 clear A20
 obtain⟨y288,hy288⟩ : ∃ y_:List Int,y_=(([(-1),0,1,3,10,200,201]:List Int)):=⟨_,rfl⟩
 replace H:((spec_l1Cur_among.f l0 t286 t287 y288).bind fun bt291=>(some (t281,t282,t285,bt291.1)))=some (r1,r2,r3,r4):=by first|(rw[hy288];with_reducible exact H)|(have H2_:=(Option.bind_some _ _).symm.trans H;rw[hy288];with_reducible exact H2_)|(have H2_:=(Option.bind_some _ _).symm.trans H;with_reducible exact H2_)|with_reducible exact H|(rw[hy288];exact H)|exact H
 have Ny288:=am hy288
 clear hy288
 replace H:=bI_ H
 obtain⟨⟨t291,t292,t293⟩,A30,H⟩:=H
 replace H:(some (t281,t282,t285,t291))=some (r1,r2,r3,r4):=H
 have A3:=am A30
 clear A30
 simp only[Option.some.injEq,Prod.mk.injEq] at H
 obtain⟨rfl,rfl,rfl,rfl⟩:=H
 go_enter Try.func16,Try.ntmps16
 go_wp2_with (first|((with_reducible refine gate_dst (N:=2) rfl ?_);refine box_event ?hg (N:=2) ?hd (cs:=#[.int .i64 0,.slice none 0 0,.int .i64 0]) (t:=25) ?hr ?_;(case hd=>rfl);(case hg=>rfl);(case hr=>first|(go_simp;done)|(go_simp;rfl));intro gb279 hg w4 hbox hb;have n0_:=am (below_step (bB) hb);have n1_:=am (hbox);have n2_:=am ((bG:w.heap.size≤gb279));have n3_:=am ((bG:w.heap.size≤gb279));clear HB;have HB:=n0_;have BK279:=n1_;have GW279:=n2_;have GE279:=n3_;clear n0_ n1_ n2_ n3_;clear hb hbox hg)|((with_reducible refine gate_dst (N:=7) rfl ?_);refine box_event ?hg (N:=7) ?hd (cs:=#[.slice A0 l0.length c0,.int .i64 0,.int .u64 0]) (t:=58) ?hr ?_;(case hd=>rfl);(case hg=>rfl);(case hr=>first|(go_simp;done)|(go_simp;rfl));intro gb280 hg w5 hbox hb;have n0_:=am (bM BK279.out hb);have n1_:=am (below_step (bS GE279.out) hb);have n2_:=am (hbox);have n3_:=am ((by rw[hg];exact(below_size (bS GE279.out)):w.heap.size≤gb280));have n4_:=am ((by rw[hg];exact(below_size (bS GE279.out)):w.heap.size≤gb280));have n5_:=am ((bN BK279.out hg:gb279≠gb280));have n6_:=am ((bO BK279.out hg:gb280≠gb279));clear BK279 HB;have BK279:=n0_;have HB:=n1_;have BK280:=n2_;have GW280:=n3_;have GE280:=n4_;have NB279_280:=n5_;have NB280_279:=n6_;clear n0_ n1_ n2_ n3_ n4_ n5_ n6_;clear hb hbox hg)|((with_reducible refine gate_callee (f:=28) rfl ?_);refine goesA (some 9) rfl rfl Try.func28 #[.pointer (some ⟨gb280,0,none⟩)] rfl ?_;(with_reducible refine(spec_l1Cur_turns.calls k gb280 l0 0 0 t281 t282 t285 t286 t287 w _ ?side1 ?side2 A2.out).mono ?_);(case side1=>exact⟨_,_,(bL BK280.out),GE280.out,HR0.out⟩);(case side2=>repeat (first|(with_reducible first|exact HB.out|apply below_alloc|apply pw_below_drewN|apply below_drew1|refine below_set ?_ (IsS58.ge HI280.out)|refine below_set ?_ GE279.out)|exact HB.out));rintro e w6 ⟨v283,rfl,ho0,hi,hb,hk⟩;refine⟨_,rfl,?_⟩;have n0_:=am (KeepBut.blk hk (g':=gb279) (o:=.cells #[.int .i64 0,.slice none 0 0,.int .i64 0] 25 (0,0)) (bL BK279.out) NB279_280.out (by simp));have n1_:=am (Kd.S_lower ho0 (below_size (by repeat (first|(with_reducible first|exact HB.out|apply below_alloc|apply pw_below_drewN|apply below_drew1|refine below_set ?_ (IsS58.ge HI280.out)|refine below_set ?_ GE279.out)|exact HB.out))));have n2_:=am (hb);have n3_:=am (hi);clear BK279 HB BK280;have BK279:=n0_;have HO284:=n1_;have HB:=n2_;have HI280:=n3_;clear n0_ n1_ n2_ n3_;(try clear hb);(try clear hb2);(try clear hk);(try clear hi);(try clear ho0))|((with_reducible refine gate_dst (N:=11) rfl ?_);refine Kd.R_lit (Kd.int .i64) _ 3 ?hg (N:=11) ?hd (xs:=([(-1),0,1,3,10,200,201]:List Int)) (inner:=[.int .i64 (-1),.int .i64 0,.int .i64 1,.int .i64 3,.int .i64 10,.int .i64 200,.int .i64 201]) (ok:=fun _=>True) (okp:=fun _=>True) ?hr ?hp (fun _ hk=>hk) trivial (Below.refl _ _) (Nat.le_refl _) (by simp) ?_;(case hd=>rfl);(case hg=>rfl);(case hr=>first|(go_simp;done)|(go_simp;rfl));(case hp=>exact(Reps.one (show Kd.M (Kd.int .i64) _ _ _ (-1) [.int .i64 (-1)] from rfl) (Reps.one (show Kd.M (Kd.int .i64) _ _ _ 0 [.int .i64 0] from rfl) (Reps.one (show Kd.M (Kd.int .i64) _ _ _ 1 [.int .i64 1] from rfl) (Reps.one (show Kd.M (Kd.int .i64) _ _ _ 3 [.int .i64 3] from rfl) (Reps.one (show Kd.M (Kd.int .i64) _ _ _ 10 [.int .i64 10] from rfl) (Reps.one (show Kd.M (Kd.int .i64) _ _ _ 200 [.int .i64 200] from rfl) (Reps.one (show Kd.M (Kd.int .i64) _ _ _ 201 [.int .i64 201] from rfl) (Reps.none _ _)))))))));intro v289 w7 ho8 hb hg_ hnew_;clear hg_ hnew_;(first|rw[← Ny288.out] at ho8|(simp only[Int.reduceToNat] at ho8;rw[← Ny288.out] at ho8));have n0_:=am (Kd.S_elder' (by(with_reducible repeat (first|apply Kd.S_alloc|apply Kd.S_drewN|apply Kd.S_drew));exact HO284.out) (Kd.R_base ho8) hb);have n1_:=am (Kd.R_lower ho8 (below_size (by repeat (first|(with_reducible first|exact HB.out|apply below_alloc|apply pw_below_drewN|apply below_drew1|refine below_set ?_ (IsS58.ge HI280.out)|refine below_set ?_ GE279.out)|exact HB.out))));have n2_:=am (bM BK279.out hb);have n3_:=am (IsS58.below (by repeat (first|(with_reducible first|exact HI280.out|apply IsS58.alloc|apply IsS58.drewN|apply IsS58.drew|apply IsS58.set_1|apply IsS58.set_2|apply IsS58.far (hne:=NB280_279.out))|exact HI280.out)) hb);have n4_:=am (below_step (by repeat (first|(with_reducible first|exact HB.out|apply below_alloc|apply pw_below_drewN|apply below_drew1|refine below_set ?_ (IsS58.ge HI280.out)|refine below_set ?_ GE279.out)|exact HB.out)) hb);clear HO284 BK279;(try clear HI280);clear HB;have HO284:=n0_;have HO290:=n1_;have BK279:=n2_;have HI280:=n3_;have HB:=n4_;clear n0_ n1_ n2_ n3_ n4_;clear hb ho8;obtain⟨Ao9,co9,eo9⟩:=Kd.R_slice HO290.out;subst eo9)|((with_reducible refine gate_callee (f:=30) rfl ?_);refine goesA (some 12) rfl rfl Try.func30 #[.pointer (some ⟨gb280,0,none⟩),.slice Ao9 y288.length co9] rfl ?_;(with_reducible refine(spec_l1Cur_among.calls gb280 l0 t286 t287 _ _ y288 t291 t292 t293 w _ ?side1 ?side2 ?side3 ?side4 ?side5 A3.out).mono ?_);(case side1=>repeat (first|(with_reducible first|exact HI280.out|apply IsS58.alloc|apply IsS58.drewN|apply IsS58.drew|apply IsS58.set_1|apply IsS58.set_2|apply IsS58.far (hne:=NB280_279.out))|exact HI280.out));(case side2=>repeat (first|(with_reducible first|exact HB.out|apply below_alloc|apply pw_below_drewN|apply below_drew1|refine below_set ?_ (IsS58.ge HI280.out)|refine below_set ?_ GE279.out)|exact HB.out));(case side3=>exact bT HO290.out);(case side4=>exact(Kd.R_reads' HO290.out).2.1);(case side5=>exact far_slice (IsS58.own_ne HI280.out HO290.out (by decide)));rintro e w10 ⟨rfl,hi,hb,hk⟩;refine⟨_,rfl,?_⟩;have n0_:=am (KeepBut.blk hk (g':=gb279) (o:=.cells #[.int .i64 0,.slice none 0 0,.int .i64 0] 25 (0,0)) (bL BK279.out) NB279_280.out (by simp));have n1_:=am (Kd.S_mono (Kd.S_keep (IsS58.apartS (show IsS58 w _ gb280 l0 t286 t287 from by repeat (first|(with_reducible first|exact HI280.out|apply IsS58.alloc|apply IsS58.drewN|apply IsS58.drew|apply IsS58.set_1|apply IsS58.set_2|apply IsS58.far (hne:=NB280_279.out))|exact HI280.out)) (by(with_reducible repeat (first|apply Kd.S_alloc|apply Kd.S_drewN|apply Kd.S_drew));exact HO284.out) (by decide)) hk (fun _ h=>h.2)) (fun _ h=>h.1));have n2_:=am (Kd.R_mono (Kd.R_keep (IsS58.apart (show IsS58 w _ gb280 l0 t286 t287 from by repeat (first|(with_reducible first|exact HI280.out|apply IsS58.alloc|apply IsS58.drewN|apply IsS58.drew|apply IsS58.set_1|apply IsS58.set_2|apply IsS58.far (hne:=NB280_279.out))|exact HI280.out)) (bK HO290.out) (by decide)) hk (fun _ h=>h.2)) (fun _ h=>h.1));have n3_:=am (hb);have n4_:=am (hi);clear BK279 HO284 HO290 HB;(try clear HI280);have BK279:=n0_;have HO284:=n1_;have HO290:=n2_;have HB:=n3_;have HI280:=n4_;clear n0_ n1_ n2_ n3_ n4_;(try clear hb);(try clear hb2);(try clear hk);(try clear hi);have hnb11:=NB279_280.out;have hnc11:=NB280_279.out;obtain⟨hcz12_0,hcz12_1,hcz12_2⟩:=cC3 BK279.out;obtain⟨hfz12_0,hfz12_1,hfz12_2⟩:=cF3 BK279.out;obtain⟨Ao13,co13,eo13⟩:=Kd.S_slice HO284.out;subst eo13))
 refine bodyPost_ret (results_ct rfl _ _ gb279 25 #[.int .i64 t281,.slice Ao13 t282.length co13,.int .i64 t285] (0,0) _ rfl (by(with_reducible repeat (first|refine blk_drewN ?_ _|refine blk_drew ?_|refine blk_alloc ?_ _));apply bU3;(with_reducible repeat (first|refine blk_drewN ?_ _|refine blk_drew ?_|refine blk_alloc ?_ _));exact BK279.out) Try.underlying25 rfl (by kernel_rfl)) rfl ?_
 exact⟨_,by first|rfl|(simp[errW_none,errW_some]<;>rfl)|(simp[*,errW_none,errW_some]<;>rfl),by(with_reducible repeat (first|apply Kd.S_alloc|apply Kd.S_drewN|apply Kd.S_drew));exact Kd.S_mono (Kd.S_far (p:=⟨gb279,2,none⟩) (Kd.S_far (p:=⟨gb279,1,none⟩) (Kd.S_far (p:=⟨gb279,0,none⟩) (Kd.S_types HO284.out BK279.out (by decide)) (fun _ hk=>hk.2) (.int .i64 t281)) (fun _ hk=>hk.2) (.slice Ao13 t282.length co13)) (fun _ hk=>hk.2) (.int .i64 t285)) (fun _ hk=>trivial),by repeat (first|(with_reducible first|exact HB.out|apply below_alloc|apply pw_below_drewN|apply below_drew1|refine below_set ?_ (IsS58.ge HI280.out)|refine below_set ?_ GE279.out)|exact HB.out)⟩

/-! ### impl_within: function 22 -/
def impl_within.f (a0:Int) (a1:Int) (a2:Int):Option (Bool):=if a1≤a0 then (some (decide (a0≤a2))) else (some false)
set_option maxHeartbeats 8000000 in
set_option maxRecDepth 100000 in
theorem impl_within.calls (a0:Int) (a1:Int) (a2:Int) (r:Bool) (w:World) (h:impl_within.f a0 a1 a2=some r) :
  Calls Try.prog 22 #[.int .i64 a0,.int .i64 a1,.int .i64 a2] w fun e w'=>e=.returned (.bool r)∧Drawn0 w w':=by
 have H:(if a1≤a0 then (some (decide (a0≤a2))) else (some false))=some r:=h
 clear h
 by_cases c4:a1≤a0
 ·rw[if_pos c4] at H
  have c4b0:decide (a1≤a0)=true:=decide_eq_true c4
  clear c4
  obtain rfl:=Option.some.inj H
  go_enter Try.func22,Try.ntmps22
  go_wp2
  go_ret
  exact⟨bR,bW⟩
 ·rw[if_neg c4] at H
  have c4b0:decide (a1≤a0)=false:=decide_eq_false c4
  clear c4
  obtain rfl:=Option.some.inj H
  go_enter Try.func22,Try.ntmps22
  go_wp2
  go_ret
  exact⟨bR,bW⟩

/-! ### impl_isTime: function 23 -/
def impl_isTime.f (a0:Int):Option (Bool):=(impl_within.f a0 0 1000000).bind fun t294=>(some t294)
set_option maxHeartbeats 8000000 in
set_option maxRecDepth 100000 in
theorem impl_isTime.calls (a0:Int) (r:Bool) (w:World) (h:impl_isTime.f a0=some r) :
  Calls Try.prog 23 #[.int .i64 a0] w fun e w'=>e=.returned (.bool r)∧Drawn0 w w':=by
 have H:((impl_within.f a0 0 1000000).bind fun t294=>(some t294))=some r:=h
 clear h
 replace H:=bI_ H
 obtain⟨t294,A20,H⟩:=H
 have A2:=am A20
 clear A20
 obtain rfl:=Option.some.inj H
 go_enter Try.func23,Try.ntmps23
 go_wp2_with (first|((with_reducible refine gate_callee (f:=22) rfl ?_);refine goesA (some 4) rfl rfl Try.func22 #[.int .i64 a0,.int .i64 0,.int .i64 1000000] rfl ?_;(with_reducible refine(impl_within.calls a0 0 1000000 t294 _ A2.out).mono ?_);rintro e w' ⟨rfl,⟨nd,rfl⟩⟩;refine⟨_,rfl,?_⟩))
 go_ret
 exact⟨bR,bW⟩

-- NOT PRINTED: function 34 (slices_IndexFunc_int_int)

-- NOT PRINTED: function 24 (slices_ContainsFunc_int_int)

/-! ### impl_GoodTurns_lit1: function 25 -/
def impl_GoodTurns_lit1.f (a0:Int):Option (Bool):=(impl_within.f a0 1 50).bind fun t302=>(some (!t302))
set_option maxHeartbeats 8000000 in
set_option maxRecDepth 100000 in
theorem impl_GoodTurns_lit1.calls (a0:Int) (r:Bool) (w:World) (h:impl_GoodTurns_lit1.f a0=some r) :
  Calls Try.prog 25 #[.int .i64 a0] w fun e w'=>e=.returned (.bool r)∧Drawn0 w w':=by
 have H:((impl_within.f a0 1 50).bind fun t302=>(some (!t302)))=some r:=h
 clear h
 replace H:=bI_ H
 obtain⟨t302,A20,H⟩:=H
 have A2:=am A20
 clear A20
 obtain rfl:=Option.some.inj H
 go_enter Try.func25,Try.ntmps25
 go_wp2_with (first|((with_reducible refine gate_callee (f:=22) rfl ?_);refine goesA (some 4) rfl rfl Try.func22 #[.int .i64 a0,.int .i64 1,.int .i64 50] rfl ?_;(with_reducible refine(impl_within.calls a0 1 50 t302 _ A2.out).mono ?_);rintro e w' ⟨rfl,⟨nd,rfl⟩⟩;refine⟨_,rfl,?_⟩))
 go_ret
 exact⟨bR,bW⟩

/-! ### slices_IndexFunc_int_int_impl_GoodTurns_lit1: function 34 -/
def slices_IndexFunc_int_int_impl_GoodTurns_lit1.l0:Nat→List Int→Int→Int→Option (Int)
 | 0,_,_,_=>none
 | k+1,x0,x7,x8=>if x8 < x7 then (if 0≤x8 then (if x8 < (x0.length:Int) then ((impl_GoodTurns_lit1.f (rd x0 x8)).bind fun t304=>(if t304=true then (some x8) else (slices_IndexFunc_int_int_impl_GoodTurns_lit1.l0 k x0 x7 (wrap64 (x8+1))))) else (none)) else (none)) else (some (-1))
def slices_IndexFunc_int_int_impl_GoodTurns_lit1.f (k:Nat) (l0:List Int)  : Option (Int):=slices_IndexFunc_int_int_impl_GoodTurns_lit1.l0 k l0 (l0.length:Int) 0
theorem slices_IndexFunc_int_int_impl_GoodTurns_lit1.mono_l : ∀ k,(∀ y0 y1 y2,LeO (slices_IndexFunc_int_int_impl_GoodTurns_lit1.l0 k y0 y1 y2) (slices_IndexFunc_int_int_impl_GoodTurns_lit1.l0 (k+1) y0 y1 y2))
 | 0=>fun _ _ _ r h=>by simp[slices_IndexFunc_int_int_impl_GoodTurns_lit1.l0] at h
 | k+1=>by
  have ih0:=slices_IndexFunc_int_int_impl_GoodTurns_lit1.mono_l k
  ·intro y0 y1 y2
   unfold slices_IndexFunc_int_int_impl_GoodTurns_lit1.l0
   repeat' first
   | (with_reducible exact ih0 _ _ _)
   | (with_reducible exact LeO.refl _)
   | (with_reducible exact LeO.none _)
   | (with_reducible refine LeO.ite ?_ ?_)
   | (with_reducible refine LeO.bind ?_ (fun _ => ?_))
theorem slices_IndexFunc_int_int_impl_GoodTurns_lit1.mono : ∀ a0 k,LeO (slices_IndexFunc_int_int_impl_GoodTurns_lit1.f k a0) (slices_IndexFunc_int_int_impl_GoodTurns_lit1.f (k+1) a0):=by
 intro a0 k
 have ih0:=slices_IndexFunc_int_int_impl_GoodTurns_lit1.mono_l k
 unfold slices_IndexFunc_int_int_impl_GoodTurns_lit1.f
 repeat' first
  | (with_reducible exact ih0 _ _ _)
  | (with_reducible exact LeO.refl _)
  | (with_reducible exact LeO.none _)
  | (with_reducible refine LeO.ite ?_ ?_)
  | (with_reducible refine LeO.bind ?_ (fun _ => ?_))
set_option maxHeartbeats 8000000 in
set_option maxRecDepth 100000 in
theorem slices_IndexFunc_int_int_impl_GoodTurns_lit1.calls (k:Nat) (A0:Option Addr) (c0:Nat) (l0:List Int)  (r:Int) (w:World) (hr0:Kd.C (Kd.int .i64) w A0 l0.length l0) (hc0:l0.length≤c0) (h:slices_IndexFunc_int_int_impl_GoodTurns_lit1.f k l0=some r) :
  Calls Try.prog 34 #[.slice A0 l0.length c0,(.func (.func 25) #[] #[])] w fun e w'=>e=.returned (.int .i64 r)∧Drawn0 w w':=by
 have HR0:=am hr0
 have HC0:=am hc0
 clear hr0 hc0
 have H:(slices_IndexFunc_int_int_impl_GoodTurns_lit1.l0 k l0 (l0.length:Int) 0)=some r:=h
 clear h
 have H':=am H
 clear H
 go_enter Try.func34,Try.ntmps34
 go_wp2
 go_loopg [8] k (fun kq v8 w' => ∃ (x8_1:Int),v8=.int .i64 x8_1∧Aside0 (slices_IndexFunc_int_int_impl_GoodTurns_lit1.l0 kq l0 (l0.length:Int) x8_1=some r)∧Aside0 (kq≤k)∧Drawn0 w w')
 case atStart=>exact⟨(0),(bR),H',⟨Nat.le_refl _⟩,bW⟩
 case round =>
  clear H'
  try clear p2
  obtain⟨x8_1,rfl,HA,HK1,⟨m1,rfl⟩⟩:=hrel
  cases gk with
  | zero=>exact absurd HA.out (by simp[slices_IndexFunc_int_int_impl_GoodTurns_lit1.l0])
  | succ k1 =>
   have H:=HA.out
   clear HA
   simp only[slices_IndexFunc_int_int_impl_GoodTurns_lit1.l0] at H
   by_cases c3:x8_1 < (l0.length:Int)
   ·rw[if_pos c3] at H
    have c3b0:decide (x8_1 < (l0.length:Int))=true:=decide_eq_true c3
    clear c3
    by_cases c4:0≤x8_1
    ·rw[if_pos c4] at H
     have c4b0:decide (0≤x8_1)=true:=decide_eq_true c4
     clear c4
     by_cases c5:x8_1 < (l0.length:Int)
     ·rw[if_pos c5] at H
      have c5b0:decide (x8_1 < (l0.length:Int))=true:=decide_eq_true c5
      clear c5
      replace H:=bI_ H
      obtain⟨t304,A60,H⟩:=H
      have A6:=am A60
      clear A60
      by_cases c7:t304=true
      ·subst c7
       have H1:(some x8_1)=some r:=by rw[if_pos rfl] at H;exact H
       clear H
       have H:=H1
       clear H1
       obtain rfl:=Option.some.inj H
       have p303:0≤(x8_1:Int):=bD_
       have q303:x8_1 < (l0.length:Int):=bD_
       obtain⟨ad303,e303,hx303_0⟩:=Kd.at_int HR0.out x8_1 p303 q303
       cases e303
       replace p303:=eq_true p303
       replace q303:=eq_true q303
       go_wp2_with (first|(go_at_call 25;(with_reducible refine(impl_GoodTurns_lit1.calls (rd l0 x8_1) true _ A6.out).mono ?_);rintro e w' ⟨rfl,⟨nd,rfl⟩⟩))
       go_ret
       exact⟨bR,bW⟩
      ·replace c7:=Bool.eq_false_iff.mpr c7
       subst c7
       have H1:(slices_IndexFunc_int_int_impl_GoodTurns_lit1.l0 k1 l0 (l0.length:Int) (wrap64 (x8_1+1)))=some r:=by rw[if_neg (show ¬ (false=true) by decide)] at H;exact H
       clear H
       have H:=H1
       clear H1
       have H':=am H
       clear H
       have p303:0≤(x8_1:Int):=bD_
       have q303:x8_1 < (l0.length:Int):=bD_
       obtain⟨ad303,e303,hx303_0⟩:=Kd.at_int HR0.out x8_1 p303 q303
       cases e303
       replace p303:=eq_true p303
       replace q303:=eq_true q303
       go_wp2_with (first|(go_at_call 25;(with_reducible refine(impl_GoodTurns_lit1.calls (rd l0 x8_1) false _ A6.out).mono ?_);rintro e w' ⟨rfl,⟨nd,rfl⟩⟩))
       go_roundg k1
       case measure=>have:=HK1.out;omega
       case rel=>exact⟨(wrap64 (x8_1+1)),(bR),H',⟨by have:=HK1.out;omega⟩,bW⟩
     ·rw[if_neg c5] at H
      exact absurd H (by simp)
    ·rw[if_neg c4] at H
     exact absurd H (by simp)
   ·rw[if_neg c3] at H
    have c3b0:decide (x8_1 < (l0.length:Int))=false:=decide_eq_false c3
    clear c3
    obtain rfl:=Option.some.inj H
    go_wp2
    go_ret
    exact⟨bR,bW⟩

/-! ### slices_ContainsFunc_int_int_impl_GoodTurns_lit1: function 24 -/
def slices_ContainsFunc_int_int_impl_GoodTurns_lit1.f (k:Nat) (l0:List Int)  : Option (Bool):=(slices_IndexFunc_int_int_impl_GoodTurns_lit1.f k l0).bind fun t305=>(some (decide (t305 ≥ 0)))
theorem slices_ContainsFunc_int_int_impl_GoodTurns_lit1.mono : ∀ a0 k,LeO (slices_ContainsFunc_int_int_impl_GoodTurns_lit1.f k a0) (slices_ContainsFunc_int_int_impl_GoodTurns_lit1.f (k+1) a0):=by
 intro a0 k
 unfold slices_ContainsFunc_int_int_impl_GoodTurns_lit1.f
 repeat' first
  | (with_reducible exact slices_IndexFunc_int_int_impl_GoodTurns_lit1.mono _ _)
  | (with_reducible exact LeO.refl _)
  | (with_reducible exact LeO.none _)
  | (with_reducible refine LeO.ite ?_ ?_)
  | (with_reducible refine LeO.bind ?_ (fun _ => ?_))
set_option maxHeartbeats 8000000 in
set_option maxRecDepth 100000 in
theorem slices_ContainsFunc_int_int_impl_GoodTurns_lit1.calls (k:Nat) (A0:Option Addr) (c0:Nat) (l0:List Int)  (r:Bool) (w:World) (hr0:Kd.C (Kd.int .i64) w A0 l0.length l0) (hc0:l0.length≤c0) (h:slices_ContainsFunc_int_int_impl_GoodTurns_lit1.f k l0=some r) :
  Calls Try.prog 24 #[.slice A0 l0.length c0,(.func (.func 25) #[] #[])] w fun e w'=>e=.returned (.bool r)∧Drawn0 w w':=by
 have HR0:=am hr0
 have HC0:=am hc0
 clear hr0 hc0
 have H:((slices_IndexFunc_int_int_impl_GoodTurns_lit1.f k l0).bind fun t305=>(some (decide (t305 ≥ 0))))=some r:=h
 clear h
 replace H:=bI_ H
 obtain⟨t305,A30,H⟩:=H
 have A3:=am A30
 clear A30
 obtain rfl:=Option.some.inj H
 go_enter Try.func24,Try.ntmps24
 go_wp2_with (first|((with_reducible refine gate_callee (f:=34) rfl ?_);refine goesA (some 7) rfl rfl Try.func34 #[.slice A0 l0.length c0,(.func (.func 25) #[] #[])] rfl ?_;(with_reducible refine(slices_IndexFunc_int_int_impl_GoodTurns_lit1.calls k _ _ l0  t305 _ ?side1 ?side2 A3.out).mono ?_);(case side1=>repeat (first|exact HR0.out|(with_reducible refine Kd.C_alloc ?_ _)|(with_reducible refine Kd.C_drewN ?_ _)|(with_reducible refine Kd.C_drew ?_)));(case side2=>exact HC0.out);rintro e w' ⟨rfl,⟨nd,rfl⟩⟩;refine⟨_,rfl,?_⟩))
 go_ret
 exact⟨bR,bW⟩

/-! ### impl_GoodTurns: function 10 -/
mutual
def impl_GoodTurns.j0:Nat→Bool→Int→List (S34)→Int→Option (Bool)
 | 0,_,_,_,_=>none
 | k+1,x21,x307000,x307001,x307002=>if x21=true then (some false) else (impl_GoodTurns.l0 k x307001 (x307001.length:Int) 0)
def impl_GoodTurns.l0:Nat→List (S34)→Int→Int→Option (Bool)
 | 0,_,_,_=>none
 | k+1,x23,x24,x25=>if x25 < x24 then (if 0≤x25 then (if x25 < (x23.length:Int) then (if (((rd_T34 x23 x25).f0).length:Int) > 40 then (some false) else ((slices_ContainsFunc_int_int_impl_GoodTurns_lit1.f k ((rd_T34 x23 x25).f0)).bind fun t312=>(if t312=true then (some false) else ((impl_within.f ((rd_T34 x23 x25).f1) 0 100).bind fun t313=>(if t313=true then ((impl_isTime.f ((rd_T34 x23 x25).f2)).bind fun t314=>(if t314=true then (if (((rd_T34 x23 x25).f0).length:Int)=0 then (if ((rd_T34 x23 x25).f1)=0 then (impl_GoodTurns.l0 k x23 x24 (wrap64 (x25+1))) else (some false)) else (impl_GoodTurns.l0 k x23 x24 (wrap64 (x25+1)))) else (some false))) else (some false)))))) else (none)) else (none)) else (some true)
end
def impl_GoodTurns.f (k:Nat) (a0_0:Int) (l0_1:List (S34)) (a0_2:Int):Option (Bool):=(impl_within.f a0_0 1 50).bind fun t307=>(if t307=true then ((impl_within.f (l0_1.length:Int) 1 6).bind fun t308=>(if t308=true then ((impl_isTime.f a0_2).bind fun t309=>(impl_GoodTurns.j0 k (!t309) a0_0 l0_1 a0_2)) else (impl_GoodTurns.j0 k true a0_0 l0_1 a0_2))) else (impl_GoodTurns.j0 k true a0_0 l0_1 a0_2))
theorem impl_GoodTurns.mono_l : ∀ k,(∀ y0 y1 y2 y3,LeO (impl_GoodTurns.j0 k y0 y1 y2 y3) (impl_GoodTurns.j0 (k+1) y0 y1 y2 y3))∧(∀ y0 y1 y2,LeO (impl_GoodTurns.l0 k y0 y1 y2) (impl_GoodTurns.l0 (k+1) y0 y1 y2))
 | 0=>⟨fun _ _ _ _ r h=>by simp[impl_GoodTurns.j0] at h,fun _ _ _ r h=>by simp[impl_GoodTurns.l0] at h⟩
 | k+1=>by
  obtain⟨ih0,ih1⟩:=impl_GoodTurns.mono_l k
  refine⟨?_,?_⟩
  ·intro y0 y1 y2 y3
   unfold impl_GoodTurns.j0
   repeat' first
   | (with_reducible exact ih0 _ _ _ _)
   | (with_reducible exact ih1 _ _ _)
   | (with_reducible exact slices_ContainsFunc_int_int_impl_GoodTurns_lit1.mono _ _)
   | (with_reducible exact LeO.refl _)
   | (with_reducible exact LeO.none _)
   | (with_reducible refine LeO.ite ?_ ?_)
   | (with_reducible refine LeO.bind ?_ (fun _ => ?_))
  ·intro y0 y1 y2
   unfold impl_GoodTurns.l0
   repeat' first
   | (with_reducible exact ih0 _ _ _ _)
   | (with_reducible exact ih1 _ _ _)
   | (with_reducible exact slices_ContainsFunc_int_int_impl_GoodTurns_lit1.mono _ _)
   | (with_reducible exact LeO.refl _)
   | (with_reducible exact LeO.none _)
   | (with_reducible refine LeO.ite ?_ ?_)
   | (with_reducible refine LeO.bind ?_ (fun _ => ?_))
theorem impl_GoodTurns.mono : ∀ a0 a1 a2 k,LeO (impl_GoodTurns.f k a0 a1 a2) (impl_GoodTurns.f (k+1) a0 a1 a2):=by
 intro a0 a1 a2 k
 obtain⟨ih0,ih1⟩:=impl_GoodTurns.mono_l k
 unfold impl_GoodTurns.f
 repeat' first
  | (with_reducible exact ih0 _ _ _ _)
  | (with_reducible exact ih1 _ _ _)
  | (with_reducible exact slices_ContainsFunc_int_int_impl_GoodTurns_lit1.mono _ _)
  | (with_reducible exact LeO.refl _)
  | (with_reducible exact LeO.none _)
  | (with_reducible refine LeO.ite ?_ ?_)
  | (with_reducible refine LeO.bind ?_ (fun _ => ?_))
set_option maxHeartbeats 8000000 in
set_option maxRecDepth 100000 in
theorem impl_GoodTurns.calls (k:Nat) (a0_0:Int) (A0_1:Option Addr) (c0_1:Nat) (l0_1:List (S34)) (a0_2:Int) (r:Bool) (w:World) (hr0_1:Kd.C k34 w A0_1 l0_1.length l0_1) (hc0_1:l0_1.length≤c0_1) (h:impl_GoodTurns.f k a0_0 l0_1 a0_2=some r) :
  Calls Try.prog 10 #[.agg #[.int .i64 a0_0,.slice A0_1 l0_1.length c0_1,.int .i64 a0_2]] w fun e w'=>e=.returned (.bool r)∧Below w.heap.size w w':=by
 have hu25:=Try.underlying25
 have hu34:=Try.underlying34
 have HR0_1:=am hr0_1
 have HC0_1:=am hc0_1
 clear hr0_1 hc0_1
 have HB:=am (Below.refl w.heap.size w)
 have H:((impl_within.f a0_0 1 50).bind fun t307=>(if t307=true then ((impl_within.f (l0_1.length:Int) 1 6).bind fun t308=>(if t308=true then ((impl_isTime.f a0_2).bind fun t309=>(impl_GoodTurns.j0 k (!t309) a0_0 l0_1 a0_2)) else (impl_GoodTurns.j0 k true a0_0 l0_1 a0_2))) else (impl_GoodTurns.j0 k true a0_0 l0_1 a0_2)))=some r:=h
 clear h
 have HC2:=am H
 clear H
 go_enter Try.func10,Try.ntmps10
 go_upto_region 1 with (first|((with_reducible refine gate_dst (N:=1) rfl ?_);(try (refine gate_guard (by rfl) ?_;dsimp only));refine box_event ?hg (N:=1) ?hd (cs:=#[.int .i64 a0_0,.slice A0_1 l0_1.length c0_1,.int .i64 a0_2]) (t:=25) ?hr ?_;(case hd=>rfl);(case hg=>rfl);(case hr=>first|(go_simp;done)|(go_simp;rfl));intro gb306 hg w3 hbox hb;have n0_:=am (below_step (bB) hb);have n1_:=am (hbox);have n2_:=am ((bG:w.heap.size≤gb306));have n3_:=am ((bG:w.heap.size≤gb306));clear HB;have HB:=n0_;have BK306:=n1_;have GW306:=n2_;have GE306:=n3_;clear n0_ n1_ n2_ n3_;clear hb hbox hg))
 (try simp only[Act.put,zA,zB,zC])
 go_cut [21] (fun v21 wc => ∃ (kq:Nat) (x21_1:Bool),v21=.bool x21_1∧Aside0 (impl_GoodTurns.j0 kq x21_1 a0_0 l0_1 a0_2=some r)∧Aside0 (kq≤k)∧Aside0 (wc.heap[gb306]?=some (.cells #[.int .i64 a0_0,(.slice A0_1 l0_1.length c0_1),.int .i64 a0_2] 25 (0,0)))∧Aside0 (Below w.heap.size w wc))
 case first =>
  have H:=HC2.out
  clear HC2
  replace H:=bI_ H
  obtain⟨t307,A40,H⟩:=H
  have A4:=am A40
  clear A40
  by_cases c5:t307=true
  ·subst c5
   have H1:((impl_within.f (l0_1.length:Int) 1 6).bind fun t308=>(if t308=true then ((impl_isTime.f a0_2).bind fun t309=>(impl_GoodTurns.j0 k (!t309) a0_0 l0_1 a0_2)) else (impl_GoodTurns.j0 k true a0_0 l0_1 a0_2)))=some r:=by rw[if_pos rfl] at H;exact H
   clear H
   have H:=H1
   clear H1
   replace H:=bI_ H
   obtain⟨t308,A60,H⟩:=H
   have A6:=am A60
   clear A60
   by_cases c7:t308=true
   ·subst c7
    have H1:((impl_isTime.f a0_2).bind fun t309=>(impl_GoodTurns.j0 k (!t309) a0_0 l0_1 a0_2))=some r:=by rw[if_pos rfl] at H;exact H
    clear H
    have H:=H1
    clear H1
    replace H:=bI_ H
    obtain⟨t309,A80,H⟩:=H
    have A8:=am A80
    clear A80
    have H':=am H
    clear H
    obtain⟨hcz9_0,hcz9_1,hcz9_2⟩:=cC3 BK306.out
    obtain⟨hfz9_0,hfz9_1,hfz9_2⟩:=cF3 BK306.out
    go_wp2_with (first|((with_reducible refine gate_callee (f:=22) rfl ?_);refine goesA (some 7) rfl rfl Try.func22 #[.int .i64 a0_0,.int .i64 1,.int .i64 50] rfl ?_;(with_reducible refine(impl_within.calls a0_0 1 50 true _ A4.out).mono ?_);rintro e w' ⟨rfl,⟨nd,rfl⟩⟩;refine⟨_,rfl,?_⟩)|(go_at_call 22;(with_reducible refine(impl_within.calls (l0_1.length:Int) 1 6 true _ A6.out).mono ?_);rintro e w' ⟨rfl,⟨nd,rfl⟩⟩)|(go_at_call 23;(with_reducible refine(impl_isTime.calls a0_2 t309 _ A8.out).mono ?_);rintro e w' ⟨rfl,⟨nd,rfl⟩⟩))
    go_meet
    case rel=>exact⟨_,(!t309),(bR),H',⟨by first|omega|exact Nat.le_refl _⟩,⟨by(with_reducible repeat (first|refine blk_drewN ?_ _|refine blk_drew ?_|refine blk_alloc ?_ _));exact BK306.out⟩,⟨bS GE306.out⟩⟩
   ·replace c7:=Bool.eq_false_iff.mpr c7
    subst c7
    have H1:(impl_GoodTurns.j0 k true a0_0 l0_1 a0_2)=some r:=by rw[if_neg (show ¬ (false=true) by decide)] at H;exact H
    clear H
    have H:=H1
    clear H1
    have H':=am H
    clear H
    obtain⟨hcz10_0,hcz10_1,hcz10_2⟩:=cC3 BK306.out
    obtain⟨hfz10_0,hfz10_1,hfz10_2⟩:=cF3 BK306.out
    go_wp2_with (first|((with_reducible refine gate_callee (f:=22) rfl ?_);refine goesA (some 7) rfl rfl Try.func22 #[.int .i64 a0_0,.int .i64 1,.int .i64 50] rfl ?_;(with_reducible refine(impl_within.calls a0_0 1 50 true _ A4.out).mono ?_);rintro e w' ⟨rfl,⟨nd,rfl⟩⟩;refine⟨_,rfl,?_⟩)|(go_at_call 22;(with_reducible refine(impl_within.calls (l0_1.length:Int) 1 6 false _ A6.out).mono ?_);rintro e w' ⟨rfl,⟨nd,rfl⟩⟩))
    go_meet
    case rel=>exact⟨_,(true),(bR),H',⟨by first|omega|exact Nat.le_refl _⟩,⟨by(with_reducible repeat (first|refine blk_drewN ?_ _|refine blk_drew ?_|refine blk_alloc ?_ _));exact BK306.out⟩,⟨bS GE306.out⟩⟩
  ·replace c5:=Bool.eq_false_iff.mpr c5
   subst c5
   have H1:(impl_GoodTurns.j0 k true a0_0 l0_1 a0_2)=some r:=by rw[if_neg (show ¬ (false=true) by decide)] at H;exact H
   clear H
   have H:=H1
   clear H1
   have H':=am H
   clear H
   obtain⟨hcz11_0,hcz11_1,hcz11_2⟩:=cC3 BK306.out
   obtain⟨hfz11_0,hfz11_1,hfz11_2⟩:=cF3 BK306.out
   go_wp2_with (first|((with_reducible refine gate_callee (f:=22) rfl ?_);refine goesA (some 7) rfl rfl Try.func22 #[.int .i64 a0_0,.int .i64 1,.int .i64 50] rfl ?_;(with_reducible refine(impl_within.calls a0_0 1 50 false _ A4.out).mono ?_);rintro e w' ⟨rfl,⟨nd,rfl⟩⟩;refine⟨_,rfl,?_⟩))
   go_meet
   case rel=>exact⟨_,(true),(bR),H',⟨by first|omega|exact Nat.le_refl _⟩,⟨by(with_reducible repeat (first|refine blk_drewN ?_ _|refine blk_drew ?_|refine blk_alloc ?_ _));exact BK306.out⟩,⟨bS GE306.out⟩⟩
 case rest =>
  clear HC2
  try clear c1
  try clear c2
  try clear p2
  try clear c5
  try clear c7
  try clear c10
  try clear hcz10_0 hcz10_1 hcz10_2
  try clear hcz11_0 hcz11_1 hcz11_2
  try clear hcz9_0 hcz9_1 hcz9_2
  try clear hfz10_0 hfz10_1 hfz10_2
  try clear hfz11_0 hfz11_1 hfz11_2
  try clear hfz9_0 hfz9_1 hfz9_2
  obtain⟨kq,x21_1,rfl,HA,HJ1,BK306,HB⟩:=hcut
  cases kq with
  | zero=>exact absurd HA.out (by simp[impl_GoodTurns.j0])
  | succ kj1 =>
   have H:=HA.out
   clear HA
   simp only[impl_GoodTurns.j0] at H
   by_cases c12:x21_1=true
   ·subst c12
    have H1:(some false)=some r:=by rw[if_pos rfl] at H;exact H
    clear H
    have H:=H1
    clear H1
    obtain rfl:=Option.some.inj H
    go_wp2
    go_ret
    exact⟨bE,bS GE306.out⟩
   ·replace c12:=Bool.eq_false_iff.mpr c12
    subst c12
    have H1:(impl_GoodTurns.l0 kj1 l0_1 (l0_1.length:Int) 0)=some r:=by rw[if_neg (show ¬ (false=true) by decide)] at H;exact H
    clear H
    have H:=H1
    clear H1
    have H':=am H
    clear H
    obtain⟨hcz13_0,hcz13_1,hcz13_2⟩:=cC3 BK306.out
    obtain⟨hfz13_0,hfz13_1,hfz13_2⟩:=cF3 BK306.out
    go_wp2
    go_loopg [25] kj1 (fun kq v25 w' => ∃ (x25_2:Int),v25=.int .i64 x25_2∧Aside0 (impl_GoodTurns.l0 kq l0_1 (l0_1.length:Int) x25_2=some r)∧Aside0 (kq≤kj1)∧Aside0 (w'.heap[gb306]?=some (.cells #[.int .i64 a0_0,(.slice A0_1 l0_1.length c0_1),.int .i64 a0_2] 25 (0,0)))∧Aside0 (Below w.heap.size w w'))
    case atStart=>exact⟨(0),(bR),H',⟨Nat.le_refl _⟩,⟨by(with_reducible repeat (first|refine blk_drewN ?_ _|refine blk_drew ?_|refine blk_alloc ?_ _));exact BK306.out⟩,⟨bS GE306.out⟩⟩
    case round =>
     clear H'
     try clear c1
     try clear c2
     try clear p2
     try clear c5
     try clear c7
     try clear c10
     try clear c12
     try clear hcz10_0 hcz10_1 hcz10_2
     try clear hcz11_0 hcz11_1 hcz11_2
     try clear hcz13_0 hcz13_1 hcz13_2
     try clear hcz9_0 hcz9_1 hcz9_2
     try clear hfz10_0 hfz10_1 hfz10_2
     try clear hfz11_0 hfz11_1 hfz11_2
     try clear hfz13_0 hfz13_1 hfz13_2
     try clear hfz9_0 hfz9_1 hfz9_2
     try clear p2
     obtain⟨x25_2,rfl,HA,HK2,BK306,HB⟩:=hrel
     cases gk with
     | zero=>exact absurd HA.out (by simp[impl_GoodTurns.l0])
     | succ k2 =>
      have H:=HA.out
      clear HA
      simp only[impl_GoodTurns.l0] at H
      by_cases c14:x25_2 < (l0_1.length:Int)
      ·rw[if_pos c14] at H
       have c14b0:decide (x25_2 < (l0_1.length:Int))=true:=decide_eq_true c14
       clear c14
       by_cases c15:0≤x25_2
       ·rw[if_pos c15] at H
        have c15b0:decide (0≤x25_2)=true:=decide_eq_true c15
        clear c15
        by_cases c16:x25_2 < (l0_1.length:Int)
        ·rw[if_pos c16] at H
         have c16b0:decide (x25_2 < (l0_1.length:Int))=true:=decide_eq_true c16
         clear c16
         by_cases c17:(((rd_T34 l0_1 x25_2).f0).length:Int) > 40
         ·rw[if_pos c17] at H
          have c17b0:decide (40 < (((rd_T34 l0_1 x25_2).f0).length:Int))=true:=decide_eq_true c17
          have c17b1:decide (40 < ((rd_T34 l0_1 x25_2).f0).length)=true:=decide_eq_true (by omega)
          clear c17
          obtain rfl:=Option.some.inj H
          have p310:0≤(x25_2:Int):=bD_
          have q310:x25_2 < (l0_1.length:Int):=bD_
          obtain⟨ad310,A310_0,c310_0,e310,hx310_0,hx310_1,hx310_2,hl310_0,hi310_0⟩:=at_T34 HR0_1.out x25_2 p310 q310
          cases e310
          replace hx310_0:=bQ_ HB.out hx310_0
          replace hx310_1:=bQ_ HB.out hx310_1
          replace hx310_2:=bQ_ HB.out hx310_2
          have HR310_0:=am hi310_0
          have HC310_0:=am hl310_0
          clear hi310_0 hl310_0
          replace p310:=eq_true p310
          replace q310:=eq_true q310
          go_wp2_with (first|((with_reducible refine gate_dst (N:=4) rfl ?_);(try (refine gate_guard (by rfl) ?_;dsimp only));refine box_event ?hg (N:=4) ?hd (cs:=#[.slice none 0 0,.int .i64 0,.int .i64 0]) (t:=34) ?hr ?_;(case hd=>rfl);(case hg=>rfl);(case hr=>first|(go_simp;done)|(go_simp;rfl));intro gb311 hg w18 hbox hb;have n0_:=am (bM BK306.out hb);have n1_:=am (below_step (bS GE306.out) hb);have n2_:=am (hbox);have n3_:=am ((by rw[hg];exact(below_size (bS GE306.out)):w.heap.size≤gb311));have n4_:=am ((by rw[hg];exact(below_size (bS GE306.out)):w.heap.size≤gb311));have n5_:=am ((bN BK306.out hg:gb306≠gb311));have n6_:=am ((bO BK306.out hg:gb311≠gb306));clear BK306 HB;have BK306:=n0_;have HB:=n1_;have BK311:=n2_;have GW311:=n3_;have GE311:=n4_;have NB306_311:=n5_;have NB311_306:=n6_;clear n0_ n1_ n2_ n3_ n4_ n5_ n6_;clear hb hbox hg;have hnb19:=NB311_306.out;have hnc19:=NB306_311.out;obtain⟨hcz20_0,hcz20_1,hcz20_2⟩:=cC3 BK311.out;obtain⟨hfz20_0,hfz20_1,hfz20_2⟩:=cF3 BK311.out))
          go_ret
          exact⟨bE,bS2 GE306.out GE311.out⟩
         ·rw[if_neg c17] at H
          have c17b0:decide (40 < (((rd_T34 l0_1 x25_2).f0).length:Int))=false:=decide_eq_false c17
          have c17b1:decide (40 < ((rd_T34 l0_1 x25_2).f0).length)=false:=decide_eq_false (by omega)
          clear c17
          replace H:=bI_ H
          obtain⟨t312,A210,H⟩:=H
          have A21:=am A210
          clear A210
          by_cases c22:t312=true
          ·subst c22
           have H1:(some false)=some r:=by rw[if_pos rfl] at H;exact H
           clear H
           have H:=H1
           clear H1
           obtain rfl:=Option.some.inj H
           have p310:0≤(x25_2:Int):=bD_
           have q310:x25_2 < (l0_1.length:Int):=bD_
           obtain⟨ad310,A310_0,c310_0,e310,hx310_0,hx310_1,hx310_2,hl310_0,hi310_0⟩:=at_T34 HR0_1.out x25_2 p310 q310
           cases e310
           replace hx310_0:=bQ_ HB.out hx310_0
           replace hx310_1:=bQ_ HB.out hx310_1
           replace hx310_2:=bQ_ HB.out hx310_2
           have HR310_0:=am hi310_0
           have HC310_0:=am hl310_0
           clear hi310_0 hl310_0
           replace p310:=eq_true p310
           replace q310:=eq_true q310
           go_wp2_with (first|((with_reducible refine gate_dst (N:=4) rfl ?_);(try (refine gate_guard (by rfl) ?_;dsimp only));refine box_event ?hg (N:=4) ?hd (cs:=#[.slice none 0 0,.int .i64 0,.int .i64 0]) (t:=34) ?hr ?_;(case hd=>rfl);(case hg=>rfl);(case hr=>first|(go_simp;done)|(go_simp;rfl));intro gb311 hg w23 hbox hb;have n0_:=am (bM BK306.out hb);have n1_:=am (below_step (bS GE306.out) hb);have n2_:=am (hbox);have n3_:=am ((by rw[hg];exact(below_size (bS GE306.out)):w.heap.size≤gb311));have n4_:=am ((by rw[hg];exact(below_size (bS GE306.out)):w.heap.size≤gb311));have n5_:=am ((bN BK306.out hg:gb306≠gb311));have n6_:=am ((bO BK306.out hg:gb311≠gb306));clear BK306 HB;have BK306:=n0_;have HB:=n1_;have BK311:=n2_;have GW311:=n3_;have GE311:=n4_;have NB306_311:=n5_;have NB311_306:=n6_;clear n0_ n1_ n2_ n3_ n4_ n5_ n6_;clear hb hbox hg;have hnb24:=NB311_306.out;have hnc24:=NB306_311.out;obtain⟨hcz25_0,hcz25_1,hcz25_2⟩:=cC3 BK311.out;obtain⟨hfz25_0,hfz25_1,hfz25_2⟩:=cF3 BK311.out)|(go_at_call 24;(with_reducible refine(slices_ContainsFunc_int_int_impl_GoodTurns_lit1.calls k2 _ _ ((rd_T34 l0_1 x25_2).f0)  true _ ?side1 ?side2 A21.out).mono ?_);(case side1=>exact Kd.C_below HR310_0.out (bS2 GE306.out GE311.out));(case side2=>exact HC310_0.out);rintro e w' ⟨rfl,⟨nd,rfl⟩⟩))
           go_ret
           exact⟨bE,bS2 GE306.out GE311.out⟩
          ·replace c22:=Bool.eq_false_iff.mpr c22
           subst c22
           have H1:((impl_within.f ((rd_T34 l0_1 x25_2).f1) 0 100).bind fun t313=>(if t313=true then ((impl_isTime.f ((rd_T34 l0_1 x25_2).f2)).bind fun t314=>(if t314=true then (if (((rd_T34 l0_1 x25_2).f0).length:Int)=0 then (if ((rd_T34 l0_1 x25_2).f1)=0 then (impl_GoodTurns.l0 k2 l0_1 (l0_1.length:Int) (wrap64 (x25_2+1))) else (some false)) else (impl_GoodTurns.l0 k2 l0_1 (l0_1.length:Int) (wrap64 (x25_2+1)))) else (some false))) else (some false)))=some r:=by rw[if_neg (show ¬ (false=true) by decide)] at H;exact H
           clear H
           have H:=H1
           clear H1
           replace H:=bI_ H
           obtain⟨t313,A260,H⟩:=H
           have A26:=am A260
           clear A260
           by_cases c27:t313=true
           ·subst c27
            have H1:((impl_isTime.f ((rd_T34 l0_1 x25_2).f2)).bind fun t314=>(if t314=true then (if (((rd_T34 l0_1 x25_2).f0).length:Int)=0 then (if ((rd_T34 l0_1 x25_2).f1)=0 then (impl_GoodTurns.l0 k2 l0_1 (l0_1.length:Int) (wrap64 (x25_2+1))) else (some false)) else (impl_GoodTurns.l0 k2 l0_1 (l0_1.length:Int) (wrap64 (x25_2+1)))) else (some false)))=some r:=by rw[if_pos rfl] at H;exact H
            clear H
            have H:=H1
            clear H1
            replace H:=bI_ H
            obtain⟨t314,A280,H⟩:=H
            have A28:=am A280
            clear A280
            by_cases c29:t314=true
            ·subst c29
             have H1:(if (((rd_T34 l0_1 x25_2).f0).length:Int)=0 then (if ((rd_T34 l0_1 x25_2).f1)=0 then (impl_GoodTurns.l0 k2 l0_1 (l0_1.length:Int) (wrap64 (x25_2+1))) else (some false)) else (impl_GoodTurns.l0 k2 l0_1 (l0_1.length:Int) (wrap64 (x25_2+1))))=some r:=by rw[if_pos rfl] at H;exact H
             clear H
             have H:=H1
             clear H1
             by_cases c30:(((rd_T34 l0_1 x25_2).f0).length:Int)=0
             ·rw[if_pos c30] at H
              have c30b0:((((rd_T34 l0_1 x25_2).f0).length:Int) == 0)=true:=beq_iff_eq.mpr c30
              have c30b1:((((rd_T34 l0_1 x25_2).f0).length:Int) != 0)=false:=bne_eq_false_iff_eq.mpr c30
              clear c30
              by_cases c31:((rd_T34 l0_1 x25_2).f1)=0
              ·rw[if_pos c31] at H
               have c31b0:(((rd_T34 l0_1 x25_2).f1) == 0)=true:=beq_iff_eq.mpr c31
               have c31b1:(((rd_T34 l0_1 x25_2).f1) != 0)=false:=bne_eq_false_iff_eq.mpr c31
               clear c31
               have H':=am H
               clear H
               have p310:0≤(x25_2:Int):=bD_
               have q310:x25_2 < (l0_1.length:Int):=bD_
               obtain⟨ad310,A310_0,c310_0,e310,hx310_0,hx310_1,hx310_2,hl310_0,hi310_0⟩:=at_T34 HR0_1.out x25_2 p310 q310
               cases e310
               replace hx310_0:=bQ_ HB.out hx310_0
               replace hx310_1:=bQ_ HB.out hx310_1
               replace hx310_2:=bQ_ HB.out hx310_2
               have HR310_0:=am hi310_0
               have HC310_0:=am hl310_0
               clear hi310_0 hl310_0
               replace p310:=eq_true p310
               replace q310:=eq_true q310
               go_wp2_with (first|((with_reducible refine gate_dst (N:=4) rfl ?_);(try (refine gate_guard (by rfl) ?_;dsimp only));refine box_event ?hg (N:=4) ?hd (cs:=#[.slice none 0 0,.int .i64 0,.int .i64 0]) (t:=34) ?hr ?_;(case hd=>rfl);(case hg=>rfl);(case hr=>first|(go_simp;done)|(go_simp;rfl));intro gb311 hg w32 hbox hb;have n0_:=am (bM BK306.out hb);have n1_:=am (below_step (bS GE306.out) hb);have n2_:=am (hbox);have n3_:=am ((by rw[hg];exact(below_size (bS GE306.out)):w.heap.size≤gb311));have n4_:=am ((by rw[hg];exact(below_size (bS GE306.out)):w.heap.size≤gb311));have n5_:=am ((bN BK306.out hg:gb306≠gb311));have n6_:=am ((bO BK306.out hg:gb311≠gb306));clear BK306 HB;have BK306:=n0_;have HB:=n1_;have BK311:=n2_;have GW311:=n3_;have GE311:=n4_;have NB306_311:=n5_;have NB311_306:=n6_;clear n0_ n1_ n2_ n3_ n4_ n5_ n6_;clear hb hbox hg;have hnb33:=NB311_306.out;have hnc33:=NB306_311.out;obtain⟨hcz34_0,hcz34_1,hcz34_2⟩:=cC3 BK311.out;obtain⟨hfz34_0,hfz34_1,hfz34_2⟩:=cF3 BK311.out)|(go_at_call 24;(with_reducible refine(slices_ContainsFunc_int_int_impl_GoodTurns_lit1.calls k2 _ _ ((rd_T34 l0_1 x25_2).f0)  false _ ?side1 ?side2 A21.out).mono ?_);(case side1=>exact Kd.C_below HR310_0.out (bS2 GE306.out GE311.out));(case side2=>exact HC310_0.out);rintro e w' ⟨rfl,⟨nd,rfl⟩⟩)|(go_at_call 22;(with_reducible refine(impl_within.calls ((rd_T34 l0_1 x25_2).f1) 0 100 true _ A26.out).mono ?_);rintro e w' ⟨rfl,⟨nd,rfl⟩⟩)|(go_at_call 23;(with_reducible refine(impl_isTime.calls ((rd_T34 l0_1 x25_2).f2) true _ A28.out).mono ?_);rintro e w' ⟨rfl,⟨nd,rfl⟩⟩))
               go_roundg k2
               case measure=>have:=HJ1.out;have:=HK2.out;omega
               case rel=>exact⟨(wrap64 (x25_2+1)),(bR),H',⟨by have:=HJ1.out;have:=HK2.out;omega⟩,⟨by(with_reducible repeat (first|refine blk_drewN ?_ _|refine blk_drew ?_|refine blk_alloc ?_ _));refine blk_far ?_ NB306_311.out _;(with_reducible repeat (first|refine blk_drewN ?_ _|refine blk_drew ?_|refine blk_alloc ?_ _));refine blk_far ?_ NB306_311.out _;(with_reducible repeat (first|refine blk_drewN ?_ _|refine blk_drew ?_|refine blk_alloc ?_ _));refine blk_far ?_ NB306_311.out _;(with_reducible repeat (first|refine blk_drewN ?_ _|refine blk_drew ?_|refine blk_alloc ?_ _));exact BK306.out⟩,⟨bS2 GE306.out GE311.out⟩⟩
              ·rw[if_neg c31] at H
               have c31b0:(((rd_T34 l0_1 x25_2).f1) == 0)=false:=beq_eq_false_iff_ne.mpr c31
               have c31b1:(((rd_T34 l0_1 x25_2).f1) != 0)=true:=bne_iff_ne.mpr c31
               obtain rfl:=Option.some.inj H
               have p310:0≤(x25_2:Int):=bD_
               have q310:x25_2 < (l0_1.length:Int):=bD_
               obtain⟨ad310,A310_0,c310_0,e310,hx310_0,hx310_1,hx310_2,hl310_0,hi310_0⟩:=at_T34 HR0_1.out x25_2 p310 q310
               cases e310
               replace hx310_0:=bQ_ HB.out hx310_0
               replace hx310_1:=bQ_ HB.out hx310_1
               replace hx310_2:=bQ_ HB.out hx310_2
               have HR310_0:=am hi310_0
               have HC310_0:=am hl310_0
               clear hi310_0 hl310_0
               replace p310:=eq_true p310
               replace q310:=eq_true q310
               go_wp2_with (first|((with_reducible refine gate_dst (N:=4) rfl ?_);(try (refine gate_guard (by rfl) ?_;dsimp only));refine box_event ?hg (N:=4) ?hd (cs:=#[.slice none 0 0,.int .i64 0,.int .i64 0]) (t:=34) ?hr ?_;(case hd=>rfl);(case hg=>rfl);(case hr=>first|(go_simp;done)|(go_simp;rfl));intro gb311 hg w35 hbox hb;have n0_:=am (bM BK306.out hb);have n1_:=am (below_step (bS GE306.out) hb);have n2_:=am (hbox);have n3_:=am ((by rw[hg];exact(below_size (bS GE306.out)):w.heap.size≤gb311));have n4_:=am ((by rw[hg];exact(below_size (bS GE306.out)):w.heap.size≤gb311));have n5_:=am ((bN BK306.out hg:gb306≠gb311));have n6_:=am ((bO BK306.out hg:gb311≠gb306));clear BK306 HB;have BK306:=n0_;have HB:=n1_;have BK311:=n2_;have GW311:=n3_;have GE311:=n4_;have NB306_311:=n5_;have NB311_306:=n6_;clear n0_ n1_ n2_ n3_ n4_ n5_ n6_;clear hb hbox hg;have hnb36:=NB311_306.out;have hnc36:=NB306_311.out;obtain⟨hcz37_0,hcz37_1,hcz37_2⟩:=cC3 BK311.out;obtain⟨hfz37_0,hfz37_1,hfz37_2⟩:=cF3 BK311.out)|(go_at_call 24;(with_reducible refine(slices_ContainsFunc_int_int_impl_GoodTurns_lit1.calls k2 _ _ ((rd_T34 l0_1 x25_2).f0)  false _ ?side1 ?side2 A21.out).mono ?_);(case side1=>exact Kd.C_below HR310_0.out (bS2 GE306.out GE311.out));(case side2=>exact HC310_0.out);rintro e w' ⟨rfl,⟨nd,rfl⟩⟩)|(go_at_call 22;(with_reducible refine(impl_within.calls ((rd_T34 l0_1 x25_2).f1) 0 100 true _ A26.out).mono ?_);rintro e w' ⟨rfl,⟨nd,rfl⟩⟩)|(go_at_call 23;(with_reducible refine(impl_isTime.calls ((rd_T34 l0_1 x25_2).f2) true _ A28.out).mono ?_);rintro e w' ⟨rfl,⟨nd,rfl⟩⟩))
               go_ret
               exact⟨bE,bS2 GE306.out GE311.out⟩
             ·rw[if_neg c30] at H
              have c30b0:((((rd_T34 l0_1 x25_2).f0).length:Int) == 0)=false:=beq_eq_false_iff_ne.mpr c30
              have c30b1:((((rd_T34 l0_1 x25_2).f0).length:Int) != 0)=true:=bne_iff_ne.mpr c30
              have c30b2 : ¬ (((rd_T34 l0_1 x25_2).f0)=[]):=fun h_=>c30 (by rw[h_];rfl)
              have H':=am H
              clear H
              have p310:0≤(x25_2:Int):=bD_
              have q310:x25_2 < (l0_1.length:Int):=bD_
              obtain⟨ad310,A310_0,c310_0,e310,hx310_0,hx310_1,hx310_2,hl310_0,hi310_0⟩:=at_T34 HR0_1.out x25_2 p310 q310
              cases e310
              replace hx310_0:=bQ_ HB.out hx310_0
              replace hx310_1:=bQ_ HB.out hx310_1
              replace hx310_2:=bQ_ HB.out hx310_2
              have HR310_0:=am hi310_0
              have HC310_0:=am hl310_0
              clear hi310_0 hl310_0
              replace p310:=eq_true p310
              replace q310:=eq_true q310
              go_wp2_with (first|((with_reducible refine gate_dst (N:=4) rfl ?_);(try (refine gate_guard (by rfl) ?_;dsimp only));refine box_event ?hg (N:=4) ?hd (cs:=#[.slice none 0 0,.int .i64 0,.int .i64 0]) (t:=34) ?hr ?_;(case hd=>rfl);(case hg=>rfl);(case hr=>first|(go_simp;done)|(go_simp;rfl));intro gb311 hg w38 hbox hb;have n0_:=am (bM BK306.out hb);have n1_:=am (below_step (bS GE306.out) hb);have n2_:=am (hbox);have n3_:=am ((by rw[hg];exact(below_size (bS GE306.out)):w.heap.size≤gb311));have n4_:=am ((by rw[hg];exact(below_size (bS GE306.out)):w.heap.size≤gb311));have n5_:=am ((bN BK306.out hg:gb306≠gb311));have n6_:=am ((bO BK306.out hg:gb311≠gb306));clear BK306 HB;have BK306:=n0_;have HB:=n1_;have BK311:=n2_;have GW311:=n3_;have GE311:=n4_;have NB306_311:=n5_;have NB311_306:=n6_;clear n0_ n1_ n2_ n3_ n4_ n5_ n6_;clear hb hbox hg;have hnb39:=NB311_306.out;have hnc39:=NB306_311.out;obtain⟨hcz40_0,hcz40_1,hcz40_2⟩:=cC3 BK311.out;obtain⟨hfz40_0,hfz40_1,hfz40_2⟩:=cF3 BK311.out)|(go_at_call 24;(with_reducible refine(slices_ContainsFunc_int_int_impl_GoodTurns_lit1.calls k2 _ _ ((rd_T34 l0_1 x25_2).f0)  false _ ?side1 ?side2 A21.out).mono ?_);(case side1=>exact Kd.C_below HR310_0.out (bS2 GE306.out GE311.out));(case side2=>exact HC310_0.out);rintro e w' ⟨rfl,⟨nd,rfl⟩⟩)|(go_at_call 22;(with_reducible refine(impl_within.calls ((rd_T34 l0_1 x25_2).f1) 0 100 true _ A26.out).mono ?_);rintro e w' ⟨rfl,⟨nd,rfl⟩⟩)|(go_at_call 23;(with_reducible refine(impl_isTime.calls ((rd_T34 l0_1 x25_2).f2) true _ A28.out).mono ?_);rintro e w' ⟨rfl,⟨nd,rfl⟩⟩))
              go_roundg k2
              case measure=>have:=HJ1.out;have:=HK2.out;omega
              case rel=>exact⟨(wrap64 (x25_2+1)),(bR),H',⟨by have:=HJ1.out;have:=HK2.out;omega⟩,⟨by(with_reducible repeat (first|refine blk_drewN ?_ _|refine blk_drew ?_|refine blk_alloc ?_ _));refine blk_far ?_ NB306_311.out _;(with_reducible repeat (first|refine blk_drewN ?_ _|refine blk_drew ?_|refine blk_alloc ?_ _));refine blk_far ?_ NB306_311.out _;(with_reducible repeat (first|refine blk_drewN ?_ _|refine blk_drew ?_|refine blk_alloc ?_ _));refine blk_far ?_ NB306_311.out _;(with_reducible repeat (first|refine blk_drewN ?_ _|refine blk_drew ?_|refine blk_alloc ?_ _));exact BK306.out⟩,⟨bS2 GE306.out GE311.out⟩⟩
            ·replace c29:=Bool.eq_false_iff.mpr c29
             subst c29
             have H1:(some false)=some r:=by rw[if_neg (show ¬ (false=true) by decide)] at H;exact H
             clear H
             have H:=H1
             clear H1
             obtain rfl:=Option.some.inj H
             have p310:0≤(x25_2:Int):=bD_
             have q310:x25_2 < (l0_1.length:Int):=bD_
             obtain⟨ad310,A310_0,c310_0,e310,hx310_0,hx310_1,hx310_2,hl310_0,hi310_0⟩:=at_T34 HR0_1.out x25_2 p310 q310
             cases e310
             replace hx310_0:=bQ_ HB.out hx310_0
             replace hx310_1:=bQ_ HB.out hx310_1
             replace hx310_2:=bQ_ HB.out hx310_2
             have HR310_0:=am hi310_0
             have HC310_0:=am hl310_0
             clear hi310_0 hl310_0
             replace p310:=eq_true p310
             replace q310:=eq_true q310
             go_wp2_with (first|((with_reducible refine gate_dst (N:=4) rfl ?_);(try (refine gate_guard (by rfl) ?_;dsimp only));refine box_event ?hg (N:=4) ?hd (cs:=#[.slice none 0 0,.int .i64 0,.int .i64 0]) (t:=34) ?hr ?_;(case hd=>rfl);(case hg=>rfl);(case hr=>first|(go_simp;done)|(go_simp;rfl));intro gb311 hg w41 hbox hb;have n0_:=am (bM BK306.out hb);have n1_:=am (below_step (bS GE306.out) hb);have n2_:=am (hbox);have n3_:=am ((by rw[hg];exact(below_size (bS GE306.out)):w.heap.size≤gb311));have n4_:=am ((by rw[hg];exact(below_size (bS GE306.out)):w.heap.size≤gb311));have n5_:=am ((bN BK306.out hg:gb306≠gb311));have n6_:=am ((bO BK306.out hg:gb311≠gb306));clear BK306 HB;have BK306:=n0_;have HB:=n1_;have BK311:=n2_;have GW311:=n3_;have GE311:=n4_;have NB306_311:=n5_;have NB311_306:=n6_;clear n0_ n1_ n2_ n3_ n4_ n5_ n6_;clear hb hbox hg;have hnb42:=NB311_306.out;have hnc42:=NB306_311.out;obtain⟨hcz43_0,hcz43_1,hcz43_2⟩:=cC3 BK311.out;obtain⟨hfz43_0,hfz43_1,hfz43_2⟩:=cF3 BK311.out)|(go_at_call 24;(with_reducible refine(slices_ContainsFunc_int_int_impl_GoodTurns_lit1.calls k2 _ _ ((rd_T34 l0_1 x25_2).f0)  false _ ?side1 ?side2 A21.out).mono ?_);(case side1=>exact Kd.C_below HR310_0.out (bS2 GE306.out GE311.out));(case side2=>exact HC310_0.out);rintro e w' ⟨rfl,⟨nd,rfl⟩⟩)|(go_at_call 22;(with_reducible refine(impl_within.calls ((rd_T34 l0_1 x25_2).f1) 0 100 true _ A26.out).mono ?_);rintro e w' ⟨rfl,⟨nd,rfl⟩⟩)|(go_at_call 23;(with_reducible refine(impl_isTime.calls ((rd_T34 l0_1 x25_2).f2) false _ A28.out).mono ?_);rintro e w' ⟨rfl,⟨nd,rfl⟩⟩))
             go_ret
             exact⟨bE,bS2 GE306.out GE311.out⟩
           ·replace c27:=Bool.eq_false_iff.mpr c27
            subst c27
            have H1:(some false)=some r:=by rw[if_neg (show ¬ (false=true) by decide)] at H;exact H
            clear H
            have H:=H1
            clear H1
            obtain rfl:=Option.some.inj H
            have p310:0≤(x25_2:Int):=bD_
            have q310:x25_2 < (l0_1.length:Int):=bD_
            obtain⟨ad310,A310_0,c310_0,e310,hx310_0,hx310_1,hx310_2,hl310_0,hi310_0⟩:=at_T34 HR0_1.out x25_2 p310 q310
            cases e310
            replace hx310_0:=bQ_ HB.out hx310_0
            replace hx310_1:=bQ_ HB.out hx310_1
            replace hx310_2:=bQ_ HB.out hx310_2
            have HR310_0:=am hi310_0
            have HC310_0:=am hl310_0
            clear hi310_0 hl310_0
            replace p310:=eq_true p310
            replace q310:=eq_true q310
            go_wp2_with (first|((with_reducible refine gate_dst (N:=4) rfl ?_);(try (refine gate_guard (by rfl) ?_;dsimp only));refine box_event ?hg (N:=4) ?hd (cs:=#[.slice none 0 0,.int .i64 0,.int .i64 0]) (t:=34) ?hr ?_;(case hd=>rfl);(case hg=>rfl);(case hr=>first|(go_simp;done)|(go_simp;rfl));intro gb311 hg w44 hbox hb;have n0_:=am (bM BK306.out hb);have n1_:=am (below_step (bS GE306.out) hb);have n2_:=am (hbox);have n3_:=am ((by rw[hg];exact(below_size (bS GE306.out)):w.heap.size≤gb311));have n4_:=am ((by rw[hg];exact(below_size (bS GE306.out)):w.heap.size≤gb311));have n5_:=am ((bN BK306.out hg:gb306≠gb311));have n6_:=am ((bO BK306.out hg:gb311≠gb306));clear BK306 HB;have BK306:=n0_;have HB:=n1_;have BK311:=n2_;have GW311:=n3_;have GE311:=n4_;have NB306_311:=n5_;have NB311_306:=n6_;clear n0_ n1_ n2_ n3_ n4_ n5_ n6_;clear hb hbox hg;have hnb45:=NB311_306.out;have hnc45:=NB306_311.out;obtain⟨hcz46_0,hcz46_1,hcz46_2⟩:=cC3 BK311.out;obtain⟨hfz46_0,hfz46_1,hfz46_2⟩:=cF3 BK311.out)|(go_at_call 24;(with_reducible refine(slices_ContainsFunc_int_int_impl_GoodTurns_lit1.calls k2 _ _ ((rd_T34 l0_1 x25_2).f0)  false _ ?side1 ?side2 A21.out).mono ?_);(case side1=>exact Kd.C_below HR310_0.out (bS2 GE306.out GE311.out));(case side2=>exact HC310_0.out);rintro e w' ⟨rfl,⟨nd,rfl⟩⟩)|(go_at_call 22;(with_reducible refine(impl_within.calls ((rd_T34 l0_1 x25_2).f1) 0 100 false _ A26.out).mono ?_);rintro e w' ⟨rfl,⟨nd,rfl⟩⟩))
            go_ret
            exact⟨bE,bS2 GE306.out GE311.out⟩
        ·rw[if_neg c16] at H
         exact absurd H (by simp)
       ·rw[if_neg c15] at H
        exact absurd H (by simp)
      ·rw[if_neg c14] at H
       have c14b0:decide (x25_2 < (l0_1.length:Int))=false:=decide_eq_false c14
       clear c14
       obtain rfl:=Option.some.inj H
       go_wp2
       go_ret
       exact⟨bE,bS GE306.out⟩

-- NOT PRINTED: function 32 (impl_Queue)

/-! ### slices_Clone_int_int: function 33 -/
def slices_Clone_int_int.f (l0:List Int):Option (List Int):=(some (([]:List Int):List Int)).bind fun y315=>(if y315.length+l0.length < 17592186044416 then (some (y315++l0)) else (none))
set_option maxHeartbeats 8000000 in
set_option maxRecDepth 100000 in
theorem slices_Clone_int_int.calls (A0:Option Addr) (c0:Nat) (l0:List Int) (r:List Int) (w:World) (hr0:Kd.C (Kd.int .i64) w A0 l0.length l0) (hc0:l0.length≤c0) (h:slices_Clone_int_int.f l0=some r) :
  Calls Try.prog 33 #[.slice A0 l0.length c0] w fun e w' => ∃ v0_:Value,e=.returned (v0_)∧Kd.R (Kd.int .i64) 3 w' w.heap.size (fun _=>True) v0_ r∧Below w.heap.size w w':=by
 have HR0:=am hr0
 have HC0:=am hc0
 clear hr0 hc0
 by_cases hA_:A0=none
 ·have h0_:l0=[]:=by
   have z_:=HR0.out
   rw[hA_] at z_
   cases l0 with
   | nil=>rfl
   | cons x_ xs_ =>
    obtain⟨ad_,e_,_⟩:=z_.2.2 (by simp)
    cases e_
  subst hA_
  subst h0_
  have hr_:r=[]:=by simpa [slices_Clone_int_int.f] using h.symm
  subst hr_
  have hq_ : ∀ (w:World) (n c:Nat),(binOp .eql 27 (.slice none n c) (.slice none 0 0)).run Try.prog w=.ok (.bool true) w:=fun w n c=>by
   rw[Lib.run_eql_slice_nil w _ _ _ _ _ _ _ Try.underlying27]
   rfl
  go_enter Try.func33,Try.ntmps33
  go_wp2
  go_ret
  exact⟨_,rfl,Kd.R_nil _ _ _ _ _,Below.refl _ _⟩
 have hq_ : ∀ w,(binOp .eql 27 (.slice A0 l0.length c0) (.slice none 0 0)).run Try.prog w=.ok (.bool false) w:=fun w=>by
  rw[Lib.run_eql_slice_nil w _ _ _ _ _ _ _ Try.underlying27]
  cases A0 with
  | none=>exact absurd rfl hA_
  | some _=>rfl
 have HB:=am (Below.refl w.heap.size w)
 have H:((some (([]:List Int):List Int)).bind fun y315=>(if y315.length+l0.length < 17592186044416 then (some (y315++l0)) else (none)))=some r:=h
 clear h
 obtain⟨y315,hy315⟩ : ∃ y_:List Int,y_=(([]:List Int)):=⟨_,rfl⟩
 replace H:(if y315.length+l0.length < 17592186044416 then (some (y315++l0)) else (none))=some r:=by first|(rw[hy315];with_reducible exact H)|(have H2_:=(Option.bind_some _ _).symm.trans H;rw[hy315];with_reducible exact H2_)|(have H2_:=(Option.bind_some _ _).symm.trans H;with_reducible exact H2_)|with_reducible exact H|(rw[hy315];exact H)|exact H
 have Ny315:=am hy315
 clear hy315
 by_cases c2:y315.length+l0.length < 17592186044416
 ·rw[if_pos c2] at H
  have LMc2:=am c2
  clear c2
  obtain⟨y318,hy318⟩ : ∃ y_:List Int,y_=(y315++l0):=⟨_,rfl⟩
  replace H:(some y318)=some r:=by first|(rw[hy318];with_reducible exact H)|(have H2_:=(Option.bind_some _ _).symm.trans H;rw[hy318];with_reducible exact H2_)|(have H2_:=(Option.bind_some _ _).symm.trans H;with_reducible exact H2_)|with_reducible exact H|(rw[hy318];exact H)|exact H
  have Ny318:=am hy318
  clear hy318
  obtain rfl:=Option.some.inj H
  go_enter Try.func33,Try.ntmps33
  go_wp2_with (first|((with_reducible refine gate_dst (N:=5) rfl ?_);refine Kd.R_lit (Kd.int .i64) _ 3 ?hg (N:=5) ?hd (xs:=([]:List Int)) (inner:=[]) (ok:=fun _=>True) (okp:=fun _=>True) ?hr ?hp (fun _ hk=>hk) trivial (Below.refl _ _) (Nat.le_refl _) (by simp) ?_;(case hd=>rfl);(case hg=>rfl);(case hr=>first|(go_simp;done)|(go_simp;rfl));(case hp=>exact(Reps.none _ _));intro v316 w3 ho4 hb hg_ hnew_;clear hg_ hnew_;(first|rw[← Ny315.out] at ho4|(simp only[Int.reduceToNat] at ho4;rw[← Ny315.out] at ho4));have n0_:=am (Kd.R_lower ho4 (below_size (bB)));have n1_:=am (below_step (bB) hb);clear HB;have HO317:=n0_;have HB:=n1_;clear n0_ n1_;clear hb ho4)|((with_reducible refine gate_builtin (b:=.append) (xs:=#[.tmp 5,.tmp 6]) rfl ?_);at_builtin;refine Kd.R_append_rows (Kd.int .i64) (w0:=w) w.heap.size rfl (.tmp 5) (.tmp 6) 27 3 (.int .i64 0) 8 rfl Try.underlying27 info3 rfl (by decide) (by omega) v316 y315 l0 _ _ _ (fun _=>True) (fun _=>False) rfl rfl ?aO ?aR (fun _ _ h=>h) (fun _ h=>h.elim) ?aF ?aB ?aS ?aL ?_;(case aR=>exact bC HR0.out);(case aB=>exact(bB));(case aF=>exact(fun _ _=>trivial));(case aO=>exact(bK HO317.out));(case aS=>exact(below_size (bB)));(case aL=>have:=LMc2.out;omega);intro v319 w5 ho hb hg hat;rw[← Ny318.out] at ho;have n0_:=am (hb);have n1_:=am (ho);clear HB HO317;have HB:=n0_;have HO320:=n1_;clear n0_ n1_;clear ho hb hg hat))
  go_ret
  exact⟨_,by first|rfl|(simp[errW_none,errW_some]<;>rfl)|(simp[*,errW_none,errW_some]<;>rfl),by(with_reducible repeat (first|apply Kd.R_alloc|apply Kd.R_drewN|apply Kd.R_drew));exact HO320.out,bB⟩
 ·rw[if_neg c2] at H
  exact absurd H (by simp)

end Go.Proofs.Ythghcoepkknkeaa.XFnFair
