-- Written by this session's own program (wip/xprint.py) out of the translation; Lean checks it.
import Derived.Test.YtnphabcbnpenjaaXFnExactMeetBothx0
import Derived.Test.YtnphabcbnpenjaaXFnExactMeetBothx2
namespace Go.Proofs.Ytnphabcbnpenjaa.XFnExactMeetBoth
open Go.RowKit Go.Proofs.YtnphabcbnpenjaaW.PrintWords Go.Proofs.YtnphabcbnpenjaaW.PrintLast Go.Proofs.YtnphabcbnpenjaaW.PrintMore
attribute [local go_sem] max2_int min2_int max_two min_two max_three min_three max_four min_four   -- for this text's walks alone
set_option linter.unusedVariables false
set_option linter.unusedSimpArgs false

/-! ### spec_l15Meet: function 105 -/
def spec_l15Meet.j0:Nat→Bool→List Int→Int→Bool→Int→Int→Option (List Int × Int × Bool × Bool)
 | 0,_,_,_,_,_,_=>none
 | k+1,x36,x140000,x140001,x140002,x141000,x141001=>if x36=true then (some (([]:List Int),0,false,false)) else ((some (([]:List Int):List Int)).bind fun y142=>(if y142.length+x140000.length < 17592186044416 then ((some (y142++x140000:List Int)).bind fun y145=>(if 0≤x141000 then (if x141000 < (y145.length:Int) then (if 0≤x141001 then (if x141001 < (y145.length:Int) then (if (rd y145 x141000) ≥ (rd y145 x141001) then ((spec_l15Give.f y145 x140001 x140002 x141000 x141001).bind fun bt150=>(some (bt150.1,bt150.2.1,bt150.2.2,true))) else ((spec_l15Give.f y145 x140001 x140002 x141001 x141000).bind fun bt155=>(some (bt155.1,bt155.2.1,bt155.2.2,true)))) else (none)) else (none)) else (none)) else (none))) else (none)))
def spec_l15Meet.f (k:Nat) (l0_0:List Int) (a0_1:Int) (a0_2:Bool) (a1_0:Int) (a1_1:Int):Option (List Int × Int × Bool × Bool):=if a1_0 < 0 then (spec_l15Meet.j0 k true l0_0 a0_1 a0_2 a1_0 a1_1) else (if a1_0 ≥ (l0_0.length:Int) then (spec_l15Meet.j0 k true l0_0 a0_1 a0_2 a1_0 a1_1) else (if a1_1 < 0 then (spec_l15Meet.j0 k true l0_0 a0_1 a0_2 a1_0 a1_1) else (if a1_1 ≥ (l0_0.length:Int) then (spec_l15Meet.j0 k true l0_0 a0_1 a0_2 a1_0 a1_1) else (spec_l15Meet.j0 k (a1_0 == a1_1) l0_0 a0_1 a0_2 a1_0 a1_1))))
theorem spec_l15Meet.mono_l : ∀ k,(∀ y0 y1 y2 y3 y4 y5,LeO (spec_l15Meet.j0 k y0 y1 y2 y3 y4 y5) (spec_l15Meet.j0 (k+1) y0 y1 y2 y3 y4 y5))
 | 0=>fun _ _ _ _ _ _ r h=>by simp[spec_l15Meet.j0] at h
 | k+1=>by
  have ih0:=spec_l15Meet.mono_l k
  ·intro y0 y1 y2 y3 y4 y5
   unfold spec_l15Meet.j0
   repeat' first
   | (with_reducible exact ih0 _ _ _ _ _ _)
   | (with_reducible exact LeO.refl _)
   | (with_reducible exact LeO.none _)
   | (with_reducible refine LeO.ite ?_ ?_)
   | (with_reducible refine LeO.bind ?_ (fun _ => ?_))
   | exact ih0 _ _ _ _ _ _
   | exact LeO.none _
   | refine LeO.ite ?_ ?_
   | refine LeO.bind ?_ (fun _ => ?_)
theorem spec_l15Meet.mono : ∀ a0 a1 a2 a3 a4 k,LeO (spec_l15Meet.f k a0 a1 a2 a3 a4) (spec_l15Meet.f (k+1) a0 a1 a2 a3 a4):=by
 intro a0 a1 a2 a3 a4 k
 have ih0:=spec_l15Meet.mono_l k
 unfold spec_l15Meet.f
 repeat' first
  | (with_reducible exact ih0 _ _ _ _ _ _)
  | (with_reducible exact LeO.refl _)
  | (with_reducible exact LeO.none _)
  | (with_reducible refine LeO.ite ?_ ?_)
  | (with_reducible refine LeO.bind ?_ (fun _ => ?_))
  | exact ih0 _ _ _ _ _ _
  | exact LeO.none _
  | refine LeO.ite ?_ ?_
  | refine LeO.bind ?_ (fun _ => ?_)
set_option maxHeartbeats 8000000 in
set_option maxRecDepth 100000 in
theorem spec_l15Meet.calls (k:Nat) (A0_0:Option Addr) (c0_0:Nat) (l0_0:List Int) (a0_1:Int) (a0_2:Bool) (a1_0:Int) (a1_1:Int) (r1:List Int) (r2:Int) (r3:Bool) (r4:Bool) (w:World) (hr0_0:Kd.C (Kd.int .i64) w A0_0 l0_0.length l0_0) (hc0_0:l0_0.length≤c0_0) (h:spec_l15Meet.f k l0_0 a0_1 a0_2 a1_0 a1_1=some (r1,r2,r3,r4)) :
  Calls Try.prog 105 #[.agg #[.slice A0_0 l0_0.length c0_0,.int .i64 a0_1,.bool a0_2],.agg #[.int .i64 a1_0,.int .i64 a1_1]] w fun e w' => ∃ v0_:Value,e=.returned (.tuple #[.agg #[v0_,.int .i64 r2,.bool r3],.bool r4])∧Kd.R (Kd.int .i64) 3 w' w.heap.size (fun _=>True) v0_ r1∧Below w.heap.size w w':=by
 have hu39:=Try.underlying39
 have hu60:=Try.underlying60
 have HR0_0:=Aside0.mk hr0_0
 have HC0_0:=Aside0.mk hc0_0
 clear hr0_0 hc0_0
 have HB:=Aside0.mk (Below.refl w.heap.size w)
 have H:(if a1_0 < 0 then (spec_l15Meet.j0 k true l0_0 a0_1 a0_2 a1_0 a1_1) else (if a1_0 ≥ (l0_0.length:Int) then (spec_l15Meet.j0 k true l0_0 a0_1 a0_2 a1_0 a1_1) else (if a1_1 < 0 then (spec_l15Meet.j0 k true l0_0 a0_1 a0_2 a1_0 a1_1) else (if a1_1 ≥ (l0_0.length:Int) then (spec_l15Meet.j0 k true l0_0 a0_1 a0_2 a1_0 a1_1) else (spec_l15Meet.j0 k (a1_0 == a1_1) l0_0 a0_1 a0_2 a1_0 a1_1)))))=some (r1,r2,r3,r4):=h
 clear h
 have HC3:=Aside0.mk H
 clear H
 go_enter Try.func105,Try.ntmps105
 go_upto_region 2 with (first|((with_reducible refine gate_dst (N:=2) rfl ?_);refine box_event ?hg (N:=2) ?hd (cs:=#[.slice A0_0 l0_0.length c0_0,.int .i64 a0_1,.bool a0_2]) (t:=39) ?hr ?_;(case hd=>rfl);(case hg=>rfl);(case hr=>first|(go_simp;done)|(go_simp;rfl));intro gb139 hg w4 hbox hb;have n0_:=Aside0.mk (below_step (bB) hb);have n1_:=Aside0.mk (hbox);have n2_:=Aside0.mk ((bG:w.heap.size≤gb139));have n3_:=Aside0.mk ((bG:w.heap.size≤gb139));clear HB;have HB:=n0_;have BK139:=n1_;have GW139:=n2_;have GE139:=n3_;clear n0_ n1_ n2_ n3_;clear hb hbox hg)|((with_reducible refine gate_dst (N:=3) rfl ?_);refine box_event ?hg (N:=3) ?hd (cs:=#[.int .i64 a1_0,.int .i64 a1_1]) (t:=60) ?hr ?_;(case hd=>rfl);(case hg=>rfl);(case hr=>first|(go_simp;done)|(go_simp;rfl));intro gb140 hg w5 hbox hb;have n0_:=Aside0.mk (bM BK139.out hb);have n1_:=Aside0.mk (below_step (bS GE139.out) hb);have n2_:=Aside0.mk (hbox);have n3_:=Aside0.mk ((by rw[hg];exact(below_size (bS GE139.out)):w.heap.size≤gb140));have n4_:=Aside0.mk ((by rw[hg];exact(below_size (bS GE139.out)):w.heap.size≤gb140));have n5_:=Aside0.mk ((bN BK139.out hg:gb139≠gb140));have n6_:=Aside0.mk ((bO BK139.out hg:gb140≠gb139));clear BK139 HB;have BK139:=n0_;have HB:=n1_;have BK140:=n2_;have GW140:=n3_;have GE140:=n4_;have NB139_140:=n5_;have NB140_139:=n6_;clear n0_ n1_ n2_ n3_ n4_ n5_ n6_;clear hb hbox hg)|((with_reducible refine gate_dst (N:=4) rfl ?_);refine box_event ?hg (N:=4) ?hd (cs:=#[.slice none 0 0,.int .i64 0,.bool false]) (t:=39) ?hr ?_;(case hd=>rfl);(case hg=>rfl);(case hr=>first|(go_simp;done)|(go_simp;rfl));intro gb141 hg w6 hbox hb;have n0_:=Aside0.mk (bM BK139.out hb);have n1_:=Aside0.mk (bM BK140.out hb);have n2_:=Aside0.mk (below_step (bS2 GE139.out GE140.out) hb);have n3_:=Aside0.mk (hbox);have n4_:=Aside0.mk ((by rw[hg];exact(below_size (bS2 GE139.out GE140.out)):w.heap.size≤gb141));have n5_:=Aside0.mk ((by rw[hg];exact(below_size (bS2 GE139.out GE140.out)):w.heap.size≤gb141));have n6_:=Aside0.mk ((bN BK139.out hg:gb139≠gb141));have n7_:=Aside0.mk ((bO BK139.out hg:gb141≠gb139));have n8_:=Aside0.mk ((bN BK140.out hg:gb140≠gb141));have n9_:=Aside0.mk ((bO BK140.out hg:gb141≠gb140));clear BK139 BK140 HB;have BK139:=n0_;have BK140:=n1_;have HB:=n2_;have BK141:=n3_;have GW141:=n4_;have GE141:=n5_;have NB139_141:=n6_;have NB141_139:=n7_;have NB140_141:=n8_;have NB141_140:=n9_;clear n0_ n1_ n2_ n3_ n4_ n5_ n6_ n7_ n8_ n9_;clear hb hbox hg;have hnb7:=NB139_140.out;have hnc7:=NB140_139.out;have hnb8:=NB139_141.out;have hnc8:=NB141_139.out;obtain⟨hcz9_0,hcz9_1,hcz9_2⟩:=cC3 BK139.out;obtain⟨hfz9_0,hfz9_1,hfz9_2⟩:=cF3 BK139.out))
 repeat (go_quiet (first|((with_reducible refine gate_dst (N:=2) rfl ?_);refine box_event ?hg (N:=2) ?hd (cs:=#[.slice A0_0 l0_0.length c0_0,.int .i64 a0_1,.bool a0_2]) (t:=39) ?hr ?_;(case hd=>rfl);(case hg=>rfl);(case hr=>first|(go_simp;done)|(go_simp;rfl));intro gb139 hg w4 hbox hb;have n0_:=Aside0.mk (below_step (bB) hb);have n1_:=Aside0.mk (hbox);have n2_:=Aside0.mk ((bG:w.heap.size≤gb139));have n3_:=Aside0.mk ((bG:w.heap.size≤gb139));clear HB;have HB:=n0_;have BK139:=n1_;have GW139:=n2_;have GE139:=n3_;clear n0_ n1_ n2_ n3_;clear hb hbox hg)|((with_reducible refine gate_dst (N:=3) rfl ?_);refine box_event ?hg (N:=3) ?hd (cs:=#[.int .i64 a1_0,.int .i64 a1_1]) (t:=60) ?hr ?_;(case hd=>rfl);(case hg=>rfl);(case hr=>first|(go_simp;done)|(go_simp;rfl));intro gb140 hg w5 hbox hb;have n0_:=Aside0.mk (bM BK139.out hb);have n1_:=Aside0.mk (below_step (bS GE139.out) hb);have n2_:=Aside0.mk (hbox);have n3_:=Aside0.mk ((by rw[hg];exact(below_size (bS GE139.out)):w.heap.size≤gb140));have n4_:=Aside0.mk ((by rw[hg];exact(below_size (bS GE139.out)):w.heap.size≤gb140));have n5_:=Aside0.mk ((bN BK139.out hg:gb139≠gb140));have n6_:=Aside0.mk ((bO BK139.out hg:gb140≠gb139));clear BK139 HB;have BK139:=n0_;have HB:=n1_;have BK140:=n2_;have GW140:=n3_;have GE140:=n4_;have NB139_140:=n5_;have NB140_139:=n6_;clear n0_ n1_ n2_ n3_ n4_ n5_ n6_;clear hb hbox hg)|((with_reducible refine gate_dst (N:=4) rfl ?_);refine box_event ?hg (N:=4) ?hd (cs:=#[.slice none 0 0,.int .i64 0,.bool false]) (t:=39) ?hr ?_;(case hd=>rfl);(case hg=>rfl);(case hr=>first|(go_simp;done)|(go_simp;rfl));intro gb141 hg w6 hbox hb;have n0_:=Aside0.mk (bM BK139.out hb);have n1_:=Aside0.mk (bM BK140.out hb);have n2_:=Aside0.mk (below_step (bS2 GE139.out GE140.out) hb);have n3_:=Aside0.mk (hbox);have n4_:=Aside0.mk ((by rw[hg];exact(below_size (bS2 GE139.out GE140.out)):w.heap.size≤gb141));have n5_:=Aside0.mk ((by rw[hg];exact(below_size (bS2 GE139.out GE140.out)):w.heap.size≤gb141));have n6_:=Aside0.mk ((bN BK139.out hg:gb139≠gb141));have n7_:=Aside0.mk ((bO BK139.out hg:gb141≠gb139));have n8_:=Aside0.mk ((bN BK140.out hg:gb140≠gb141));have n9_:=Aside0.mk ((bO BK140.out hg:gb141≠gb140));clear BK139 BK140 HB;have BK139:=n0_;have BK140:=n1_;have HB:=n2_;have BK141:=n3_;have GW141:=n4_;have GE141:=n5_;have NB139_141:=n6_;have NB141_139:=n7_;have NB140_141:=n8_;have NB141_140:=n9_;clear n0_ n1_ n2_ n3_ n4_ n5_ n6_ n7_ n8_ n9_;clear hb hbox hg;have hnb7:=NB139_140.out;have hnc7:=NB140_139.out;have hnb8:=NB139_141.out;have hnc8:=NB141_139.out;obtain⟨hcz9_0,hcz9_1,hcz9_2⟩:=cC3 BK139.out;obtain⟨hfz9_0,hfz9_1,hfz9_2⟩:=cF3 BK139.out));go_upto_region 2 with (first|((with_reducible refine gate_dst (N:=2) rfl ?_);refine box_event ?hg (N:=2) ?hd (cs:=#[.slice A0_0 l0_0.length c0_0,.int .i64 a0_1,.bool a0_2]) (t:=39) ?hr ?_;(case hd=>rfl);(case hg=>rfl);(case hr=>first|(go_simp;done)|(go_simp;rfl));intro gb139 hg w4 hbox hb;have n0_:=Aside0.mk (below_step (bB) hb);have n1_:=Aside0.mk (hbox);have n2_:=Aside0.mk ((bG:w.heap.size≤gb139));have n3_:=Aside0.mk ((bG:w.heap.size≤gb139));clear HB;have HB:=n0_;have BK139:=n1_;have GW139:=n2_;have GE139:=n3_;clear n0_ n1_ n2_ n3_;clear hb hbox hg)|((with_reducible refine gate_dst (N:=3) rfl ?_);refine box_event ?hg (N:=3) ?hd (cs:=#[.int .i64 a1_0,.int .i64 a1_1]) (t:=60) ?hr ?_;(case hd=>rfl);(case hg=>rfl);(case hr=>first|(go_simp;done)|(go_simp;rfl));intro gb140 hg w5 hbox hb;have n0_:=Aside0.mk (bM BK139.out hb);have n1_:=Aside0.mk (below_step (bS GE139.out) hb);have n2_:=Aside0.mk (hbox);have n3_:=Aside0.mk ((by rw[hg];exact(below_size (bS GE139.out)):w.heap.size≤gb140));have n4_:=Aside0.mk ((by rw[hg];exact(below_size (bS GE139.out)):w.heap.size≤gb140));have n5_:=Aside0.mk ((bN BK139.out hg:gb139≠gb140));have n6_:=Aside0.mk ((bO BK139.out hg:gb140≠gb139));clear BK139 HB;have BK139:=n0_;have HB:=n1_;have BK140:=n2_;have GW140:=n3_;have GE140:=n4_;have NB139_140:=n5_;have NB140_139:=n6_;clear n0_ n1_ n2_ n3_ n4_ n5_ n6_;clear hb hbox hg)|((with_reducible refine gate_dst (N:=4) rfl ?_);refine box_event ?hg (N:=4) ?hd (cs:=#[.slice none 0 0,.int .i64 0,.bool false]) (t:=39) ?hr ?_;(case hd=>rfl);(case hg=>rfl);(case hr=>first|(go_simp;done)|(go_simp;rfl));intro gb141 hg w6 hbox hb;have n0_:=Aside0.mk (bM BK139.out hb);have n1_:=Aside0.mk (bM BK140.out hb);have n2_:=Aside0.mk (below_step (bS2 GE139.out GE140.out) hb);have n3_:=Aside0.mk (hbox);have n4_:=Aside0.mk ((by rw[hg];exact(below_size (bS2 GE139.out GE140.out)):w.heap.size≤gb141));have n5_:=Aside0.mk ((by rw[hg];exact(below_size (bS2 GE139.out GE140.out)):w.heap.size≤gb141));have n6_:=Aside0.mk ((bN BK139.out hg:gb139≠gb141));have n7_:=Aside0.mk ((bO BK139.out hg:gb141≠gb139));have n8_:=Aside0.mk ((bN BK140.out hg:gb140≠gb141));have n9_:=Aside0.mk ((bO BK140.out hg:gb141≠gb140));clear BK139 BK140 HB;have BK139:=n0_;have BK140:=n1_;have HB:=n2_;have BK141:=n3_;have GW141:=n4_;have GE141:=n5_;have NB139_141:=n6_;have NB141_139:=n7_;have NB140_141:=n8_;have NB141_140:=n9_;clear n0_ n1_ n2_ n3_ n4_ n5_ n6_ n7_ n8_ n9_;clear hb hbox hg;have hnb7:=NB139_140.out;have hnc7:=NB140_139.out;have hnb8:=NB139_141.out;have hnc8:=NB141_139.out;obtain⟨hcz9_0,hcz9_1,hcz9_2⟩:=cC3 BK139.out;obtain⟨hfz9_0,hfz9_1,hfz9_2⟩:=cF3 BK139.out)))
 (try simp only[Act.put,List.setIfInBounds_toArray,List.set_cons_zero,List.set_cons_succ])
 go_cut [36] (fun v36 wc => ∃ (kq:Nat) (x36_2:Bool),v36=.bool x36_2∧Aside0 (spec_l15Meet.j0 kq x36_2 l0_0 a0_1 a0_2 a1_0 a1_1=some (r1,r2,r3,r4))∧Aside0 (kq≤k)∧Aside0 (wc.heap[gb139]?=some (.cells #[(.slice A0_0 l0_0.length c0_0),.int .i64 a0_1,.bool a0_2] 39 (0,0)))∧Aside0 (wc.heap[gb140]?=some (.cells #[.int .i64 a1_0,.int .i64 a1_1] 60 (0,0)))∧Aside0 (wc.heap[gb141]?=some (.cells #[(.slice none 0 0),.int .i64 0,.bool false] 39 (0,0)))∧Aside0 (Below w.heap.size w wc))
 case first =>
  have H:=HC3.out
  clear HC3
  by_cases c10:a1_0 < 0
  ·rw[if_pos c10] at H
   have c10b0:decide (a1_0 < 0)=true:=decide_eq_true c10
   clear c10
   (first|rw[c10b0]|(simp only[i64_w,i32_w];rw[c10b0])|skip)
   have H':=Aside0.mk H
   clear H
   have hnb11:=NB140_139.out
   have hnc11:=NB139_140.out
   have hnb12:=NB140_141.out
   have hnc12:=NB141_140.out
   obtain⟨hcz13_0,hcz13_1⟩:=cC2 BK140.out
   obtain⟨hfz13_0,hfz13_1⟩:=cF2 BK140.out
   go_wp2
   repeat (go_quiet (fail);try go_wp2)
   go_meet
   case rel=>exact⟨_,(true),(bR),H',⟨by first|omega|exact Nat.le_refl _⟩,⟨by(with_reducible repeat (first|refine blk_drewN ?_ _|refine blk_drew ?_|refine blk_alloc ?_ _));exact BK139.out⟩,⟨by(with_reducible repeat (first|refine blk_drewN ?_ _|refine blk_drew ?_|refine blk_alloc ?_ _));exact BK140.out⟩,⟨by(with_reducible repeat (first|refine blk_drewN ?_ _|refine blk_drew ?_|refine blk_alloc ?_ _));exact BK141.out⟩,⟨bS3 GE139.out GE140.out GE141.out⟩⟩
  ·rw[if_neg c10] at H
   have c10b0:decide (a1_0 < 0)=false:=decide_eq_false c10
   clear c10
   (first|rw[c10b0]|(simp only[i64_w,i32_w];rw[c10b0])|skip)
   by_cases c14:a1_0 ≥ (l0_0.length:Int)
   ·rw[if_pos c14] at H
    have c14b0:decide ((l0_0.length:Int)≤a1_0)=true:=decide_eq_true c14
    clear c14
    have H':=Aside0.mk H
    clear H
    have hnb15:=NB140_139.out
    have hnc15:=NB139_140.out
    have hnb16:=NB140_141.out
    have hnc16:=NB141_140.out
    obtain⟨hcz17_0,hcz17_1⟩:=cC2 BK140.out
    obtain⟨hfz17_0,hfz17_1⟩:=cF2 BK140.out
    go_wp2
    repeat (go_quiet (fail);try go_wp2)
    go_meet
    case rel=>exact⟨_,(true),(bR),H',⟨by first|omega|exact Nat.le_refl _⟩,⟨by(with_reducible repeat (first|refine blk_drewN ?_ _|refine blk_drew ?_|refine blk_alloc ?_ _));exact BK139.out⟩,⟨by(with_reducible repeat (first|refine blk_drewN ?_ _|refine blk_drew ?_|refine blk_alloc ?_ _));exact BK140.out⟩,⟨by(with_reducible repeat (first|refine blk_drewN ?_ _|refine blk_drew ?_|refine blk_alloc ?_ _));exact BK141.out⟩,⟨bS3 GE139.out GE140.out GE141.out⟩⟩
   ·rw[if_neg c14] at H
    have c14b0:decide ((l0_0.length:Int)≤a1_0)=false:=decide_eq_false c14
    clear c14
    by_cases c18:a1_1 < 0
    ·rw[if_pos c18] at H
     have c18b0:decide (a1_1 < 0)=true:=decide_eq_true c18
     clear c18
     have H':=Aside0.mk H
     clear H
     have hnb19:=NB140_139.out
     have hnc19:=NB139_140.out
     have hnb20:=NB140_141.out
     have hnc20:=NB141_140.out
     obtain⟨hcz21_0,hcz21_1⟩:=cC2 BK140.out
     obtain⟨hfz21_0,hfz21_1⟩:=cF2 BK140.out
     go_wp2
     repeat (go_quiet (fail);try go_wp2)
     go_meet
     case rel=>exact⟨_,(true),(bR),H',⟨by first|omega|exact Nat.le_refl _⟩,⟨by(with_reducible repeat (first|refine blk_drewN ?_ _|refine blk_drew ?_|refine blk_alloc ?_ _));exact BK139.out⟩,⟨by(with_reducible repeat (first|refine blk_drewN ?_ _|refine blk_drew ?_|refine blk_alloc ?_ _));exact BK140.out⟩,⟨by(with_reducible repeat (first|refine blk_drewN ?_ _|refine blk_drew ?_|refine blk_alloc ?_ _));exact BK141.out⟩,⟨bS3 GE139.out GE140.out GE141.out⟩⟩
    ·rw[if_neg c18] at H
     have c18b0:decide (a1_1 < 0)=false:=decide_eq_false c18
     clear c18
     by_cases c22:a1_1 ≥ (l0_0.length:Int)
     ·rw[if_pos c22] at H
      have c22b0:decide ((l0_0.length:Int)≤a1_1)=true:=decide_eq_true c22
      clear c22
      have H':=Aside0.mk H
      clear H
      have hnb23:=NB140_139.out
      have hnc23:=NB139_140.out
      have hnb24:=NB140_141.out
      have hnc24:=NB141_140.out
      obtain⟨hcz25_0,hcz25_1⟩:=cC2 BK140.out
      obtain⟨hfz25_0,hfz25_1⟩:=cF2 BK140.out
      go_wp2
      repeat (go_quiet (fail);try go_wp2)
      go_meet
      case rel=>exact⟨_,(true),(bR),H',⟨by first|omega|exact Nat.le_refl _⟩,⟨by(with_reducible repeat (first|refine blk_drewN ?_ _|refine blk_drew ?_|refine blk_alloc ?_ _));exact BK139.out⟩,⟨by(with_reducible repeat (first|refine blk_drewN ?_ _|refine blk_drew ?_|refine blk_alloc ?_ _));exact BK140.out⟩,⟨by(with_reducible repeat (first|refine blk_drewN ?_ _|refine blk_drew ?_|refine blk_alloc ?_ _));exact BK141.out⟩,⟨bS3 GE139.out GE140.out GE141.out⟩⟩
     ·rw[if_neg c22] at H
      have c22b0:decide ((l0_0.length:Int)≤a1_1)=false:=decide_eq_false c22
      clear c22
      have H':=Aside0.mk H
      clear H
      have hnb26:=NB140_139.out
      have hnc26:=NB139_140.out
      have hnb27:=NB140_141.out
      have hnc27:=NB141_140.out
      obtain⟨hcz28_0,hcz28_1⟩:=cC2 BK140.out
      obtain⟨hfz28_0,hfz28_1⟩:=cF2 BK140.out
      go_wp2
      repeat (go_quiet (fail);try go_wp2)
      go_meet
      case rel=>exact⟨_,((a1_0 == a1_1)),(bR),H',⟨by first|omega|exact Nat.le_refl _⟩,⟨by(with_reducible repeat (first|refine blk_drewN ?_ _|refine blk_drew ?_|refine blk_alloc ?_ _));exact BK139.out⟩,⟨by(with_reducible repeat (first|refine blk_drewN ?_ _|refine blk_drew ?_|refine blk_alloc ?_ _));exact BK140.out⟩,⟨by(with_reducible repeat (first|refine blk_drewN ?_ _|refine blk_drew ?_|refine blk_alloc ?_ _));exact BK141.out⟩,⟨bS3 GE139.out GE140.out GE141.out⟩⟩
 case rest =>
  clear HC3
  try clear c1
  try clear c2
  try clear p2
  try clear c7
  try clear c8
  try clear c10
  try clear c10b0
  try clear c11
  try clear c12
  try clear c14
  try clear c14b0
  try clear c15
  try clear c16
  try clear c18
  try clear c18b0
  try clear c19
  try clear c20
  try clear c22
  try clear c22b0
  try clear c23
  try clear c24
  try clear c26
  try clear c27
  try clear hcz13_0
  try clear hcz13_1
  try clear hcz17_0
  try clear hcz17_1
  try clear hcz21_0
  try clear hcz21_1
  try clear hcz25_0
  try clear hcz25_1
  try clear hcz28_0
  try clear hcz28_1
  try clear hcz9_0
  try clear hcz9_1
  try clear hcz9_2
  try clear hfz13_0
  try clear hfz13_1
  try clear hfz17_0
  try clear hfz17_1
  try clear hfz21_0
  try clear hfz21_1
  try clear hfz25_0
  try clear hfz25_1
  try clear hfz28_0
  try clear hfz28_1
  try clear hfz9_0
  try clear hfz9_1
  try clear hfz9_2
  obtain⟨kq,x36_2,rfl,HA,HJ2,BK139,BK140,BK141,HB⟩:=hcut
  cases kq with
  | zero=>exact absurd HA.out (by simp[spec_l15Meet.j0])
  | succ kj2 =>
   have H:=HA.out
   clear HA
   simp only[spec_l15Meet.j0] at H
   by_cases c29:x36_2=true
   ·subst c29
    have H1:(some (([]:List Int),0,false,false))=some (r1,r2,r3,r4):=by rw[if_pos rfl] at H;exact H
    clear H
    have H:=H1
    clear H1
    simp only[Option.some.injEq,Prod.mk.injEq] at H
    obtain⟨rfl,rfl,rfl,rfl⟩:=H
    have hnb30:=NB141_139.out
    have hnc30:=NB139_141.out
    have hnb31:=NB141_140.out
    have hnc31:=NB140_141.out
    obtain⟨hcz32_0,hcz32_1,hcz32_2⟩:=cC3 BK141.out
    obtain⟨hfz32_0,hfz32_1,hfz32_2⟩:=cF3 BK141.out
    go_wp2
    repeat (go_quiet (fail);try go_wp2)
    refine bodyPost_ret (results_ct rfl _ _ gb141 39 #[.slice none 0 0,.int .i64 0,.bool false] (0,0) _ rfl (by(with_reducible repeat (first|refine blk_drewN ?_ _|refine blk_drew ?_|refine blk_alloc ?_ _));refine blk_put (cs:=#[.slice none 0 0,.int .i64 0,.bool false]) ?_ 2 _ rfl;(with_reducible repeat (first|refine blk_drewN ?_ _|refine blk_drew ?_|refine blk_alloc ?_ _));refine blk_put (cs:=#[.slice none 0 0,.int .i64 0,.bool false]) ?_ 1 _ rfl;(with_reducible repeat (first|refine blk_drewN ?_ _|refine blk_drew ?_|refine blk_alloc ?_ _));refine blk_put (cs:=#[.slice none 0 0,.int .i64 0,.bool false]) ?_ 0 _ rfl;(with_reducible repeat (first|refine blk_drewN ?_ _|refine blk_drew ?_|refine blk_alloc ?_ _));exact BK141.out) Try.underlying39 rfl (by kernel_rfl)) rfl ?_
    exact⟨_,by first|rfl|(simp[errW_none,errW_some]<;>rfl)|(simp[*,errW_none,errW_some]<;>rfl),by first|exact Kd.R_nil _ _ _ _ _|exact Kd.N_nil _ _ _ _ _|exact Kd.V_nil _ _ _ _ _|exact Kd.Q_nil _ _ _ _ _|exact Kd.S_nil _ _ _ _ _,bS3 GE139.out GE140.out GE141.out⟩
   ·replace c29:=Bool.eq_false_iff.mpr c29
    subst c29
    have H1:((some (([]:List Int):List Int)).bind fun y142=>(if y142.length+l0_0.length < 17592186044416 then ((some (y142++l0_0:List Int)).bind fun y145=>(if 0≤a1_0 then (if a1_0 < (y145.length:Int) then (if 0≤a1_1 then (if a1_1 < (y145.length:Int) then (if (rd y145 a1_0) ≥ (rd y145 a1_1) then ((spec_l15Give.f y145 a0_1 a0_2 a1_0 a1_1).bind fun bt150=>(some (bt150.1,bt150.2.1,bt150.2.2,true))) else ((spec_l15Give.f y145 a0_1 a0_2 a1_1 a1_0).bind fun bt155=>(some (bt155.1,bt155.2.1,bt155.2.2,true)))) else (none)) else (none)) else (none)) else (none))) else (none)))=some (r1,r2,r3,r4):=by rw[if_neg (show ¬ (false=true) by decide)] at H;exact H
    clear H
    have H:=H1
    clear H1
    obtain⟨y142,hy142⟩ : ∃ y_:List Int,y_=(([]:List Int)):=⟨_,rfl⟩
    replace H:(if y142.length+l0_0.length < 17592186044416 then ((some (y142++l0_0:List Int)).bind fun y145=>(if 0≤a1_0 then (if a1_0 < (y145.length:Int) then (if 0≤a1_1 then (if a1_1 < (y145.length:Int) then (if (rd y145 a1_0) ≥ (rd y145 a1_1) then ((spec_l15Give.f y145 a0_1 a0_2 a1_0 a1_1).bind fun bt150=>(some (bt150.1,bt150.2.1,bt150.2.2,true))) else ((spec_l15Give.f y145 a0_1 a0_2 a1_1 a1_0).bind fun bt155=>(some (bt155.1,bt155.2.1,bt155.2.2,true)))) else (none)) else (none)) else (none)) else (none))) else (none))=some (r1,r2,r3,r4):=by first|(rw[hy142];with_reducible exact H)|(have H2_:=(Option.bind_some _ _).symm.trans H;rw[hy142];with_reducible exact H2_)|(have H2_:=(Option.bind_some _ _).symm.trans H;with_reducible exact H2_)|with_reducible exact H|(rw[hy142];exact H)|exact H
    have Ny142:=Aside0.mk hy142
    clear hy142
    by_cases c33:y142.length+l0_0.length < 17592186044416
    ·rw[if_pos c33] at H
     have LMc33:=Aside0.mk c33
     clear c33
     obtain⟨y145,hy145⟩ : ∃ y_:List Int,y_=(y142++l0_0):=⟨_,rfl⟩
     replace H:(if 0≤a1_0 then (if a1_0 < (y145.length:Int) then (if 0≤a1_1 then (if a1_1 < (y145.length:Int) then (if (rd y145 a1_0) ≥ (rd y145 a1_1) then ((spec_l15Give.f y145 a0_1 a0_2 a1_0 a1_1).bind fun bt150=>(some (bt150.1,bt150.2.1,bt150.2.2,true))) else ((spec_l15Give.f y145 a0_1 a0_2 a1_1 a1_0).bind fun bt155=>(some (bt155.1,bt155.2.1,bt155.2.2,true)))) else (none)) else (none)) else (none)) else (none))=some (r1,r2,r3,r4):=by first|(rw[hy145];with_reducible exact H)|(have H2_:=(Option.bind_some _ _).symm.trans H;rw[hy145];with_reducible exact H2_)|(have H2_:=(Option.bind_some _ _).symm.trans H;with_reducible exact H2_)|with_reducible exact H|(rw[hy145];exact H)|exact H
     have Ny145:=Aside0.mk hy145
     clear hy145
     by_cases c34:0≤a1_0
     ·rw[if_pos c34] at H
      have c34b0:decide (0≤a1_0)=true:=decide_eq_true c34
      clear c34
      by_cases c35:a1_0 < (y145.length:Int)
      ·rw[if_pos c35] at H
       have c35b0:decide (a1_0 < (y145.length:Int))=true:=decide_eq_true c35
       clear c35
       by_cases c36:0≤a1_1
       ·rw[if_pos c36] at H
        have c36b0:decide (0≤a1_1)=true:=decide_eq_true c36
        clear c36
        by_cases c37:a1_1 < (y145.length:Int)
        ·rw[if_pos c37] at H
         have c37b0:decide (a1_1 < (y145.length:Int))=true:=decide_eq_true c37
         clear c37
         by_cases c38:(rd y145 a1_0) ≥ (rd y145 a1_1)
         ·rw[if_pos c38] at H
          have c38b0:decide ((rd y145 a1_1)≤(rd y145 a1_0))=true:=decide_eq_true c38
          clear c38
          replace H:=Option.bind_eq_some_iff.mp H
          obtain⟨⟨t150,t153,t154⟩,A390,H⟩:=H
          replace H:(some (t150,t153,t154,true))=some (r1,r2,r3,r4):=H
          have A39:=Aside0.mk A390
          clear A390
          simp only[Option.some.injEq,Prod.mk.injEq] at H
          obtain⟨rfl,rfl,rfl,rfl⟩:=H
          go_wp2_with (first|((with_reducible refine gate_dst (N:=38) rfl ?_);refine Kd.R_lit (Kd.int .i64) _ 3 ?hg (N:=38) ?hd (xs:=([]:List Int)) (inner:=[]) (ok:=fun _=>True) (okp:=fun _=>True) ?hr ?hp (fun _ hk=>hk) trivial (Below.refl _ _) (Nat.le_refl _) (by simp) ?_;(case hd=>rfl);(case hg=>rfl);(case hr=>first|(go_simp;done)|(go_simp;rfl));(case hp=>exact(Reps.none _ _));intro v143 w40 ho41 hb hg_ hnew_;clear hg_ hnew_;(first|rw[← Ny142.out] at ho41|(simp only[Int.reduceToNat] at ho41;rw[← Ny142.out] at ho41));have n0_:=Aside0.mk (Kd.R_lower ho41 (below_size (bS3 GE139.out GE140.out GE141.out)));have n1_:=Aside0.mk (bM BK139.out hb);have n2_:=Aside0.mk (bM BK140.out hb);have n3_:=Aside0.mk (bM BK141.out hb);have n4_:=Aside0.mk (below_step (bS3 GE139.out GE140.out GE141.out) hb);clear BK139 BK140 BK141 HB;have HO144:=n0_;have BK139:=n1_;have BK140:=n2_;have BK141:=n3_;have HB:=n4_;clear n0_ n1_ n2_ n3_ n4_;clear hb ho41;have hnb42:=NB139_140.out;have hnc42:=NB140_139.out;have hnb43:=NB139_141.out;have hnc43:=NB141_139.out;obtain⟨hcz44_0,hcz44_1,hcz44_2⟩:=cC3 BK139.out;obtain⟨hfz44_0,hfz44_1,hfz44_2⟩:=cF3 BK139.out)|((with_reducible refine gate_builtin (b:=.append) (xs:=#[.tmp 38,.tmp 40]) rfl ?_);at_builtin;refine Kd.R_append_rows (Kd.int .i64) (w0:=w) w.heap.size rfl (.tmp 38) (.tmp 40) 33 3 (.int .i64 0) 8 rfl Try.underlying33 info3 rfl (by decide) (by omega) v143 y142 l0_0 _ _ _ (fun _=>True) (fun _=>False) rfl rfl ?aO ?aR (fun _ _ h=>h) (fun _ h=>h.elim) ?aF ?aB ?aS ?aL ?_;(case aR=>exact bC HR0_0.out);(case aB=>exact(bS3 GE139.out GE140.out GE141.out));(case aF=>exact(fun _ _=>trivial));(case aO=>exact(bK HO144.out));(case aS=>exact(below_size (bS3 GE139.out GE140.out GE141.out)));(case aL=>have:=LMc33.out;omega);intro v146 w45 ho hb hg hat;rw[← Ny145.out] at ho;have n0_:=Aside0.mk (blk_grown (g:=gb139) (o:=.cells #[.slice A0_0 l0_0.length c0_0,.int .i64 a0_1,.bool a0_2] 39 (0,0)) (bL BK139.out) hg (Kd.R_ne HO144.out BK139.out (by decide)));have n1_:=Aside0.mk (blk_grown (g:=gb140) (o:=.cells #[.int .i64 a1_0,.int .i64 a1_1] 60 (0,0)) (bL BK140.out) hg (Kd.R_ne HO144.out BK140.out (by decide)));have n2_:=Aside0.mk (blk_grown (g:=gb141) (o:=.cells #[.slice none 0 0,.int .i64 0,.bool false] 39 (0,0)) (bL BK141.out) hg (Kd.R_ne HO144.out BK141.out (by decide)));have n3_:=Aside0.mk (hb);have n4_:=Aside0.mk (ho);clear BK139 BK140 BK141 HB HO144;have BK139:=n0_;have BK140:=n1_;have BK141:=n2_;have HB:=n3_;have HO147:=n4_;clear n0_ n1_ n2_ n3_ n4_;clear ho hb hg hat;obtain⟨Ao46,co46,eo46⟩:=Kd.R_slice HO147.out;subst eo46;obtain⟨hcz47_0,hcz47_1,hcz47_2⟩:=cC3 BK139.out;obtain⟨hfz47_0,hfz47_1,hfz47_2⟩:=cF3 BK139.out)|((with_reducible refine gate_store (t:=33) (p:=42) rfl ?_);(try (rw[drewN_self w45];generalize hq_:World.drewN w45 _=w45;have n0_:=Aside0.mk (Kd.R_at hq_ HO147.out);have n1_:=Aside0.mk (blk_at hq_ BK139.out);have n2_:=Aside0.mk (blk_at hq_ BK140.out);have n3_:=Aside0.mk (blk_at hq_ BK141.out);have n4_:=Aside0.mk (below_at hq_ HB.out);clear hq_ HO147 BK139 BK140 BK141 HB;have HO147:=n0_;have BK139:=n1_;have BK140:=n2_;have BK141:=n3_;have HB:=n4_;clear n0_ n1_ n2_ n3_ n4_));refine store_event (t:=33) (p:=42) (v:=?vo_w48) (w1:=(w45.setCell ⟨gb139,0,none⟩ (.slice Ao46 y145.length co46))) ?hg ?ho ?hn ?hr ?_;(case ho=>rfl);(case hg=>rfl);(case hn=>rfl);(case hr=>first|(go_simp;done)|(go_simp;rfl));intro w48 hw;have n0_:Aside0 (Kd.R (Kd.int .i64) 3 w48 w.heap.size (fun _=>True) (.slice Ao46 y145.length co46) y145):=⟨(by rw[hw];exact(by(with_reducible repeat (first|apply Kd.R_alloc|apply Kd.R_drewN|apply Kd.R_drew));exact Kd.R_mono (Kd.R_far (p:=⟨gb139,0,none⟩) (Kd.R_types HO147.out BK139.out (by decide)) (fun _ hk=>hk.2) (.slice Ao46 y145.length co46)) (fun _ hk=>trivial)))⟩;have n1_:Aside0 (w48.heap[gb139]?=some (.cells #[.slice Ao46 y145.length co46,.int .i64 a0_1,.bool a0_2] 39 (0,0))):=⟨(by rw[hw];exact(by(with_reducible repeat (first|refine blk_drewN ?_ _|refine blk_drew ?_|refine blk_alloc ?_ _));refine blk_put (cs:=#[.slice A0_0 l0_0.length c0_0,.int .i64 a0_1,.bool a0_2]) ?_ 0 _ rfl;(with_reducible repeat (first|refine blk_drewN ?_ _|refine blk_drew ?_|refine blk_alloc ?_ _));exact BK139.out))⟩;have n2_:Aside0 (w48.heap[gb140]?=some (.cells #[.int .i64 a1_0,.int .i64 a1_1] 60 (0,0))):=⟨(by rw[hw];exact(by(with_reducible repeat (first|refine blk_drewN ?_ _|refine blk_drew ?_|refine blk_alloc ?_ _));refine blk_far ?_ NB140_139.out _;(with_reducible repeat (first|refine blk_drewN ?_ _|refine blk_drew ?_|refine blk_alloc ?_ _));exact BK140.out))⟩;have n3_:Aside0 (w48.heap[gb141]?=some (.cells #[.slice none 0 0,.int .i64 0,.bool false] 39 (0,0))):=⟨(by rw[hw];exact(by(with_reducible repeat (first|refine blk_drewN ?_ _|refine blk_drew ?_|refine blk_alloc ?_ _));refine blk_far ?_ NB141_139.out _;(with_reducible repeat (first|refine blk_drewN ?_ _|refine blk_drew ?_|refine blk_alloc ?_ _));exact BK141.out))⟩;have n4_:Aside0 (Below w.heap.size w w48):=⟨(by rw[hw];exact(bS3 GE139.out GE140.out GE141.out))⟩;clear hw HO147 BK139 BK140 BK141 HB;have HO147:=n0_;have BK139:=n1_;have BK140:=n2_;have BK141:=n3_;have HB:=n4_;clear n0_ n1_ n2_ n3_ n4_;obtain⟨hcz49_0,hcz49_1,hcz49_2⟩:=cC3 BK139.out;obtain⟨hfz49_0,hfz49_1,hfz49_2⟩:=cF3 BK139.out;have hnb50:=NB140_141.out;have hnc50:=NB141_140.out;obtain⟨hcz51_0,hcz51_1⟩:=cC2 BK140.out;obtain⟨hfz51_0,hfz51_1⟩:=cF2 BK140.out;have p148:0≤(a1_0:Int):=of_decide_eq_true (bD);have q148:a1_0 < (y145.length:Int):=of_decide_eq_true (bD);obtain⟨ad148,e148,hx148_0⟩:=Kd.at_int (Kd.R_reads' HO147.out).2.2 a1_0 p148 q148;cases e148;replace p148:=eq_true p148;replace q148:=eq_true q148;have p149:0≤(a1_1:Int):=of_decide_eq_true (bD);have q149:a1_1 < (y145.length:Int):=of_decide_eq_true (bD);obtain⟨ad149,e149,hx149_0⟩:=Kd.at_int (Kd.R_reads' HO147.out).2.2 a1_1 p149 q149;obtain rfl:ad148=ad149:=(by injection e149);replace p149:=eq_true p149;replace q149:=eq_true q149)|(go_at_call 150;(with_reducible refine(spec_l15Give.calls (fun k_=>some k_=(.slice (some ad148) y145.length co46:Value).ownBlock) (.slice (some ad148) y145.length co46) y145 a0_1 a0_2 a1_0 a1_1 t150 t153 t154 w _ ?side1 ?side2 A39.out).mono ?_);(case side1=>repeat (first|(with_reducible first|exact HB.out|apply below_alloc|apply pw_below_drewN|apply below_drew1|refine below_set ?_ GE139.out|refine below_set ?_ GE140.out|refine below_set ?_ GE141.out)|exact HB.out));(case side2=>exact Kd.R_tight rfl HO147.out);rintro e w52 ⟨v151,rfl,ho0,hb,hkp⟩;have n0_:=Aside0.mk (blk_kept (bL BK139.out) hkp (fun hs_=>(fun e_=>(Kd.R_ne HO147.out BK139.out (by decide)) e_) hs_));have n1_:=Aside0.mk (blk_kept (bL BK140.out) hkp (fun hs_=>(fun e_=>(Kd.R_ne HO147.out BK140.out (by decide)) e_) hs_));have n2_:=Aside0.mk (blk_kept (bL BK141.out) hkp (fun hs_=>(fun e_=>(Kd.R_ne HO147.out BK141.out (by decide)) e_) hs_));have n3_:=Aside0.mk (Kd.R_mono (ok':=fun k_=>True) ho0 (fun k_ hk_=>trivial));have n4_:=Aside0.mk (hb);clear BK139 BK140 BK141 HB HO147;have BK139:=n0_;have BK140:=n1_;have BK141:=n2_;have HO152:=n3_;have HB:=n4_;clear n0_ n1_ n2_ n3_ n4_;(try clear hb);(try clear hkp);(try clear ho0);obtain⟨Ao53,co53,eo53⟩:=Kd.R_slice HO152.out;subst eo53;obtain⟨hcz54_0,hcz54_1,hcz54_2⟩:=cC3 BK141.out;obtain⟨hfz54_0,hfz54_1,hfz54_2⟩:=cF3 BK141.out))
          repeat (go_quiet (first|((with_reducible refine gate_dst (N:=38) rfl ?_);refine Kd.R_lit (Kd.int .i64) _ 3 ?hg (N:=38) ?hd (xs:=([]:List Int)) (inner:=[]) (ok:=fun _=>True) (okp:=fun _=>True) ?hr ?hp (fun _ hk=>hk) trivial (Below.refl _ _) (Nat.le_refl _) (by simp) ?_;(case hd=>rfl);(case hg=>rfl);(case hr=>first|(go_simp;done)|(go_simp;rfl));(case hp=>exact(Reps.none _ _));intro v143 w40 ho41 hb hg_ hnew_;clear hg_ hnew_;(first|rw[← Ny142.out] at ho41|(simp only[Int.reduceToNat] at ho41;rw[← Ny142.out] at ho41));have n0_:=Aside0.mk (Kd.R_lower ho41 (below_size (bS3 GE139.out GE140.out GE141.out)));have n1_:=Aside0.mk (bM BK139.out hb);have n2_:=Aside0.mk (bM BK140.out hb);have n3_:=Aside0.mk (bM BK141.out hb);have n4_:=Aside0.mk (below_step (bS3 GE139.out GE140.out GE141.out) hb);clear BK139 BK140 BK141 HB;have HO144:=n0_;have BK139:=n1_;have BK140:=n2_;have BK141:=n3_;have HB:=n4_;clear n0_ n1_ n2_ n3_ n4_;clear hb ho41;have hnb42:=NB139_140.out;have hnc42:=NB140_139.out;have hnb43:=NB139_141.out;have hnc43:=NB141_139.out;obtain⟨hcz44_0,hcz44_1,hcz44_2⟩:=cC3 BK139.out;obtain⟨hfz44_0,hfz44_1,hfz44_2⟩:=cF3 BK139.out)|((with_reducible refine gate_builtin (b:=.append) (xs:=#[.tmp 38,.tmp 40]) rfl ?_);at_builtin;refine Kd.R_append_rows (Kd.int .i64) (w0:=w) w.heap.size rfl (.tmp 38) (.tmp 40) 33 3 (.int .i64 0) 8 rfl Try.underlying33 info3 rfl (by decide) (by omega) v143 y142 l0_0 _ _ _ (fun _=>True) (fun _=>False) rfl rfl ?aO ?aR (fun _ _ h=>h) (fun _ h=>h.elim) ?aF ?aB ?aS ?aL ?_;(case aR=>exact bC HR0_0.out);(case aB=>exact(bS3 GE139.out GE140.out GE141.out));(case aF=>exact(fun _ _=>trivial));(case aO=>exact(bK HO144.out));(case aS=>exact(below_size (bS3 GE139.out GE140.out GE141.out)));(case aL=>have:=LMc33.out;omega);intro v146 w45 ho hb hg hat;rw[← Ny145.out] at ho;have n0_:=Aside0.mk (blk_grown (g:=gb139) (o:=.cells #[.slice A0_0 l0_0.length c0_0,.int .i64 a0_1,.bool a0_2] 39 (0,0)) (bL BK139.out) hg (Kd.R_ne HO144.out BK139.out (by decide)));have n1_:=Aside0.mk (blk_grown (g:=gb140) (o:=.cells #[.int .i64 a1_0,.int .i64 a1_1] 60 (0,0)) (bL BK140.out) hg (Kd.R_ne HO144.out BK140.out (by decide)));have n2_:=Aside0.mk (blk_grown (g:=gb141) (o:=.cells #[.slice none 0 0,.int .i64 0,.bool false] 39 (0,0)) (bL BK141.out) hg (Kd.R_ne HO144.out BK141.out (by decide)));have n3_:=Aside0.mk (hb);have n4_:=Aside0.mk (ho);clear BK139 BK140 BK141 HB HO144;have BK139:=n0_;have BK140:=n1_;have BK141:=n2_;have HB:=n3_;have HO147:=n4_;clear n0_ n1_ n2_ n3_ n4_;clear ho hb hg hat;obtain⟨Ao46,co46,eo46⟩:=Kd.R_slice HO147.out;subst eo46;obtain⟨hcz47_0,hcz47_1,hcz47_2⟩:=cC3 BK139.out;obtain⟨hfz47_0,hfz47_1,hfz47_2⟩:=cF3 BK139.out)|((with_reducible refine gate_store (t:=33) (p:=42) rfl ?_);(try (rw[drewN_self w45];generalize hq_:World.drewN w45 _=w45;have n0_:=Aside0.mk (Kd.R_at hq_ HO147.out);have n1_:=Aside0.mk (blk_at hq_ BK139.out);have n2_:=Aside0.mk (blk_at hq_ BK140.out);have n3_:=Aside0.mk (blk_at hq_ BK141.out);have n4_:=Aside0.mk (below_at hq_ HB.out);clear hq_ HO147 BK139 BK140 BK141 HB;have HO147:=n0_;have BK139:=n1_;have BK140:=n2_;have BK141:=n3_;have HB:=n4_;clear n0_ n1_ n2_ n3_ n4_));refine store_event (t:=33) (p:=42) (v:=?vo_w48) (w1:=(w45.setCell ⟨gb139,0,none⟩ (.slice Ao46 y145.length co46))) ?hg ?ho ?hn ?hr ?_;(case ho=>rfl);(case hg=>rfl);(case hn=>rfl);(case hr=>first|(go_simp;done)|(go_simp;rfl));intro w48 hw;have n0_:Aside0 (Kd.R (Kd.int .i64) 3 w48 w.heap.size (fun _=>True) (.slice Ao46 y145.length co46) y145):=⟨(by rw[hw];exact(by(with_reducible repeat (first|apply Kd.R_alloc|apply Kd.R_drewN|apply Kd.R_drew));exact Kd.R_mono (Kd.R_far (p:=⟨gb139,0,none⟩) (Kd.R_types HO147.out BK139.out (by decide)) (fun _ hk=>hk.2) (.slice Ao46 y145.length co46)) (fun _ hk=>trivial)))⟩;have n1_:Aside0 (w48.heap[gb139]?=some (.cells #[.slice Ao46 y145.length co46,.int .i64 a0_1,.bool a0_2] 39 (0,0))):=⟨(by rw[hw];exact(by(with_reducible repeat (first|refine blk_drewN ?_ _|refine blk_drew ?_|refine blk_alloc ?_ _));refine blk_put (cs:=#[.slice A0_0 l0_0.length c0_0,.int .i64 a0_1,.bool a0_2]) ?_ 0 _ rfl;(with_reducible repeat (first|refine blk_drewN ?_ _|refine blk_drew ?_|refine blk_alloc ?_ _));exact BK139.out))⟩;have n2_:Aside0 (w48.heap[gb140]?=some (.cells #[.int .i64 a1_0,.int .i64 a1_1] 60 (0,0))):=⟨(by rw[hw];exact(by(with_reducible repeat (first|refine blk_drewN ?_ _|refine blk_drew ?_|refine blk_alloc ?_ _));refine blk_far ?_ NB140_139.out _;(with_reducible repeat (first|refine blk_drewN ?_ _|refine blk_drew ?_|refine blk_alloc ?_ _));exact BK140.out))⟩;have n3_:Aside0 (w48.heap[gb141]?=some (.cells #[.slice none 0 0,.int .i64 0,.bool false] 39 (0,0))):=⟨(by rw[hw];exact(by(with_reducible repeat (first|refine blk_drewN ?_ _|refine blk_drew ?_|refine blk_alloc ?_ _));refine blk_far ?_ NB141_139.out _;(with_reducible repeat (first|refine blk_drewN ?_ _|refine blk_drew ?_|refine blk_alloc ?_ _));exact BK141.out))⟩;have n4_:Aside0 (Below w.heap.size w w48):=⟨(by rw[hw];exact(bS3 GE139.out GE140.out GE141.out))⟩;clear hw HO147 BK139 BK140 BK141 HB;have HO147:=n0_;have BK139:=n1_;have BK140:=n2_;have BK141:=n3_;have HB:=n4_;clear n0_ n1_ n2_ n3_ n4_;obtain⟨hcz49_0,hcz49_1,hcz49_2⟩:=cC3 BK139.out;obtain⟨hfz49_0,hfz49_1,hfz49_2⟩:=cF3 BK139.out;have hnb50:=NB140_141.out;have hnc50:=NB141_140.out;obtain⟨hcz51_0,hcz51_1⟩:=cC2 BK140.out;obtain⟨hfz51_0,hfz51_1⟩:=cF2 BK140.out;have p148:0≤(a1_0:Int):=of_decide_eq_true (bD);have q148:a1_0 < (y145.length:Int):=of_decide_eq_true (bD);obtain⟨ad148,e148,hx148_0⟩:=Kd.at_int (Kd.R_reads' HO147.out).2.2 a1_0 p148 q148;cases e148;replace p148:=eq_true p148;replace q148:=eq_true q148;have p149:0≤(a1_1:Int):=of_decide_eq_true (bD);have q149:a1_1 < (y145.length:Int):=of_decide_eq_true (bD);obtain⟨ad149,e149,hx149_0⟩:=Kd.at_int (Kd.R_reads' HO147.out).2.2 a1_1 p149 q149;obtain rfl:ad148=ad149:=(by injection e149);replace p149:=eq_true p149;replace q149:=eq_true q149)|(go_at_call 150;(with_reducible refine(spec_l15Give.calls (fun k_=>some k_=(.slice (some ad148) y145.length co46:Value).ownBlock) (.slice (some ad148) y145.length co46) y145 a0_1 a0_2 a1_0 a1_1 t150 t153 t154 w _ ?side1 ?side2 A39.out).mono ?_);(case side1=>repeat (first|(with_reducible first|exact HB.out|apply below_alloc|apply pw_below_drewN|apply below_drew1|refine below_set ?_ GE139.out|refine below_set ?_ GE140.out|refine below_set ?_ GE141.out)|exact HB.out));(case side2=>exact Kd.R_tight rfl HO147.out);rintro e w52 ⟨v151,rfl,ho0,hb,hkp⟩;have n0_:=Aside0.mk (blk_kept (bL BK139.out) hkp (fun hs_=>(fun e_=>(Kd.R_ne HO147.out BK139.out (by decide)) e_) hs_));have n1_:=Aside0.mk (blk_kept (bL BK140.out) hkp (fun hs_=>(fun e_=>(Kd.R_ne HO147.out BK140.out (by decide)) e_) hs_));have n2_:=Aside0.mk (blk_kept (bL BK141.out) hkp (fun hs_=>(fun e_=>(Kd.R_ne HO147.out BK141.out (by decide)) e_) hs_));have n3_:=Aside0.mk (Kd.R_mono (ok':=fun k_=>True) ho0 (fun k_ hk_=>trivial));have n4_:=Aside0.mk (hb);clear BK139 BK140 BK141 HB HO147;have BK139:=n0_;have BK140:=n1_;have BK141:=n2_;have HO152:=n3_;have HB:=n4_;clear n0_ n1_ n2_ n3_ n4_;(try clear hb);(try clear hkp);(try clear ho0);obtain⟨Ao53,co53,eo53⟩:=Kd.R_slice HO152.out;subst eo53;obtain⟨hcz54_0,hcz54_1,hcz54_2⟩:=cC3 BK141.out;obtain⟨hfz54_0,hfz54_1,hfz54_2⟩:=cF3 BK141.out));try go_wp2_with (first|((with_reducible refine gate_dst (N:=38) rfl ?_);refine Kd.R_lit (Kd.int .i64) _ 3 ?hg (N:=38) ?hd (xs:=([]:List Int)) (inner:=[]) (ok:=fun _=>True) (okp:=fun _=>True) ?hr ?hp (fun _ hk=>hk) trivial (Below.refl _ _) (Nat.le_refl _) (by simp) ?_;(case hd=>rfl);(case hg=>rfl);(case hr=>first|(go_simp;done)|(go_simp;rfl));(case hp=>exact(Reps.none _ _));intro v143 w40 ho41 hb hg_ hnew_;clear hg_ hnew_;(first|rw[← Ny142.out] at ho41|(simp only[Int.reduceToNat] at ho41;rw[← Ny142.out] at ho41));have n0_:=Aside0.mk (Kd.R_lower ho41 (below_size (bS3 GE139.out GE140.out GE141.out)));have n1_:=Aside0.mk (bM BK139.out hb);have n2_:=Aside0.mk (bM BK140.out hb);have n3_:=Aside0.mk (bM BK141.out hb);have n4_:=Aside0.mk (below_step (bS3 GE139.out GE140.out GE141.out) hb);clear BK139 BK140 BK141 HB;have HO144:=n0_;have BK139:=n1_;have BK140:=n2_;have BK141:=n3_;have HB:=n4_;clear n0_ n1_ n2_ n3_ n4_;clear hb ho41;have hnb42:=NB139_140.out;have hnc42:=NB140_139.out;have hnb43:=NB139_141.out;have hnc43:=NB141_139.out;obtain⟨hcz44_0,hcz44_1,hcz44_2⟩:=cC3 BK139.out;obtain⟨hfz44_0,hfz44_1,hfz44_2⟩:=cF3 BK139.out)|((with_reducible refine gate_builtin (b:=.append) (xs:=#[.tmp 38,.tmp 40]) rfl ?_);at_builtin;refine Kd.R_append_rows (Kd.int .i64) (w0:=w) w.heap.size rfl (.tmp 38) (.tmp 40) 33 3 (.int .i64 0) 8 rfl Try.underlying33 info3 rfl (by decide) (by omega) v143 y142 l0_0 _ _ _ (fun _=>True) (fun _=>False) rfl rfl ?aO ?aR (fun _ _ h=>h) (fun _ h=>h.elim) ?aF ?aB ?aS ?aL ?_;(case aR=>exact bC HR0_0.out);(case aB=>exact(bS3 GE139.out GE140.out GE141.out));(case aF=>exact(fun _ _=>trivial));(case aO=>exact(bK HO144.out));(case aS=>exact(below_size (bS3 GE139.out GE140.out GE141.out)));(case aL=>have:=LMc33.out;omega);intro v146 w45 ho hb hg hat;rw[← Ny145.out] at ho;have n0_:=Aside0.mk (blk_grown (g:=gb139) (o:=.cells #[.slice A0_0 l0_0.length c0_0,.int .i64 a0_1,.bool a0_2] 39 (0,0)) (bL BK139.out) hg (Kd.R_ne HO144.out BK139.out (by decide)));have n1_:=Aside0.mk (blk_grown (g:=gb140) (o:=.cells #[.int .i64 a1_0,.int .i64 a1_1] 60 (0,0)) (bL BK140.out) hg (Kd.R_ne HO144.out BK140.out (by decide)));have n2_:=Aside0.mk (blk_grown (g:=gb141) (o:=.cells #[.slice none 0 0,.int .i64 0,.bool false] 39 (0,0)) (bL BK141.out) hg (Kd.R_ne HO144.out BK141.out (by decide)));have n3_:=Aside0.mk (hb);have n4_:=Aside0.mk (ho);clear BK139 BK140 BK141 HB HO144;have BK139:=n0_;have BK140:=n1_;have BK141:=n2_;have HB:=n3_;have HO147:=n4_;clear n0_ n1_ n2_ n3_ n4_;clear ho hb hg hat;obtain⟨Ao46,co46,eo46⟩:=Kd.R_slice HO147.out;subst eo46;obtain⟨hcz47_0,hcz47_1,hcz47_2⟩:=cC3 BK139.out;obtain⟨hfz47_0,hfz47_1,hfz47_2⟩:=cF3 BK139.out)|((with_reducible refine gate_store (t:=33) (p:=42) rfl ?_);(try (rw[drewN_self w45];generalize hq_:World.drewN w45 _=w45;have n0_:=Aside0.mk (Kd.R_at hq_ HO147.out);have n1_:=Aside0.mk (blk_at hq_ BK139.out);have n2_:=Aside0.mk (blk_at hq_ BK140.out);have n3_:=Aside0.mk (blk_at hq_ BK141.out);have n4_:=Aside0.mk (below_at hq_ HB.out);clear hq_ HO147 BK139 BK140 BK141 HB;have HO147:=n0_;have BK139:=n1_;have BK140:=n2_;have BK141:=n3_;have HB:=n4_;clear n0_ n1_ n2_ n3_ n4_));refine store_event (t:=33) (p:=42) (v:=?vo_w48) (w1:=(w45.setCell ⟨gb139,0,none⟩ (.slice Ao46 y145.length co46))) ?hg ?ho ?hn ?hr ?_;(case ho=>rfl);(case hg=>rfl);(case hn=>rfl);(case hr=>first|(go_simp;done)|(go_simp;rfl));intro w48 hw;have n0_:Aside0 (Kd.R (Kd.int .i64) 3 w48 w.heap.size (fun _=>True) (.slice Ao46 y145.length co46) y145):=⟨(by rw[hw];exact(by(with_reducible repeat (first|apply Kd.R_alloc|apply Kd.R_drewN|apply Kd.R_drew));exact Kd.R_mono (Kd.R_far (p:=⟨gb139,0,none⟩) (Kd.R_types HO147.out BK139.out (by decide)) (fun _ hk=>hk.2) (.slice Ao46 y145.length co46)) (fun _ hk=>trivial)))⟩;have n1_:Aside0 (w48.heap[gb139]?=some (.cells #[.slice Ao46 y145.length co46,.int .i64 a0_1,.bool a0_2] 39 (0,0))):=⟨(by rw[hw];exact(by(with_reducible repeat (first|refine blk_drewN ?_ _|refine blk_drew ?_|refine blk_alloc ?_ _));refine blk_put (cs:=#[.slice A0_0 l0_0.length c0_0,.int .i64 a0_1,.bool a0_2]) ?_ 0 _ rfl;(with_reducible repeat (first|refine blk_drewN ?_ _|refine blk_drew ?_|refine blk_alloc ?_ _));exact BK139.out))⟩;have n2_:Aside0 (w48.heap[gb140]?=some (.cells #[.int .i64 a1_0,.int .i64 a1_1] 60 (0,0))):=⟨(by rw[hw];exact(by(with_reducible repeat (first|refine blk_drewN ?_ _|refine blk_drew ?_|refine blk_alloc ?_ _));refine blk_far ?_ NB140_139.out _;(with_reducible repeat (first|refine blk_drewN ?_ _|refine blk_drew ?_|refine blk_alloc ?_ _));exact BK140.out))⟩;have n3_:Aside0 (w48.heap[gb141]?=some (.cells #[.slice none 0 0,.int .i64 0,.bool false] 39 (0,0))):=⟨(by rw[hw];exact(by(with_reducible repeat (first|refine blk_drewN ?_ _|refine blk_drew ?_|refine blk_alloc ?_ _));refine blk_far ?_ NB141_139.out _;(with_reducible repeat (first|refine blk_drewN ?_ _|refine blk_drew ?_|refine blk_alloc ?_ _));exact BK141.out))⟩;have n4_:Aside0 (Below w.heap.size w w48):=⟨(by rw[hw];exact(bS3 GE139.out GE140.out GE141.out))⟩;clear hw HO147 BK139 BK140 BK141 HB;have HO147:=n0_;have BK139:=n1_;have BK140:=n2_;have BK141:=n3_;have HB:=n4_;clear n0_ n1_ n2_ n3_ n4_;obtain⟨hcz49_0,hcz49_1,hcz49_2⟩:=cC3 BK139.out;obtain⟨hfz49_0,hfz49_1,hfz49_2⟩:=cF3 BK139.out;have hnb50:=NB140_141.out;have hnc50:=NB141_140.out;obtain⟨hcz51_0,hcz51_1⟩:=cC2 BK140.out;obtain⟨hfz51_0,hfz51_1⟩:=cF2 BK140.out;have p148:0≤(a1_0:Int):=of_decide_eq_true (bD);have q148:a1_0 < (y145.length:Int):=of_decide_eq_true (bD);obtain⟨ad148,e148,hx148_0⟩:=Kd.at_int (Kd.R_reads' HO147.out).2.2 a1_0 p148 q148;cases e148;replace p148:=eq_true p148;replace q148:=eq_true q148;have p149:0≤(a1_1:Int):=of_decide_eq_true (bD);have q149:a1_1 < (y145.length:Int):=of_decide_eq_true (bD);obtain⟨ad149,e149,hx149_0⟩:=Kd.at_int (Kd.R_reads' HO147.out).2.2 a1_1 p149 q149;obtain rfl:ad148=ad149:=(by injection e149);replace p149:=eq_true p149;replace q149:=eq_true q149)|(go_at_call 150;(with_reducible refine(spec_l15Give.calls (fun k_=>some k_=(.slice (some ad148) y145.length co46:Value).ownBlock) (.slice (some ad148) y145.length co46) y145 a0_1 a0_2 a1_0 a1_1 t150 t153 t154 w _ ?side1 ?side2 A39.out).mono ?_);(case side1=>repeat (first|(with_reducible first|exact HB.out|apply below_alloc|apply pw_below_drewN|apply below_drew1|refine below_set ?_ GE139.out|refine below_set ?_ GE140.out|refine below_set ?_ GE141.out)|exact HB.out));(case side2=>exact Kd.R_tight rfl HO147.out);rintro e w52 ⟨v151,rfl,ho0,hb,hkp⟩;have n0_:=Aside0.mk (blk_kept (bL BK139.out) hkp (fun hs_=>(fun e_=>(Kd.R_ne HO147.out BK139.out (by decide)) e_) hs_));have n1_:=Aside0.mk (blk_kept (bL BK140.out) hkp (fun hs_=>(fun e_=>(Kd.R_ne HO147.out BK140.out (by decide)) e_) hs_));have n2_:=Aside0.mk (blk_kept (bL BK141.out) hkp (fun hs_=>(fun e_=>(Kd.R_ne HO147.out BK141.out (by decide)) e_) hs_));have n3_:=Aside0.mk (Kd.R_mono (ok':=fun k_=>True) ho0 (fun k_ hk_=>trivial));have n4_:=Aside0.mk (hb);clear BK139 BK140 BK141 HB HO147;have BK139:=n0_;have BK140:=n1_;have BK141:=n2_;have HO152:=n3_;have HB:=n4_;clear n0_ n1_ n2_ n3_ n4_;(try clear hb);(try clear hkp);(try clear ho0);obtain⟨Ao53,co53,eo53⟩:=Kd.R_slice HO152.out;subst eo53;obtain⟨hcz54_0,hcz54_1,hcz54_2⟩:=cC3 BK141.out;obtain⟨hfz54_0,hfz54_1,hfz54_2⟩:=cF3 BK141.out)))
          refine bodyPost_ret (results_ct rfl _ _ gb141 39 #[.slice Ao53 t150.length co53,.int .i64 t153,.bool t154] (0,0) _ rfl (by(with_reducible repeat (first|refine blk_drewN ?_ _|refine blk_drew ?_|refine blk_alloc ?_ _));refine blk_put (cs:=#[.slice Ao53 t150.length co53,.int .i64 t153,.bool false]) ?_ 2 _ rfl;(with_reducible repeat (first|refine blk_drewN ?_ _|refine blk_drew ?_|refine blk_alloc ?_ _));refine blk_put (cs:=#[.slice Ao53 t150.length co53,.int .i64 0,.bool false]) ?_ 1 _ rfl;(with_reducible repeat (first|refine blk_drewN ?_ _|refine blk_drew ?_|refine blk_alloc ?_ _));refine blk_put (cs:=#[.slice none 0 0,.int .i64 0,.bool false]) ?_ 0 _ rfl;(with_reducible repeat (first|refine blk_drewN ?_ _|refine blk_drew ?_|refine blk_alloc ?_ _));exact BK141.out) Try.underlying39 rfl (by kernel_rfl)) rfl ?_
          exact⟨_,by first|rfl|(simp[errW_none,errW_some]<;>rfl)|(simp[*,errW_none,errW_some]<;>rfl),by(with_reducible repeat (first|apply Kd.R_alloc|apply Kd.R_drewN|apply Kd.R_drew));exact Kd.R_mono (Kd.R_far (p:=⟨gb141,2,none⟩) (Kd.R_far (p:=⟨gb141,1,none⟩) (Kd.R_far (p:=⟨gb141,0,none⟩) (Kd.R_types HO152.out BK141.out (by decide)) (fun _ hk=>hk.2) (.slice Ao53 t150.length co53)) (fun _ hk=>hk.2) (.int .i64 t153)) (fun _ hk=>hk.2) (.bool t154)) (fun _ hk=>trivial),bS3 GE139.out GE140.out GE141.out⟩
         ·rw[if_neg c38] at H
          have c38b0:decide ((rd y145 a1_1)≤(rd y145 a1_0))=false:=decide_eq_false c38
          clear c38
          replace H:=Option.bind_eq_some_iff.mp H
          obtain⟨⟨t155,t158,t159⟩,A550,H⟩:=H
          replace H:(some (t155,t158,t159,true))=some (r1,r2,r3,r4):=H
          have A55:=Aside0.mk A550
          clear A550
          simp only[Option.some.injEq,Prod.mk.injEq] at H
          obtain⟨rfl,rfl,rfl,rfl⟩:=H
          go_wp2_with (first|((with_reducible refine gate_dst (N:=38) rfl ?_);refine Kd.R_lit (Kd.int .i64) _ 3 ?hg (N:=38) ?hd (xs:=([]:List Int)) (inner:=[]) (ok:=fun _=>True) (okp:=fun _=>True) ?hr ?hp (fun _ hk=>hk) trivial (Below.refl _ _) (Nat.le_refl _) (by simp) ?_;(case hd=>rfl);(case hg=>rfl);(case hr=>first|(go_simp;done)|(go_simp;rfl));(case hp=>exact(Reps.none _ _));intro v143 w56 ho57 hb hg_ hnew_;clear hg_ hnew_;(first|rw[← Ny142.out] at ho57|(simp only[Int.reduceToNat] at ho57;rw[← Ny142.out] at ho57));have n0_:=Aside0.mk (Kd.R_lower ho57 (below_size (bS3 GE139.out GE140.out GE141.out)));have n1_:=Aside0.mk (bM BK139.out hb);have n2_:=Aside0.mk (bM BK140.out hb);have n3_:=Aside0.mk (bM BK141.out hb);have n4_:=Aside0.mk (below_step (bS3 GE139.out GE140.out GE141.out) hb);clear BK139 BK140 BK141 HB;have HO144:=n0_;have BK139:=n1_;have BK140:=n2_;have BK141:=n3_;have HB:=n4_;clear n0_ n1_ n2_ n3_ n4_;clear hb ho57;have hnb58:=NB139_140.out;have hnc58:=NB140_139.out;have hnb59:=NB139_141.out;have hnc59:=NB141_139.out;obtain⟨hcz60_0,hcz60_1,hcz60_2⟩:=cC3 BK139.out;obtain⟨hfz60_0,hfz60_1,hfz60_2⟩:=cF3 BK139.out)|((with_reducible refine gate_builtin (b:=.append) (xs:=#[.tmp 38,.tmp 40]) rfl ?_);at_builtin;refine Kd.R_append_rows (Kd.int .i64) (w0:=w) w.heap.size rfl (.tmp 38) (.tmp 40) 33 3 (.int .i64 0) 8 rfl Try.underlying33 info3 rfl (by decide) (by omega) v143 y142 l0_0 _ _ _ (fun _=>True) (fun _=>False) rfl rfl ?aO ?aR (fun _ _ h=>h) (fun _ h=>h.elim) ?aF ?aB ?aS ?aL ?_;(case aR=>exact bC HR0_0.out);(case aB=>exact(bS3 GE139.out GE140.out GE141.out));(case aF=>exact(fun _ _=>trivial));(case aO=>exact(bK HO144.out));(case aS=>exact(below_size (bS3 GE139.out GE140.out GE141.out)));(case aL=>have:=LMc33.out;omega);intro v146 w61 ho hb hg hat;rw[← Ny145.out] at ho;have n0_:=Aside0.mk (blk_grown (g:=gb139) (o:=.cells #[.slice A0_0 l0_0.length c0_0,.int .i64 a0_1,.bool a0_2] 39 (0,0)) (bL BK139.out) hg (Kd.R_ne HO144.out BK139.out (by decide)));have n1_:=Aside0.mk (blk_grown (g:=gb140) (o:=.cells #[.int .i64 a1_0,.int .i64 a1_1] 60 (0,0)) (bL BK140.out) hg (Kd.R_ne HO144.out BK140.out (by decide)));have n2_:=Aside0.mk (blk_grown (g:=gb141) (o:=.cells #[.slice none 0 0,.int .i64 0,.bool false] 39 (0,0)) (bL BK141.out) hg (Kd.R_ne HO144.out BK141.out (by decide)));have n3_:=Aside0.mk (hb);have n4_:=Aside0.mk (ho);clear BK139 BK140 BK141 HB HO144;have BK139:=n0_;have BK140:=n1_;have BK141:=n2_;have HB:=n3_;have HO147:=n4_;clear n0_ n1_ n2_ n3_ n4_;clear ho hb hg hat;obtain⟨Ao62,co62,eo62⟩:=Kd.R_slice HO147.out;subst eo62;obtain⟨hcz63_0,hcz63_1,hcz63_2⟩:=cC3 BK139.out;obtain⟨hfz63_0,hfz63_1,hfz63_2⟩:=cF3 BK139.out)|((with_reducible refine gate_store (t:=33) (p:=42) rfl ?_);(try (rw[drewN_self w61];generalize hq_:World.drewN w61 _=w61;have n0_:=Aside0.mk (Kd.R_at hq_ HO147.out);have n1_:=Aside0.mk (blk_at hq_ BK139.out);have n2_:=Aside0.mk (blk_at hq_ BK140.out);have n3_:=Aside0.mk (blk_at hq_ BK141.out);have n4_:=Aside0.mk (below_at hq_ HB.out);clear hq_ HO147 BK139 BK140 BK141 HB;have HO147:=n0_;have BK139:=n1_;have BK140:=n2_;have BK141:=n3_;have HB:=n4_;clear n0_ n1_ n2_ n3_ n4_));refine store_event (t:=33) (p:=42) (v:=?vo_w64) (w1:=(w61.setCell ⟨gb139,0,none⟩ (.slice Ao62 y145.length co62))) ?hg ?ho ?hn ?hr ?_;(case ho=>rfl);(case hg=>rfl);(case hn=>rfl);(case hr=>first|(go_simp;done)|(go_simp;rfl));intro w64 hw;have n0_:Aside0 (Kd.R (Kd.int .i64) 3 w64 w.heap.size (fun _=>True) (.slice Ao62 y145.length co62) y145):=⟨(by rw[hw];exact(by(with_reducible repeat (first|apply Kd.R_alloc|apply Kd.R_drewN|apply Kd.R_drew));exact Kd.R_mono (Kd.R_far (p:=⟨gb139,0,none⟩) (Kd.R_types HO147.out BK139.out (by decide)) (fun _ hk=>hk.2) (.slice Ao62 y145.length co62)) (fun _ hk=>trivial)))⟩;have n1_:Aside0 (w64.heap[gb139]?=some (.cells #[.slice Ao62 y145.length co62,.int .i64 a0_1,.bool a0_2] 39 (0,0))):=⟨(by rw[hw];exact(by(with_reducible repeat (first|refine blk_drewN ?_ _|refine blk_drew ?_|refine blk_alloc ?_ _));refine blk_put (cs:=#[.slice A0_0 l0_0.length c0_0,.int .i64 a0_1,.bool a0_2]) ?_ 0 _ rfl;(with_reducible repeat (first|refine blk_drewN ?_ _|refine blk_drew ?_|refine blk_alloc ?_ _));exact BK139.out))⟩;have n2_:Aside0 (w64.heap[gb140]?=some (.cells #[.int .i64 a1_0,.int .i64 a1_1] 60 (0,0))):=⟨(by rw[hw];exact(by(with_reducible repeat (first|refine blk_drewN ?_ _|refine blk_drew ?_|refine blk_alloc ?_ _));refine blk_far ?_ NB140_139.out _;(with_reducible repeat (first|refine blk_drewN ?_ _|refine blk_drew ?_|refine blk_alloc ?_ _));exact BK140.out))⟩;have n3_:Aside0 (w64.heap[gb141]?=some (.cells #[.slice none 0 0,.int .i64 0,.bool false] 39 (0,0))):=⟨(by rw[hw];exact(by(with_reducible repeat (first|refine blk_drewN ?_ _|refine blk_drew ?_|refine blk_alloc ?_ _));refine blk_far ?_ NB141_139.out _;(with_reducible repeat (first|refine blk_drewN ?_ _|refine blk_drew ?_|refine blk_alloc ?_ _));exact BK141.out))⟩;have n4_:Aside0 (Below w.heap.size w w64):=⟨(by rw[hw];exact(bS3 GE139.out GE140.out GE141.out))⟩;clear hw HO147 BK139 BK140 BK141 HB;have HO147:=n0_;have BK139:=n1_;have BK140:=n2_;have BK141:=n3_;have HB:=n4_;clear n0_ n1_ n2_ n3_ n4_;obtain⟨hcz65_0,hcz65_1,hcz65_2⟩:=cC3 BK139.out;obtain⟨hfz65_0,hfz65_1,hfz65_2⟩:=cF3 BK139.out;have hnb66:=NB140_141.out;have hnc66:=NB141_140.out;obtain⟨hcz67_0,hcz67_1⟩:=cC2 BK140.out;obtain⟨hfz67_0,hfz67_1⟩:=cF2 BK140.out;have p148:0≤(a1_0:Int):=of_decide_eq_true (bD);have q148:a1_0 < (y145.length:Int):=of_decide_eq_true (bD);obtain⟨ad148,e148,hx148_0⟩:=Kd.at_int (Kd.R_reads' HO147.out).2.2 a1_0 p148 q148;cases e148;replace p148:=eq_true p148;replace q148:=eq_true q148;have p149:0≤(a1_1:Int):=of_decide_eq_true (bD);have q149:a1_1 < (y145.length:Int):=of_decide_eq_true (bD);obtain⟨ad149,e149,hx149_0⟩:=Kd.at_int (Kd.R_reads' HO147.out).2.2 a1_1 p149 q149;obtain rfl:ad148=ad149:=(by injection e149);replace p149:=eq_true p149;replace q149:=eq_true q149)|(go_at_call 150;(with_reducible refine(spec_l15Give.calls (fun k_=>some k_=(.slice (some ad148) y145.length co62:Value).ownBlock) (.slice (some ad148) y145.length co62) y145 a0_1 a0_2 a1_1 a1_0 t155 t158 t159 w _ ?side1 ?side2 A55.out).mono ?_);(case side1=>repeat (first|(with_reducible first|exact HB.out|apply below_alloc|apply pw_below_drewN|apply below_drew1|refine below_set ?_ GE139.out|refine below_set ?_ GE140.out|refine below_set ?_ GE141.out)|exact HB.out));(case side2=>exact Kd.R_tight rfl HO147.out);rintro e w68 ⟨v156,rfl,ho0,hb,hkp⟩;have n0_:=Aside0.mk (blk_kept (bL BK139.out) hkp (fun hs_=>(fun e_=>(Kd.R_ne HO147.out BK139.out (by decide)) e_) hs_));have n1_:=Aside0.mk (blk_kept (bL BK140.out) hkp (fun hs_=>(fun e_=>(Kd.R_ne HO147.out BK140.out (by decide)) e_) hs_));have n2_:=Aside0.mk (blk_kept (bL BK141.out) hkp (fun hs_=>(fun e_=>(Kd.R_ne HO147.out BK141.out (by decide)) e_) hs_));have n3_:=Aside0.mk (Kd.R_mono (ok':=fun k_=>True) ho0 (fun k_ hk_=>trivial));have n4_:=Aside0.mk (hb);clear BK139 BK140 BK141 HB HO147;have BK139:=n0_;have BK140:=n1_;have BK141:=n2_;have HO157:=n3_;have HB:=n4_;clear n0_ n1_ n2_ n3_ n4_;(try clear hb);(try clear hkp);(try clear ho0);obtain⟨Ao69,co69,eo69⟩:=Kd.R_slice HO157.out;subst eo69;obtain⟨hcz70_0,hcz70_1,hcz70_2⟩:=cC3 BK141.out;obtain⟨hfz70_0,hfz70_1,hfz70_2⟩:=cF3 BK141.out))
          repeat (go_quiet (first|((with_reducible refine gate_dst (N:=38) rfl ?_);refine Kd.R_lit (Kd.int .i64) _ 3 ?hg (N:=38) ?hd (xs:=([]:List Int)) (inner:=[]) (ok:=fun _=>True) (okp:=fun _=>True) ?hr ?hp (fun _ hk=>hk) trivial (Below.refl _ _) (Nat.le_refl _) (by simp) ?_;(case hd=>rfl);(case hg=>rfl);(case hr=>first|(go_simp;done)|(go_simp;rfl));(case hp=>exact(Reps.none _ _));intro v143 w56 ho57 hb hg_ hnew_;clear hg_ hnew_;(first|rw[← Ny142.out] at ho57|(simp only[Int.reduceToNat] at ho57;rw[← Ny142.out] at ho57));have n0_:=Aside0.mk (Kd.R_lower ho57 (below_size (bS3 GE139.out GE140.out GE141.out)));have n1_:=Aside0.mk (bM BK139.out hb);have n2_:=Aside0.mk (bM BK140.out hb);have n3_:=Aside0.mk (bM BK141.out hb);have n4_:=Aside0.mk (below_step (bS3 GE139.out GE140.out GE141.out) hb);clear BK139 BK140 BK141 HB;have HO144:=n0_;have BK139:=n1_;have BK140:=n2_;have BK141:=n3_;have HB:=n4_;clear n0_ n1_ n2_ n3_ n4_;clear hb ho57;have hnb58:=NB139_140.out;have hnc58:=NB140_139.out;have hnb59:=NB139_141.out;have hnc59:=NB141_139.out;obtain⟨hcz60_0,hcz60_1,hcz60_2⟩:=cC3 BK139.out;obtain⟨hfz60_0,hfz60_1,hfz60_2⟩:=cF3 BK139.out)|((with_reducible refine gate_builtin (b:=.append) (xs:=#[.tmp 38,.tmp 40]) rfl ?_);at_builtin;refine Kd.R_append_rows (Kd.int .i64) (w0:=w) w.heap.size rfl (.tmp 38) (.tmp 40) 33 3 (.int .i64 0) 8 rfl Try.underlying33 info3 rfl (by decide) (by omega) v143 y142 l0_0 _ _ _ (fun _=>True) (fun _=>False) rfl rfl ?aO ?aR (fun _ _ h=>h) (fun _ h=>h.elim) ?aF ?aB ?aS ?aL ?_;(case aR=>exact bC HR0_0.out);(case aB=>exact(bS3 GE139.out GE140.out GE141.out));(case aF=>exact(fun _ _=>trivial));(case aO=>exact(bK HO144.out));(case aS=>exact(below_size (bS3 GE139.out GE140.out GE141.out)));(case aL=>have:=LMc33.out;omega);intro v146 w61 ho hb hg hat;rw[← Ny145.out] at ho;have n0_:=Aside0.mk (blk_grown (g:=gb139) (o:=.cells #[.slice A0_0 l0_0.length c0_0,.int .i64 a0_1,.bool a0_2] 39 (0,0)) (bL BK139.out) hg (Kd.R_ne HO144.out BK139.out (by decide)));have n1_:=Aside0.mk (blk_grown (g:=gb140) (o:=.cells #[.int .i64 a1_0,.int .i64 a1_1] 60 (0,0)) (bL BK140.out) hg (Kd.R_ne HO144.out BK140.out (by decide)));have n2_:=Aside0.mk (blk_grown (g:=gb141) (o:=.cells #[.slice none 0 0,.int .i64 0,.bool false] 39 (0,0)) (bL BK141.out) hg (Kd.R_ne HO144.out BK141.out (by decide)));have n3_:=Aside0.mk (hb);have n4_:=Aside0.mk (ho);clear BK139 BK140 BK141 HB HO144;have BK139:=n0_;have BK140:=n1_;have BK141:=n2_;have HB:=n3_;have HO147:=n4_;clear n0_ n1_ n2_ n3_ n4_;clear ho hb hg hat;obtain⟨Ao62,co62,eo62⟩:=Kd.R_slice HO147.out;subst eo62;obtain⟨hcz63_0,hcz63_1,hcz63_2⟩:=cC3 BK139.out;obtain⟨hfz63_0,hfz63_1,hfz63_2⟩:=cF3 BK139.out)|((with_reducible refine gate_store (t:=33) (p:=42) rfl ?_);(try (rw[drewN_self w61];generalize hq_:World.drewN w61 _=w61;have n0_:=Aside0.mk (Kd.R_at hq_ HO147.out);have n1_:=Aside0.mk (blk_at hq_ BK139.out);have n2_:=Aside0.mk (blk_at hq_ BK140.out);have n3_:=Aside0.mk (blk_at hq_ BK141.out);have n4_:=Aside0.mk (below_at hq_ HB.out);clear hq_ HO147 BK139 BK140 BK141 HB;have HO147:=n0_;have BK139:=n1_;have BK140:=n2_;have BK141:=n3_;have HB:=n4_;clear n0_ n1_ n2_ n3_ n4_));refine store_event (t:=33) (p:=42) (v:=?vo_w64) (w1:=(w61.setCell ⟨gb139,0,none⟩ (.slice Ao62 y145.length co62))) ?hg ?ho ?hn ?hr ?_;(case ho=>rfl);(case hg=>rfl);(case hn=>rfl);(case hr=>first|(go_simp;done)|(go_simp;rfl));intro w64 hw;have n0_:Aside0 (Kd.R (Kd.int .i64) 3 w64 w.heap.size (fun _=>True) (.slice Ao62 y145.length co62) y145):=⟨(by rw[hw];exact(by(with_reducible repeat (first|apply Kd.R_alloc|apply Kd.R_drewN|apply Kd.R_drew));exact Kd.R_mono (Kd.R_far (p:=⟨gb139,0,none⟩) (Kd.R_types HO147.out BK139.out (by decide)) (fun _ hk=>hk.2) (.slice Ao62 y145.length co62)) (fun _ hk=>trivial)))⟩;have n1_:Aside0 (w64.heap[gb139]?=some (.cells #[.slice Ao62 y145.length co62,.int .i64 a0_1,.bool a0_2] 39 (0,0))):=⟨(by rw[hw];exact(by(with_reducible repeat (first|refine blk_drewN ?_ _|refine blk_drew ?_|refine blk_alloc ?_ _));refine blk_put (cs:=#[.slice A0_0 l0_0.length c0_0,.int .i64 a0_1,.bool a0_2]) ?_ 0 _ rfl;(with_reducible repeat (first|refine blk_drewN ?_ _|refine blk_drew ?_|refine blk_alloc ?_ _));exact BK139.out))⟩;have n2_:Aside0 (w64.heap[gb140]?=some (.cells #[.int .i64 a1_0,.int .i64 a1_1] 60 (0,0))):=⟨(by rw[hw];exact(by(with_reducible repeat (first|refine blk_drewN ?_ _|refine blk_drew ?_|refine blk_alloc ?_ _));refine blk_far ?_ NB140_139.out _;(with_reducible repeat (first|refine blk_drewN ?_ _|refine blk_drew ?_|refine blk_alloc ?_ _));exact BK140.out))⟩;have n3_:Aside0 (w64.heap[gb141]?=some (.cells #[.slice none 0 0,.int .i64 0,.bool false] 39 (0,0))):=⟨(by rw[hw];exact(by(with_reducible repeat (first|refine blk_drewN ?_ _|refine blk_drew ?_|refine blk_alloc ?_ _));refine blk_far ?_ NB141_139.out _;(with_reducible repeat (first|refine blk_drewN ?_ _|refine blk_drew ?_|refine blk_alloc ?_ _));exact BK141.out))⟩;have n4_:Aside0 (Below w.heap.size w w64):=⟨(by rw[hw];exact(bS3 GE139.out GE140.out GE141.out))⟩;clear hw HO147 BK139 BK140 BK141 HB;have HO147:=n0_;have BK139:=n1_;have BK140:=n2_;have BK141:=n3_;have HB:=n4_;clear n0_ n1_ n2_ n3_ n4_;obtain⟨hcz65_0,hcz65_1,hcz65_2⟩:=cC3 BK139.out;obtain⟨hfz65_0,hfz65_1,hfz65_2⟩:=cF3 BK139.out;have hnb66:=NB140_141.out;have hnc66:=NB141_140.out;obtain⟨hcz67_0,hcz67_1⟩:=cC2 BK140.out;obtain⟨hfz67_0,hfz67_1⟩:=cF2 BK140.out;have p148:0≤(a1_0:Int):=of_decide_eq_true (bD);have q148:a1_0 < (y145.length:Int):=of_decide_eq_true (bD);obtain⟨ad148,e148,hx148_0⟩:=Kd.at_int (Kd.R_reads' HO147.out).2.2 a1_0 p148 q148;cases e148;replace p148:=eq_true p148;replace q148:=eq_true q148;have p149:0≤(a1_1:Int):=of_decide_eq_true (bD);have q149:a1_1 < (y145.length:Int):=of_decide_eq_true (bD);obtain⟨ad149,e149,hx149_0⟩:=Kd.at_int (Kd.R_reads' HO147.out).2.2 a1_1 p149 q149;obtain rfl:ad148=ad149:=(by injection e149);replace p149:=eq_true p149;replace q149:=eq_true q149)|(go_at_call 150;(with_reducible refine(spec_l15Give.calls (fun k_=>some k_=(.slice (some ad148) y145.length co62:Value).ownBlock) (.slice (some ad148) y145.length co62) y145 a0_1 a0_2 a1_1 a1_0 t155 t158 t159 w _ ?side1 ?side2 A55.out).mono ?_);(case side1=>repeat (first|(with_reducible first|exact HB.out|apply below_alloc|apply pw_below_drewN|apply below_drew1|refine below_set ?_ GE139.out|refine below_set ?_ GE140.out|refine below_set ?_ GE141.out)|exact HB.out));(case side2=>exact Kd.R_tight rfl HO147.out);rintro e w68 ⟨v156,rfl,ho0,hb,hkp⟩;have n0_:=Aside0.mk (blk_kept (bL BK139.out) hkp (fun hs_=>(fun e_=>(Kd.R_ne HO147.out BK139.out (by decide)) e_) hs_));have n1_:=Aside0.mk (blk_kept (bL BK140.out) hkp (fun hs_=>(fun e_=>(Kd.R_ne HO147.out BK140.out (by decide)) e_) hs_));have n2_:=Aside0.mk (blk_kept (bL BK141.out) hkp (fun hs_=>(fun e_=>(Kd.R_ne HO147.out BK141.out (by decide)) e_) hs_));have n3_:=Aside0.mk (Kd.R_mono (ok':=fun k_=>True) ho0 (fun k_ hk_=>trivial));have n4_:=Aside0.mk (hb);clear BK139 BK140 BK141 HB HO147;have BK139:=n0_;have BK140:=n1_;have BK141:=n2_;have HO157:=n3_;have HB:=n4_;clear n0_ n1_ n2_ n3_ n4_;(try clear hb);(try clear hkp);(try clear ho0);obtain⟨Ao69,co69,eo69⟩:=Kd.R_slice HO157.out;subst eo69;obtain⟨hcz70_0,hcz70_1,hcz70_2⟩:=cC3 BK141.out;obtain⟨hfz70_0,hfz70_1,hfz70_2⟩:=cF3 BK141.out));try go_wp2_with (first|((with_reducible refine gate_dst (N:=38) rfl ?_);refine Kd.R_lit (Kd.int .i64) _ 3 ?hg (N:=38) ?hd (xs:=([]:List Int)) (inner:=[]) (ok:=fun _=>True) (okp:=fun _=>True) ?hr ?hp (fun _ hk=>hk) trivial (Below.refl _ _) (Nat.le_refl _) (by simp) ?_;(case hd=>rfl);(case hg=>rfl);(case hr=>first|(go_simp;done)|(go_simp;rfl));(case hp=>exact(Reps.none _ _));intro v143 w56 ho57 hb hg_ hnew_;clear hg_ hnew_;(first|rw[← Ny142.out] at ho57|(simp only[Int.reduceToNat] at ho57;rw[← Ny142.out] at ho57));have n0_:=Aside0.mk (Kd.R_lower ho57 (below_size (bS3 GE139.out GE140.out GE141.out)));have n1_:=Aside0.mk (bM BK139.out hb);have n2_:=Aside0.mk (bM BK140.out hb);have n3_:=Aside0.mk (bM BK141.out hb);have n4_:=Aside0.mk (below_step (bS3 GE139.out GE140.out GE141.out) hb);clear BK139 BK140 BK141 HB;have HO144:=n0_;have BK139:=n1_;have BK140:=n2_;have BK141:=n3_;have HB:=n4_;clear n0_ n1_ n2_ n3_ n4_;clear hb ho57;have hnb58:=NB139_140.out;have hnc58:=NB140_139.out;have hnb59:=NB139_141.out;have hnc59:=NB141_139.out;obtain⟨hcz60_0,hcz60_1,hcz60_2⟩:=cC3 BK139.out;obtain⟨hfz60_0,hfz60_1,hfz60_2⟩:=cF3 BK139.out)|((with_reducible refine gate_builtin (b:=.append) (xs:=#[.tmp 38,.tmp 40]) rfl ?_);at_builtin;refine Kd.R_append_rows (Kd.int .i64) (w0:=w) w.heap.size rfl (.tmp 38) (.tmp 40) 33 3 (.int .i64 0) 8 rfl Try.underlying33 info3 rfl (by decide) (by omega) v143 y142 l0_0 _ _ _ (fun _=>True) (fun _=>False) rfl rfl ?aO ?aR (fun _ _ h=>h) (fun _ h=>h.elim) ?aF ?aB ?aS ?aL ?_;(case aR=>exact bC HR0_0.out);(case aB=>exact(bS3 GE139.out GE140.out GE141.out));(case aF=>exact(fun _ _=>trivial));(case aO=>exact(bK HO144.out));(case aS=>exact(below_size (bS3 GE139.out GE140.out GE141.out)));(case aL=>have:=LMc33.out;omega);intro v146 w61 ho hb hg hat;rw[← Ny145.out] at ho;have n0_:=Aside0.mk (blk_grown (g:=gb139) (o:=.cells #[.slice A0_0 l0_0.length c0_0,.int .i64 a0_1,.bool a0_2] 39 (0,0)) (bL BK139.out) hg (Kd.R_ne HO144.out BK139.out (by decide)));have n1_:=Aside0.mk (blk_grown (g:=gb140) (o:=.cells #[.int .i64 a1_0,.int .i64 a1_1] 60 (0,0)) (bL BK140.out) hg (Kd.R_ne HO144.out BK140.out (by decide)));have n2_:=Aside0.mk (blk_grown (g:=gb141) (o:=.cells #[.slice none 0 0,.int .i64 0,.bool false] 39 (0,0)) (bL BK141.out) hg (Kd.R_ne HO144.out BK141.out (by decide)));have n3_:=Aside0.mk (hb);have n4_:=Aside0.mk (ho);clear BK139 BK140 BK141 HB HO144;have BK139:=n0_;have BK140:=n1_;have BK141:=n2_;have HB:=n3_;have HO147:=n4_;clear n0_ n1_ n2_ n3_ n4_;clear ho hb hg hat;obtain⟨Ao62,co62,eo62⟩:=Kd.R_slice HO147.out;subst eo62;obtain⟨hcz63_0,hcz63_1,hcz63_2⟩:=cC3 BK139.out;obtain⟨hfz63_0,hfz63_1,hfz63_2⟩:=cF3 BK139.out)|((with_reducible refine gate_store (t:=33) (p:=42) rfl ?_);(try (rw[drewN_self w61];generalize hq_:World.drewN w61 _=w61;have n0_:=Aside0.mk (Kd.R_at hq_ HO147.out);have n1_:=Aside0.mk (blk_at hq_ BK139.out);have n2_:=Aside0.mk (blk_at hq_ BK140.out);have n3_:=Aside0.mk (blk_at hq_ BK141.out);have n4_:=Aside0.mk (below_at hq_ HB.out);clear hq_ HO147 BK139 BK140 BK141 HB;have HO147:=n0_;have BK139:=n1_;have BK140:=n2_;have BK141:=n3_;have HB:=n4_;clear n0_ n1_ n2_ n3_ n4_));refine store_event (t:=33) (p:=42) (v:=?vo_w64) (w1:=(w61.setCell ⟨gb139,0,none⟩ (.slice Ao62 y145.length co62))) ?hg ?ho ?hn ?hr ?_;(case ho=>rfl);(case hg=>rfl);(case hn=>rfl);(case hr=>first|(go_simp;done)|(go_simp;rfl));intro w64 hw;have n0_:Aside0 (Kd.R (Kd.int .i64) 3 w64 w.heap.size (fun _=>True) (.slice Ao62 y145.length co62) y145):=⟨(by rw[hw];exact(by(with_reducible repeat (first|apply Kd.R_alloc|apply Kd.R_drewN|apply Kd.R_drew));exact Kd.R_mono (Kd.R_far (p:=⟨gb139,0,none⟩) (Kd.R_types HO147.out BK139.out (by decide)) (fun _ hk=>hk.2) (.slice Ao62 y145.length co62)) (fun _ hk=>trivial)))⟩;have n1_:Aside0 (w64.heap[gb139]?=some (.cells #[.slice Ao62 y145.length co62,.int .i64 a0_1,.bool a0_2] 39 (0,0))):=⟨(by rw[hw];exact(by(with_reducible repeat (first|refine blk_drewN ?_ _|refine blk_drew ?_|refine blk_alloc ?_ _));refine blk_put (cs:=#[.slice A0_0 l0_0.length c0_0,.int .i64 a0_1,.bool a0_2]) ?_ 0 _ rfl;(with_reducible repeat (first|refine blk_drewN ?_ _|refine blk_drew ?_|refine blk_alloc ?_ _));exact BK139.out))⟩;have n2_:Aside0 (w64.heap[gb140]?=some (.cells #[.int .i64 a1_0,.int .i64 a1_1] 60 (0,0))):=⟨(by rw[hw];exact(by(with_reducible repeat (first|refine blk_drewN ?_ _|refine blk_drew ?_|refine blk_alloc ?_ _));refine blk_far ?_ NB140_139.out _;(with_reducible repeat (first|refine blk_drewN ?_ _|refine blk_drew ?_|refine blk_alloc ?_ _));exact BK140.out))⟩;have n3_:Aside0 (w64.heap[gb141]?=some (.cells #[.slice none 0 0,.int .i64 0,.bool false] 39 (0,0))):=⟨(by rw[hw];exact(by(with_reducible repeat (first|refine blk_drewN ?_ _|refine blk_drew ?_|refine blk_alloc ?_ _));refine blk_far ?_ NB141_139.out _;(with_reducible repeat (first|refine blk_drewN ?_ _|refine blk_drew ?_|refine blk_alloc ?_ _));exact BK141.out))⟩;have n4_:Aside0 (Below w.heap.size w w64):=⟨(by rw[hw];exact(bS3 GE139.out GE140.out GE141.out))⟩;clear hw HO147 BK139 BK140 BK141 HB;have HO147:=n0_;have BK139:=n1_;have BK140:=n2_;have BK141:=n3_;have HB:=n4_;clear n0_ n1_ n2_ n3_ n4_;obtain⟨hcz65_0,hcz65_1,hcz65_2⟩:=cC3 BK139.out;obtain⟨hfz65_0,hfz65_1,hfz65_2⟩:=cF3 BK139.out;have hnb66:=NB140_141.out;have hnc66:=NB141_140.out;obtain⟨hcz67_0,hcz67_1⟩:=cC2 BK140.out;obtain⟨hfz67_0,hfz67_1⟩:=cF2 BK140.out;have p148:0≤(a1_0:Int):=of_decide_eq_true (bD);have q148:a1_0 < (y145.length:Int):=of_decide_eq_true (bD);obtain⟨ad148,e148,hx148_0⟩:=Kd.at_int (Kd.R_reads' HO147.out).2.2 a1_0 p148 q148;cases e148;replace p148:=eq_true p148;replace q148:=eq_true q148;have p149:0≤(a1_1:Int):=of_decide_eq_true (bD);have q149:a1_1 < (y145.length:Int):=of_decide_eq_true (bD);obtain⟨ad149,e149,hx149_0⟩:=Kd.at_int (Kd.R_reads' HO147.out).2.2 a1_1 p149 q149;obtain rfl:ad148=ad149:=(by injection e149);replace p149:=eq_true p149;replace q149:=eq_true q149)|(go_at_call 150;(with_reducible refine(spec_l15Give.calls (fun k_=>some k_=(.slice (some ad148) y145.length co62:Value).ownBlock) (.slice (some ad148) y145.length co62) y145 a0_1 a0_2 a1_1 a1_0 t155 t158 t159 w _ ?side1 ?side2 A55.out).mono ?_);(case side1=>repeat (first|(with_reducible first|exact HB.out|apply below_alloc|apply pw_below_drewN|apply below_drew1|refine below_set ?_ GE139.out|refine below_set ?_ GE140.out|refine below_set ?_ GE141.out)|exact HB.out));(case side2=>exact Kd.R_tight rfl HO147.out);rintro e w68 ⟨v156,rfl,ho0,hb,hkp⟩;have n0_:=Aside0.mk (blk_kept (bL BK139.out) hkp (fun hs_=>(fun e_=>(Kd.R_ne HO147.out BK139.out (by decide)) e_) hs_));have n1_:=Aside0.mk (blk_kept (bL BK140.out) hkp (fun hs_=>(fun e_=>(Kd.R_ne HO147.out BK140.out (by decide)) e_) hs_));have n2_:=Aside0.mk (blk_kept (bL BK141.out) hkp (fun hs_=>(fun e_=>(Kd.R_ne HO147.out BK141.out (by decide)) e_) hs_));have n3_:=Aside0.mk (Kd.R_mono (ok':=fun k_=>True) ho0 (fun k_ hk_=>trivial));have n4_:=Aside0.mk (hb);clear BK139 BK140 BK141 HB HO147;have BK139:=n0_;have BK140:=n1_;have BK141:=n2_;have HO157:=n3_;have HB:=n4_;clear n0_ n1_ n2_ n3_ n4_;(try clear hb);(try clear hkp);(try clear ho0);obtain⟨Ao69,co69,eo69⟩:=Kd.R_slice HO157.out;subst eo69;obtain⟨hcz70_0,hcz70_1,hcz70_2⟩:=cC3 BK141.out;obtain⟨hfz70_0,hfz70_1,hfz70_2⟩:=cF3 BK141.out)))
          refine bodyPost_ret (results_ct rfl _ _ gb141 39 #[.slice Ao69 t155.length co69,.int .i64 t158,.bool t159] (0,0) _ rfl (by(with_reducible repeat (first|refine blk_drewN ?_ _|refine blk_drew ?_|refine blk_alloc ?_ _));refine blk_put (cs:=#[.slice Ao69 t155.length co69,.int .i64 t158,.bool false]) ?_ 2 _ rfl;(with_reducible repeat (first|refine blk_drewN ?_ _|refine blk_drew ?_|refine blk_alloc ?_ _));refine blk_put (cs:=#[.slice Ao69 t155.length co69,.int .i64 0,.bool false]) ?_ 1 _ rfl;(with_reducible repeat (first|refine blk_drewN ?_ _|refine blk_drew ?_|refine blk_alloc ?_ _));refine blk_put (cs:=#[.slice none 0 0,.int .i64 0,.bool false]) ?_ 0 _ rfl;(with_reducible repeat (first|refine blk_drewN ?_ _|refine blk_drew ?_|refine blk_alloc ?_ _));exact BK141.out) Try.underlying39 rfl (by kernel_rfl)) rfl ?_
          exact⟨_,by first|rfl|(simp[errW_none,errW_some]<;>rfl)|(simp[*,errW_none,errW_some]<;>rfl),by(with_reducible repeat (first|apply Kd.R_alloc|apply Kd.R_drewN|apply Kd.R_drew));exact Kd.R_mono (Kd.R_far (p:=⟨gb141,2,none⟩) (Kd.R_far (p:=⟨gb141,1,none⟩) (Kd.R_far (p:=⟨gb141,0,none⟩) (Kd.R_types HO157.out BK141.out (by decide)) (fun _ hk=>hk.2) (.slice Ao69 t155.length co69)) (fun _ hk=>hk.2) (.int .i64 t158)) (fun _ hk=>hk.2) (.bool t159)) (fun _ hk=>trivial),bS3 GE139.out GE140.out GE141.out⟩
        ·rw[if_neg c37] at H
         exact absurd H (by simp)
       ·rw[if_neg c36] at H
        exact absurd H (by simp)
      ·rw[if_neg c35] at H
       exact absurd H (by simp)
     ·rw[if_neg c34] at H
      exact absurd H (by simp)
    ·rw[if_neg c33] at H
     exact absurd H (by simp)

/-! ### spec_MeetBoth: function 37 -/
def spec_MeetBoth.f (k:Nat) (l0_0:List Int) (a0_1:Int) (a0_2:Bool) (a1_0:Int) (a1_1:Int):Option (List Int × Int × Bool × Bool):=(spec_GoodSpray.f k l0_0 a0_1 a0_2).bind fun t163=>(if t163=true then ((spec_l15Meet.f k l0_0 a0_1 a0_2 a1_0 a1_1).bind fun bt164=>(some (bt164.1,bt164.2.1,bt164.2.2.1,bt164.2.2.2))) else (some (([]:List Int),0,false,false)))
theorem spec_MeetBoth.mono : ∀ a0 a1 a2 a3 a4 k,LeO (spec_MeetBoth.f k a0 a1 a2 a3 a4) (spec_MeetBoth.f (k+1) a0 a1 a2 a3 a4):=by
 intro a0 a1 a2 a3 a4 k
 unfold spec_MeetBoth.f
 repeat' first
  | (with_reducible exact spec_GoodSpray.mono _ _ _ _)
  | (with_reducible exact spec_l15Meet.mono _ _ _ _ _ _)
  | (with_reducible exact LeO.refl _)
  | (with_reducible exact LeO.none _)
  | (with_reducible refine LeO.ite ?_ ?_)
  | (with_reducible refine LeO.bind ?_ (fun _ => ?_))
  | exact spec_GoodSpray.mono _ _ _ _
  | exact spec_l15Meet.mono _ _ _ _ _ _
  | exact LeO.none _
  | refine LeO.ite ?_ ?_
  | refine LeO.bind ?_ (fun _ => ?_)
set_option maxHeartbeats 8000000 in
set_option maxRecDepth 100000 in
theorem spec_MeetBoth.calls (k:Nat) (A0_0:Option Addr) (c0_0:Nat) (l0_0:List Int) (a0_1:Int) (a0_2:Bool) (a1_0:Int) (a1_1:Int) (r1:List Int) (r2:Int) (r3:Bool) (r4:Bool) (w:World) (hr0_0:Kd.C (Kd.int .i64) w A0_0 l0_0.length l0_0) (hc0_0:l0_0.length≤c0_0) (h:spec_MeetBoth.f k l0_0 a0_1 a0_2 a1_0 a1_1=some (r1,r2,r3,r4)) :
  Calls Try.prog 37 #[.agg #[.slice A0_0 l0_0.length c0_0,.int .i64 a0_1,.bool a0_2],.agg #[.int .i64 a1_0,.int .i64 a1_1]] w fun e w' => ∃ v0_:Value,e=.returned (.tuple #[.agg #[v0_,.int .i64 r2,.bool r3],.bool r4])∧Kd.R (Kd.int .i64) 3 w' w.heap.size (fun _=>True) v0_ r1∧Below w.heap.size w w':=by
 have hu39:=Try.underlying39
 have hu60:=Try.underlying60
 have HR0_0:=Aside0.mk hr0_0
 have HC0_0:=Aside0.mk hc0_0
 clear hr0_0 hc0_0
 have HB:=Aside0.mk (Below.refl w.heap.size w)
 have H:((spec_GoodSpray.f k l0_0 a0_1 a0_2).bind fun t163=>(if t163=true then ((spec_l15Meet.f k l0_0 a0_1 a0_2 a1_0 a1_1).bind fun bt164=>(some (bt164.1,bt164.2.1,bt164.2.2.1,bt164.2.2.2))) else (some (([]:List Int),0,false,false))))=some (r1,r2,r3,r4):=h
 clear h
 replace H:=Option.bind_eq_some_iff.mp H
 obtain⟨t163,A30,H⟩:=H
 replace H:(if t163=true then ((spec_l15Meet.f k l0_0 a0_1 a0_2 a1_0 a1_1).bind fun bt164=>(some (bt164.1,bt164.2.1,bt164.2.2.1,bt164.2.2.2))) else (some (([]:List Int),0,false,false)))=some (r1,r2,r3,r4):=H
 have A3:=Aside0.mk A30
 clear A30
 by_cases c4:t163=true
 ·subst c4
  have H1:((spec_l15Meet.f k l0_0 a0_1 a0_2 a1_0 a1_1).bind fun bt164=>(some (bt164.1,bt164.2.1,bt164.2.2.1,bt164.2.2.2)))=some (r1,r2,r3,r4):=by rw[if_pos rfl] at H;exact H
  clear H
  have H:=H1
  clear H1
  replace H:=Option.bind_eq_some_iff.mp H
  obtain⟨⟨t164,t167,t168,t169⟩,A50,H⟩:=H
  replace H:(some (t164,t167,t168,t169))=some (r1,r2,r3,r4):=H
  have A5:=Aside0.mk A50
  clear A50
  simp only[Option.some.injEq,Prod.mk.injEq] at H
  obtain⟨rfl,rfl,rfl,rfl⟩:=H
  go_enter Try.func37,Try.ntmps37
  go_wp2_with (first|((with_reducible refine gate_dst (N:=2) rfl ?_);refine box_event ?hg (N:=2) ?hd (cs:=#[.slice A0_0 l0_0.length c0_0,.int .i64 a0_1,.bool a0_2]) (t:=39) ?hr ?_;(case hd=>rfl);(case hg=>rfl);(case hr=>first|(go_simp;done)|(go_simp;rfl));intro gb160 hg w6 hbox hb;have n0_:=Aside0.mk (below_step (bB) hb);have n1_:=Aside0.mk (hbox);have n2_:=Aside0.mk ((bG:w.heap.size≤gb160));have n3_:=Aside0.mk ((bG:w.heap.size≤gb160));clear HB;have HB:=n0_;have BK160:=n1_;have GW160:=n2_;have GE160:=n3_;clear n0_ n1_ n2_ n3_;clear hb hbox hg)|((with_reducible refine gate_dst (N:=3) rfl ?_);refine box_event ?hg (N:=3) ?hd (cs:=#[.int .i64 a1_0,.int .i64 a1_1]) (t:=60) ?hr ?_;(case hd=>rfl);(case hg=>rfl);(case hr=>first|(go_simp;done)|(go_simp;rfl));intro gb161 hg w7 hbox hb;have n0_:=Aside0.mk (bM BK160.out hb);have n1_:=Aside0.mk (below_step (bS GE160.out) hb);have n2_:=Aside0.mk (hbox);have n3_:=Aside0.mk ((by rw[hg];exact(below_size (bS GE160.out)):w.heap.size≤gb161));have n4_:=Aside0.mk ((by rw[hg];exact(below_size (bS GE160.out)):w.heap.size≤gb161));have n5_:=Aside0.mk ((bN BK160.out hg:gb160≠gb161));have n6_:=Aside0.mk ((bO BK160.out hg:gb161≠gb160));clear BK160 HB;have BK160:=n0_;have HB:=n1_;have BK161:=n2_;have GW161:=n3_;have GE161:=n4_;have NB160_161:=n5_;have NB161_160:=n6_;clear n0_ n1_ n2_ n3_ n4_ n5_ n6_;clear hb hbox hg)|((with_reducible refine gate_dst (N:=4) rfl ?_);refine box_event ?hg (N:=4) ?hd (cs:=#[.slice none 0 0,.int .i64 0,.bool false]) (t:=39) ?hr ?_;(case hd=>rfl);(case hg=>rfl);(case hr=>first|(go_simp;done)|(go_simp;rfl));intro gb162 hg w8 hbox hb;have n0_:=Aside0.mk (bM BK160.out hb);have n1_:=Aside0.mk (bM BK161.out hb);have n2_:=Aside0.mk (below_step (bS2 GE160.out GE161.out) hb);have n3_:=Aside0.mk (hbox);have n4_:=Aside0.mk ((by rw[hg];exact(below_size (bS2 GE160.out GE161.out)):w.heap.size≤gb162));have n5_:=Aside0.mk ((by rw[hg];exact(below_size (bS2 GE160.out GE161.out)):w.heap.size≤gb162));have n6_:=Aside0.mk ((bN BK160.out hg:gb160≠gb162));have n7_:=Aside0.mk ((bO BK160.out hg:gb162≠gb160));have n8_:=Aside0.mk ((bN BK161.out hg:gb161≠gb162));have n9_:=Aside0.mk ((bO BK161.out hg:gb162≠gb161));clear BK160 BK161 HB;have BK160:=n0_;have BK161:=n1_;have HB:=n2_;have BK162:=n3_;have GW162:=n4_;have GE162:=n5_;have NB160_162:=n6_;have NB162_160:=n7_;have NB161_162:=n8_;have NB162_161:=n9_;clear n0_ n1_ n2_ n3_ n4_ n5_ n6_ n7_ n8_ n9_;clear hb hbox hg;have hnb9:=NB160_161.out;have hnc9:=NB161_160.out;have hnb10:=NB160_162.out;have hnc10:=NB162_160.out;obtain⟨hcz11_0,hcz11_1,hcz11_2⟩:=cC3 BK160.out;obtain⟨hfz11_0,hfz11_1,hfz11_2⟩:=cF3 BK160.out)|((with_reducible refine gate_callee (f:=99) rfl ?_);refine goesA (some 7) rfl rfl Try.func99 #[.agg #[.slice A0_0 l0_0.length c0_0,.int .i64 a0_1,.bool a0_2]] rfl ?_;(with_reducible refine(spec_GoodSpray.calls k _ _ l0_0 a0_1 a0_2 true _ ?side1 ?side2 A3.out).mono ?_);(case side1=>exact bC HR0_0.out);(case side2=>exact HC0_0.out);rintro e w12 ⟨rfl,hb⟩;refine⟨_,rfl,?_⟩;have n0_:=Aside0.mk (bM BK160.out hb);have n1_:=Aside0.mk (bM BK161.out hb);have n2_:=Aside0.mk (bM BK162.out hb);have n3_:=Aside0.mk (below_step (bS3 GE160.out GE161.out GE162.out) hb);clear BK160 BK161 BK162 HB;have BK160:=n0_;have BK161:=n1_;have BK162:=n2_;have HB:=n3_;clear n0_ n1_ n2_ n3_;(try clear hb);(try clear hb2);(try clear hk);(try clear hi);obtain⟨hcz13_0,hcz13_1,hcz13_2⟩:=cC3 BK160.out;obtain⟨hfz13_0,hfz13_1,hfz13_2⟩:=cF3 BK160.out;have hnb14:=NB161_162.out;have hnc14:=NB162_161.out;obtain⟨hcz15_0,hcz15_1⟩:=cC2 BK161.out;obtain⟨hfz15_0,hfz15_1⟩:=cF2 BK161.out)|((with_reducible refine gate_callee (f:=105) rfl ?_);refine goesA (some 12) rfl rfl Try.func105 #[.agg #[.slice A0_0 l0_0.length c0_0,.int .i64 a0_1,.bool a0_2],.agg #[.int .i64 a1_0,.int .i64 a1_1]] rfl ?_;(with_reducible refine(spec_l15Meet.calls k _ _ l0_0 a0_1 a0_2 a1_0 a1_1 t164 t167 t168 t169 _ ?side1 ?side2 A5.out).mono ?_);(case side1=>exact bC HR0_0.out);(case side2=>exact HC0_0.out);rintro e w16 ⟨v165,rfl,ho0,hb⟩;refine⟨_,rfl,?_⟩;have n0_:=Aside0.mk (Kd.R_lower ho0 (below_size (bS3 GE160.out GE161.out GE162.out)));have n1_:=Aside0.mk (bM BK160.out hb);have n2_:=Aside0.mk (bM BK161.out hb);have n3_:=Aside0.mk (bM BK162.out hb);have n4_:=Aside0.mk (below_step (bS3 GE160.out GE161.out GE162.out) hb);clear BK160 BK161 BK162 HB;have HO166:=n0_;have BK160:=n1_;have BK161:=n2_;have BK162:=n3_;have HB:=n4_;clear n0_ n1_ n2_ n3_ n4_;(try clear hb);(try clear hb2);(try clear hk);(try clear hi);(try clear ho0);obtain⟨Ao17,co17,eo17⟩:=Kd.R_slice HO166.out;subst eo17;obtain⟨hcz18_0,hcz18_1,hcz18_2⟩:=cC3 BK162.out;obtain⟨hfz18_0,hfz18_1,hfz18_2⟩:=cF3 BK162.out))
  refine bodyPost_ret (results_ct rfl _ _ gb162 39 #[.slice Ao17 t164.length co17,.int .i64 t167,.bool t168] (0,0) _ rfl (by(with_reducible repeat (first|refine blk_drewN ?_ _|refine blk_drew ?_|refine blk_alloc ?_ _));refine blk_put (cs:=#[.slice Ao17 t164.length co17,.int .i64 t167,.bool false]) ?_ 2 _ rfl;(with_reducible repeat (first|refine blk_drewN ?_ _|refine blk_drew ?_|refine blk_alloc ?_ _));refine blk_put (cs:=#[.slice Ao17 t164.length co17,.int .i64 0,.bool false]) ?_ 1 _ rfl;(with_reducible repeat (first|refine blk_drewN ?_ _|refine blk_drew ?_|refine blk_alloc ?_ _));refine blk_put (cs:=#[.slice none 0 0,.int .i64 0,.bool false]) ?_ 0 _ rfl;(with_reducible repeat (first|refine blk_drewN ?_ _|refine blk_drew ?_|refine blk_alloc ?_ _));exact BK162.out) Try.underlying39 rfl (by kernel_rfl)) rfl ?_
  exact⟨_,by first|rfl|(simp[errW_none,errW_some]<;>rfl)|(simp[*,errW_none,errW_some]<;>rfl),by(with_reducible repeat (first|apply Kd.R_alloc|apply Kd.R_drewN|apply Kd.R_drew));exact Kd.R_mono (Kd.R_far (p:=⟨gb162,2,none⟩) (Kd.R_far (p:=⟨gb162,1,none⟩) (Kd.R_far (p:=⟨gb162,0,none⟩) (Kd.R_types HO166.out BK162.out (by decide)) (fun _ hk=>hk.2) (.slice Ao17 t164.length co17)) (fun _ hk=>hk.2) (.int .i64 t167)) (fun _ hk=>hk.2) (.bool t168)) (fun _ hk=>trivial),bS3 GE160.out GE161.out GE162.out⟩
 ·replace c4:=Bool.eq_false_iff.mpr c4
  subst c4
  have H1:(some (([]:List Int),0,false,false))=some (r1,r2,r3,r4):=by rw[if_neg (show ¬ (false=true) by decide)] at H;exact H
  clear H
  have H:=H1
  clear H1
  simp only[Option.some.injEq,Prod.mk.injEq] at H
  obtain⟨rfl,rfl,rfl,rfl⟩:=H
  go_enter Try.func37,Try.ntmps37
  go_wp2_with (first|((with_reducible refine gate_dst (N:=2) rfl ?_);refine box_event ?hg (N:=2) ?hd (cs:=#[.slice A0_0 l0_0.length c0_0,.int .i64 a0_1,.bool a0_2]) (t:=39) ?hr ?_;(case hd=>rfl);(case hg=>rfl);(case hr=>first|(go_simp;done)|(go_simp;rfl));intro gb160 hg w19 hbox hb;have n0_:=Aside0.mk (below_step (bB) hb);have n1_:=Aside0.mk (hbox);have n2_:=Aside0.mk ((bG:w.heap.size≤gb160));have n3_:=Aside0.mk ((bG:w.heap.size≤gb160));clear HB;have HB:=n0_;have BK160:=n1_;have GW160:=n2_;have GE160:=n3_;clear n0_ n1_ n2_ n3_;clear hb hbox hg)|((with_reducible refine gate_dst (N:=3) rfl ?_);refine box_event ?hg (N:=3) ?hd (cs:=#[.int .i64 a1_0,.int .i64 a1_1]) (t:=60) ?hr ?_;(case hd=>rfl);(case hg=>rfl);(case hr=>first|(go_simp;done)|(go_simp;rfl));intro gb161 hg w20 hbox hb;have n0_:=Aside0.mk (bM BK160.out hb);have n1_:=Aside0.mk (below_step (bS GE160.out) hb);have n2_:=Aside0.mk (hbox);have n3_:=Aside0.mk ((by rw[hg];exact(below_size (bS GE160.out)):w.heap.size≤gb161));have n4_:=Aside0.mk ((by rw[hg];exact(below_size (bS GE160.out)):w.heap.size≤gb161));have n5_:=Aside0.mk ((bN BK160.out hg:gb160≠gb161));have n6_:=Aside0.mk ((bO BK160.out hg:gb161≠gb160));clear BK160 HB;have BK160:=n0_;have HB:=n1_;have BK161:=n2_;have GW161:=n3_;have GE161:=n4_;have NB160_161:=n5_;have NB161_160:=n6_;clear n0_ n1_ n2_ n3_ n4_ n5_ n6_;clear hb hbox hg)|((with_reducible refine gate_dst (N:=4) rfl ?_);refine box_event ?hg (N:=4) ?hd (cs:=#[.slice none 0 0,.int .i64 0,.bool false]) (t:=39) ?hr ?_;(case hd=>rfl);(case hg=>rfl);(case hr=>first|(go_simp;done)|(go_simp;rfl));intro gb162 hg w21 hbox hb;have n0_:=Aside0.mk (bM BK160.out hb);have n1_:=Aside0.mk (bM BK161.out hb);have n2_:=Aside0.mk (below_step (bS2 GE160.out GE161.out) hb);have n3_:=Aside0.mk (hbox);have n4_:=Aside0.mk ((by rw[hg];exact(below_size (bS2 GE160.out GE161.out)):w.heap.size≤gb162));have n5_:=Aside0.mk ((by rw[hg];exact(below_size (bS2 GE160.out GE161.out)):w.heap.size≤gb162));have n6_:=Aside0.mk ((bN BK160.out hg:gb160≠gb162));have n7_:=Aside0.mk ((bO BK160.out hg:gb162≠gb160));have n8_:=Aside0.mk ((bN BK161.out hg:gb161≠gb162));have n9_:=Aside0.mk ((bO BK161.out hg:gb162≠gb161));clear BK160 BK161 HB;have BK160:=n0_;have BK161:=n1_;have HB:=n2_;have BK162:=n3_;have GW162:=n4_;have GE162:=n5_;have NB160_162:=n6_;have NB162_160:=n7_;have NB161_162:=n8_;have NB162_161:=n9_;clear n0_ n1_ n2_ n3_ n4_ n5_ n6_ n7_ n8_ n9_;clear hb hbox hg;have hnb22:=NB160_161.out;have hnc22:=NB161_160.out;have hnb23:=NB160_162.out;have hnc23:=NB162_160.out;obtain⟨hcz24_0,hcz24_1,hcz24_2⟩:=cC3 BK160.out;obtain⟨hfz24_0,hfz24_1,hfz24_2⟩:=cF3 BK160.out)|((with_reducible refine gate_callee (f:=99) rfl ?_);refine goesA (some 7) rfl rfl Try.func99 #[.agg #[.slice A0_0 l0_0.length c0_0,.int .i64 a0_1,.bool a0_2]] rfl ?_;(with_reducible refine(spec_GoodSpray.calls k _ _ l0_0 a0_1 a0_2 false _ ?side1 ?side2 A3.out).mono ?_);(case side1=>exact bC HR0_0.out);(case side2=>exact HC0_0.out);rintro e w25 ⟨rfl,hb⟩;refine⟨_,rfl,?_⟩;have n0_:=Aside0.mk (bM BK160.out hb);have n1_:=Aside0.mk (bM BK161.out hb);have n2_:=Aside0.mk (bM BK162.out hb);have n3_:=Aside0.mk (below_step (bS3 GE160.out GE161.out GE162.out) hb);clear BK160 BK161 BK162 HB;have BK160:=n0_;have BK161:=n1_;have BK162:=n2_;have HB:=n3_;clear n0_ n1_ n2_ n3_;(try clear hb);(try clear hb2);(try clear hk);(try clear hi);have hnb26:=NB162_161.out;have hnc26:=NB161_162.out;obtain⟨hcz27_0,hcz27_1,hcz27_2⟩:=cC3 BK162.out;obtain⟨hfz27_0,hfz27_1,hfz27_2⟩:=cF3 BK162.out))
  refine bodyPost_ret (results_ct rfl _ _ gb162 39 #[.slice none 0 0,.int .i64 0,.bool false] (0,0) _ rfl (by(with_reducible repeat (first|refine blk_drewN ?_ _|refine blk_drew ?_|refine blk_alloc ?_ _));refine blk_put (cs:=#[.slice none 0 0,.int .i64 0,.bool false]) ?_ 2 _ rfl;(with_reducible repeat (first|refine blk_drewN ?_ _|refine blk_drew ?_|refine blk_alloc ?_ _));refine blk_put (cs:=#[.slice none 0 0,.int .i64 0,.bool false]) ?_ 1 _ rfl;(with_reducible repeat (first|refine blk_drewN ?_ _|refine blk_drew ?_|refine blk_alloc ?_ _));refine blk_put (cs:=#[.slice none 0 0,.int .i64 0,.bool false]) ?_ 0 _ rfl;(with_reducible repeat (first|refine blk_drewN ?_ _|refine blk_drew ?_|refine blk_alloc ?_ _));exact BK162.out) Try.underlying39 rfl (by kernel_rfl)) rfl ?_
  exact⟨_,by first|rfl|(simp[errW_none,errW_some]<;>rfl)|(simp[*,errW_none,errW_some]<;>rfl),by first|exact Kd.R_nil _ _ _ _ _|exact Kd.N_nil _ _ _ _ _|exact Kd.V_nil _ _ _ _ _|exact Kd.Q_nil _ _ _ _ _|exact Kd.S_nil _ _ _ _ _,bS3 GE160.out GE161.out GE162.out⟩

/-! ### laws_toMeet: function 38 -/
def laws_toMeet.f (a0_0:Int) (a0_1:Int):Option (Int × Int):=some (a0_0,a0_1)
set_option maxHeartbeats 8000000 in
set_option maxRecDepth 100000 in
theorem laws_toMeet.calls (a0_0:Int) (a0_1:Int) (r1:Int) (r2:Int) (w:World) (h:laws_toMeet.f a0_0 a0_1=some (r1,r2)) :
  Calls Try.prog 38 #[.agg #[.int .i64 a0_0,.int .i64 a0_1]] w fun e w'=>e=.returned (.agg #[.int .i64 r1,.int .i64 r2])∧Below w.heap.size w w':=by
 have hu57:=Try.underlying57
 have hu60:=Try.underlying60
 have HB:=Aside0.mk (Below.refl w.heap.size w)
 have H:(some (a0_0,a0_1))=some (r1,r2):=h
 clear h
 simp only[Option.some.injEq,Prod.mk.injEq] at H
 obtain⟨rfl,rfl⟩:=H
 go_enter Try.func38,Try.ntmps38
 go_wp2_with (first|((with_reducible refine gate_dst (N:=1) rfl ?_);refine box_event ?hg (N:=1) ?hd (cs:=#[.int .i64 a0_0,.int .i64 a0_1]) (t:=57) ?hr ?_;(case hd=>rfl);(case hg=>rfl);(case hr=>first|(go_simp;done)|(go_simp;rfl));intro gb170 hg w2 hbox hb;have n0_:=Aside0.mk (below_step (bB) hb);have n1_:=Aside0.mk (hbox);have n2_:=Aside0.mk ((bG:w.heap.size≤gb170));have n3_:=Aside0.mk ((bG:w.heap.size≤gb170));clear HB;have HB:=n0_;have BK170:=n1_;have GW170:=n2_;have GE170:=n3_;clear n0_ n1_ n2_ n3_;clear hb hbox hg)|((with_reducible refine gate_dst (N:=2) rfl ?_);refine box_event ?hg (N:=2) ?hd (cs:=#[.int .i64 0,.int .i64 0]) (t:=60) ?hr ?_;(case hd=>rfl);(case hg=>rfl);(case hr=>first|(go_simp;done)|(go_simp;rfl));intro gb171 hg w3 hbox hb;have n0_:=Aside0.mk (bM BK170.out hb);have n1_:=Aside0.mk (below_step (bS GE170.out) hb);have n2_:=Aside0.mk (hbox);have n3_:=Aside0.mk ((by rw[hg];exact(below_size (bS GE170.out)):w.heap.size≤gb171));have n4_:=Aside0.mk ((by rw[hg];exact(below_size (bS GE170.out)):w.heap.size≤gb171));have n5_:=Aside0.mk ((bN BK170.out hg:gb170≠gb171));have n6_:=Aside0.mk ((bO BK170.out hg:gb171≠gb170));clear BK170 HB;have BK170:=n0_;have HB:=n1_;have BK171:=n2_;have GW171:=n3_;have GE171:=n4_;have NB170_171:=n5_;have NB171_170:=n6_;clear n0_ n1_ n2_ n3_ n4_ n5_ n6_;clear hb hbox hg)|((with_reducible refine gate_dst (N:=3) rfl ?_);refine box_event ?hg (N:=3) ?hd (cs:=#[.int .i64 0,.int .i64 0]) (t:=60) ?hr ?_;(case hd=>rfl);(case hg=>rfl);(case hr=>first|(go_simp;done)|(go_simp;rfl));intro gb172 hg w4 hbox hb;have n0_:=Aside0.mk (bM BK170.out hb);have n1_:=Aside0.mk (bM BK171.out hb);have n2_:=Aside0.mk (below_step (bS2 GE170.out GE171.out) hb);have n3_:=Aside0.mk (hbox);have n4_:=Aside0.mk ((by rw[hg];exact(below_size (bS2 GE170.out GE171.out)):w.heap.size≤gb172));have n5_:=Aside0.mk ((by rw[hg];exact(below_size (bS2 GE170.out GE171.out)):w.heap.size≤gb172));have n6_:=Aside0.mk ((bN BK170.out hg:gb170≠gb172));have n7_:=Aside0.mk ((bO BK170.out hg:gb172≠gb170));have n8_:=Aside0.mk ((bN BK171.out hg:gb171≠gb172));have n9_:=Aside0.mk ((bO BK171.out hg:gb172≠gb171));clear BK170 BK171 HB;have BK170:=n0_;have BK171:=n1_;have HB:=n2_;have BK172:=n3_;have GW172:=n4_;have GE172:=n5_;have NB170_172:=n6_;have NB172_170:=n7_;have NB171_172:=n8_;have NB172_171:=n9_;clear n0_ n1_ n2_ n3_ n4_ n5_ n6_ n7_ n8_ n9_;clear hb hbox hg;have hnb5:=NB170_171.out;have hnc5:=NB171_170.out;have hnb6:=NB170_172.out;have hnc6:=NB172_170.out;obtain⟨hcz7_0,hcz7_1⟩:=cC2 BK170.out;obtain⟨hfz7_0,hfz7_1⟩:=cF2 BK170.out;have hnb8:=NB172_171.out;have hnc8:=NB171_172.out;obtain⟨hcz9_0,hcz9_1⟩:=cC2 BK172.out;obtain⟨hfz9_0,hfz9_1⟩:=cF2 BK172.out;obtain⟨hcz10_0,hcz10_1⟩:=cC2 BK171.out;obtain⟨hfz10_0,hfz10_1⟩:=cF2 BK171.out))
 refine bodyPost_ret (results_cell_row rfl _ _ gb171 60 #[.int .i64 a0_0,.int .i64 a0_1] (0,0) _ rfl (by(with_reducible repeat (first|refine blk_drewN ?_ _|refine blk_drew ?_|refine blk_alloc ?_ _));refine blk_put (cs:=#[.int .i64 a0_0,.int .i64 0]) ?_ 1 _ rfl;(with_reducible repeat (first|refine blk_drewN ?_ _|refine blk_drew ?_|refine blk_alloc ?_ _));refine blk_put (cs:=#[.int .i64 0,.int .i64 0]) ?_ 0 _ rfl;(with_reducible repeat (first|refine blk_drewN ?_ _|refine blk_drew ?_|refine blk_alloc ?_ _));refine blk_far ?_ NB171_172.out _;(with_reducible repeat (first|refine blk_drewN ?_ _|refine blk_drew ?_|refine blk_alloc ?_ _));refine blk_far ?_ NB171_172.out _;(with_reducible repeat (first|refine blk_drewN ?_ _|refine blk_drew ?_|refine blk_alloc ?_ _));exact BK171.out) Try.underlying60 rfl (by kernel_rfl)) rfl ?_
 exact⟨bE,bS3 GE170.out GE171.out GE172.out⟩

/-! ### impl_within: function 93 -/
def impl_within.f (a0:Int) (a1:Int) (a2:Int):Option (Bool):=if a1≤a0 then (some (decide (a0≤a2))) else (some false)
set_option maxHeartbeats 8000000 in
set_option maxRecDepth 100000 in
theorem impl_within.calls (a0:Int) (a1:Int) (a2:Int) (r:Bool) (w:World) (h:impl_within.f a0 a1 a2=some r) :
  Calls Try.prog 93 #[.int .i64 a0,.int .i64 a1,.int .i64 a2] w fun e w'=>e=.returned (.bool r)∧Drawn0 w w':=by
 have H:(if a1≤a0 then (some (decide (a0≤a2))) else (some false))=some r:=h
 clear h
 by_cases c4:a1≤a0
 ·rw[if_pos c4] at H
  have c4b0:decide (a1≤a0)=true:=decide_eq_true c4
  clear c4
  obtain rfl:=Option.some.inj H
  go_enter Try.func93,Try.ntmps93
  go_wp2
  go_ret
  exact⟨bR,bW⟩
 ·rw[if_neg c4] at H
  have c4b0:decide (a1≤a0)=false:=decide_eq_false c4
  clear c4
  obtain rfl:=Option.some.inj H
  go_enter Try.func93,Try.ntmps93
  go_wp2
  go_ret
  exact⟨bR,bW⟩

-- NOT PRINTED: function 145 (slices_IndexFunc_int_int)

-- NOT PRINTED: function 95 (slices_ContainsFunc_int_int)

/-! ### impl_isWide: function 147 -/
def impl_isWide.f (a0:Int):Option (Bool):=(impl_within.f a0 2 8).bind fun t173=>(some t173)
set_option maxHeartbeats 8000000 in
set_option maxRecDepth 100000 in
theorem impl_isWide.calls (a0:Int) (r:Bool) (w:World) (h:impl_isWide.f a0=some r) :
  Calls Try.prog 147 #[.int .i64 a0] w fun e w'=>e=.returned (.bool r)∧Drawn0 w w':=by
 have H:((impl_within.f a0 2 8).bind fun t173=>(some t173))=some r:=h
 clear h
 replace H:=Option.bind_eq_some_iff.mp H
 obtain⟨t173,A20,H⟩:=H
 have A2:=Aside0.mk A20
 clear A20
 obtain rfl:=Option.some.inj H
 go_enter Try.func147,Try.ntmps147
 go_wp2_with (first|((with_reducible refine gate_callee (f:=93) rfl ?_);refine goesA (some 4) rfl rfl Try.func93 #[.int .i64 a0,.int .i64 2,.int .i64 8] rfl ?_;(with_reducible refine(impl_within.calls a0 2 8 t173 _ A2.out).mono ?_);rintro e w' ⟨rfl,⟨nd,rfl⟩⟩;refine⟨_,rfl,?_⟩))
 go_ret
 exact⟨bR,bW⟩

/-! ### impl_Spray_tokens: function 149 -/
def impl_Spray_tokens.l0:Nat→Int→List Int→Int→Int→Option (Int)
 | 0,_,_,_,_=>none
 | k+1,x3,x7,x8,x9=>if x9 < x8 then (if 0≤x9 then (if x9 < (x7.length:Int) then (impl_Spray_tokens.l0 k (wrap64 (x3+(rd x7 x9))) x7 x8 (wrap64 (x9+1))) else (none)) else (none)) else (some x3)
def impl_Spray_tokens.f (k:Nat) (l0_0:List Int) (a0_1:Int) (a0_2:Bool):Option (Int):=impl_Spray_tokens.l0 k 0 l0_0 (l0_0.length:Int) 0
theorem impl_Spray_tokens.mono_l : ∀ k,(∀ y0 y1 y2 y3,LeO (impl_Spray_tokens.l0 k y0 y1 y2 y3) (impl_Spray_tokens.l0 (k+1) y0 y1 y2 y3))
 | 0=>fun _ _ _ _ r h=>by simp[impl_Spray_tokens.l0] at h
 | k+1=>by
  have ih0:=impl_Spray_tokens.mono_l k
  ·intro y0 y1 y2 y3
   unfold impl_Spray_tokens.l0
   repeat' first
   | (with_reducible exact ih0 _ _ _ _)
   | (with_reducible exact LeO.refl _)
   | (with_reducible exact LeO.none _)
   | (with_reducible refine LeO.ite ?_ ?_)
   | (with_reducible refine LeO.bind ?_ (fun _ => ?_))
   | exact ih0 _ _ _ _
   | exact LeO.none _
   | refine LeO.ite ?_ ?_
   | refine LeO.bind ?_ (fun _ => ?_)
theorem impl_Spray_tokens.mono : ∀ a0 a1 a2 k,LeO (impl_Spray_tokens.f k a0 a1 a2) (impl_Spray_tokens.f (k+1) a0 a1 a2):=by
 intro a0 a1 a2 k
 have ih0:=impl_Spray_tokens.mono_l k
 unfold impl_Spray_tokens.f
 repeat' first
  | (with_reducible exact ih0 _ _ _ _)
  | (with_reducible exact LeO.refl _)
  | (with_reducible exact LeO.none _)
  | (with_reducible refine LeO.ite ?_ ?_)
  | (with_reducible refine LeO.bind ?_ (fun _ => ?_))
  | exact ih0 _ _ _ _
  | exact LeO.none _
  | refine LeO.ite ?_ ?_
  | refine LeO.bind ?_ (fun _ => ?_)
set_option maxHeartbeats 8000000 in
set_option maxRecDepth 100000 in
theorem impl_Spray_tokens.calls (k:Nat) (A0_0:Option Addr) (c0_0:Nat) (l0_0:List Int) (a0_1:Int) (a0_2:Bool) (r:Int) (w:World) (hr0_0:Kd.C (Kd.int .i64) w A0_0 l0_0.length l0_0) (hc0_0:l0_0.length≤c0_0) (h:impl_Spray_tokens.f k l0_0 a0_1 a0_2=some r) :
  Calls Try.prog 149 #[.agg #[.slice A0_0 l0_0.length c0_0,.int .i64 a0_1,.bool a0_2]] w fun e w'=>e=.returned (.int .i64 r)∧Below w.heap.size w w':=by
 have hu39:=Try.underlying39
 have HR0_0:=Aside0.mk hr0_0
 have HC0_0:=Aside0.mk hc0_0
 clear hr0_0 hc0_0
 have HB:=Aside0.mk (Below.refl w.heap.size w)
 have H:(impl_Spray_tokens.l0 k 0 l0_0 (l0_0.length:Int) 0)=some r:=h
 clear h
 have H':=Aside0.mk H
 clear H
 go_enter Try.func149,Try.ntmps149
 go_wp2_with (first|((with_reducible refine gate_dst (N:=1) rfl ?_);refine box_event ?hg (N:=1) ?hd (cs:=#[.slice A0_0 l0_0.length c0_0,.int .i64 a0_1,.bool a0_2]) (t:=39) ?hr ?_;(case hd=>rfl);(case hg=>rfl);(case hr=>first|(go_simp;done)|(go_simp;rfl));intro gb174 hg w2 hbox hb;have n0_:=Aside0.mk (below_step (bB) hb);have n1_:=Aside0.mk (hbox);have n2_:=Aside0.mk ((bG:w.heap.size≤gb174));have n3_:=Aside0.mk ((bG:w.heap.size≤gb174));clear HB;have HB:=n0_;have BK174:=n1_;have GW174:=n2_;have GE174:=n3_;clear n0_ n1_ n2_ n3_;clear hb hbox hg;obtain⟨hcz3_0,hcz3_1,hcz3_2⟩:=cC3 BK174.out;obtain⟨hfz3_0,hfz3_1,hfz3_2⟩:=cF3 BK174.out))
 go_loopg [3,9] k (fun kq v3 v9 w' => ∃ (x3_1:Int) (x9_1:Int),v3=.int .i64 x3_1∧v9=.int .i64 x9_1∧Aside0 (impl_Spray_tokens.l0 kq x3_1 l0_0 (l0_0.length:Int) x9_1=some r)∧Aside0 (kq≤k)∧Aside0 (w'.heap[gb174]?=some (.cells #[(.slice A0_0 l0_0.length c0_0),.int .i64 a0_1,.bool a0_2] 39 (0,0)))∧Aside0 (Below w.heap.size w w'))
 case atStart=>exact⟨(0),(0),(bR),(bR),H',⟨Nat.le_refl _⟩,⟨by(with_reducible repeat (first|refine blk_drewN ?_ _|refine blk_drew ?_|refine blk_alloc ?_ _));exact BK174.out⟩,⟨bS GE174.out⟩⟩
 case round =>
  clear H'
  try clear c1
  try clear p2
  try clear hcz3_0
  try clear hcz3_1
  try clear hcz3_2
  try clear hfz3_0
  try clear hfz3_1
  try clear hfz3_2
  obtain⟨x3_1,x9_1,rfl,rfl,HA,HK1,BK174,HB⟩:=hrel
  cases gk with
  | zero=>exact absurd HA.out (by simp[impl_Spray_tokens.l0])
  | succ k1 =>
   have H:=HA.out
   clear HA
   simp only[impl_Spray_tokens.l0] at H
   by_cases c4:x9_1 < (l0_0.length:Int)
   ·rw[if_pos c4] at H
    have c4b0:decide (x9_1 < (l0_0.length:Int))=true:=decide_eq_true c4
    clear c4
    by_cases c5:0≤x9_1
    ·rw[if_pos c5] at H
     have c5b0:decide (0≤x9_1)=true:=decide_eq_true c5
     clear c5
     by_cases c6:x9_1 < (l0_0.length:Int)
     ·rw[if_pos c6] at H
      have c6b0:decide (x9_1 < (l0_0.length:Int))=true:=decide_eq_true c6
      clear c6
      have H':=Aside0.mk H
      clear H
      have p175:0≤(x9_1:Int):=of_decide_eq_true (bD)
      have q175:x9_1 < (l0_0.length:Int):=of_decide_eq_true (bD)
      obtain⟨ad175,e175,hx175_0⟩:=Kd.at_int HR0_0.out x9_1 p175 q175
      cases e175
      replace hx175_0:=(HB.out.cell (World.block_lt_of_cell? w _ hx175_0)).trans hx175_0
      replace p175:=eq_true p175
      replace q175:=eq_true q175
      go_wp2
      go_roundg k1
      case measure=>have:=HK1.out;omega
      case rel=>exact⟨(wrap64 (x3_1+(rd l0_0 x9_1))),(wrap64 (x9_1+1)),(bR),(bR),H',⟨by have:=HK1.out;omega⟩,⟨by(with_reducible repeat (first|refine blk_drewN ?_ _|refine blk_drew ?_|refine blk_alloc ?_ _));exact BK174.out⟩,⟨bS GE174.out⟩⟩
     ·rw[if_neg c6] at H
      exact absurd H (by simp)
    ·rw[if_neg c5] at H
     exact absurd H (by simp)
   ·rw[if_neg c4] at H
    have c4b0:decide (x9_1 < (l0_0.length:Int))=false:=decide_eq_false c4
    clear c4
    obtain rfl:=Option.some.inj H
    go_wp2
    go_ret
    exact⟨bE,bS GE174.out⟩

/-! ### impl_GoodSpray_lit1: function 148 -/
def impl_GoodSpray_lit1.f (a0:Int):Option (Bool):=(impl_within.f a0 0 64).bind fun t181=>(some (!t181))
set_option maxHeartbeats 8000000 in
set_option maxRecDepth 100000 in
theorem impl_GoodSpray_lit1.calls (a0:Int) (r:Bool) (w:World) (h:impl_GoodSpray_lit1.f a0=some r) :
  Calls Try.prog 148 #[.int .i64 a0] w fun e w'=>e=.returned (.bool r)∧Drawn0 w w':=by
 have H:((impl_within.f a0 0 64).bind fun t181=>(some (!t181)))=some r:=h
 clear h
 replace H:=Option.bind_eq_some_iff.mp H
 obtain⟨t181,A20,H⟩:=H
 have A2:=Aside0.mk A20
 clear A20
 obtain rfl:=Option.some.inj H
 go_enter Try.func148,Try.ntmps148
 go_wp2_with (first|((with_reducible refine gate_callee (f:=93) rfl ?_);refine goesA (some 4) rfl rfl Try.func93 #[.int .i64 a0,.int .i64 0,.int .i64 64] rfl ?_;(with_reducible refine(impl_within.calls a0 0 64 t181 _ A2.out).mono ?_);rintro e w' ⟨rfl,⟨nd,rfl⟩⟩;refine⟨_,rfl,?_⟩))
 go_ret
 exact⟨bR,bW⟩

/-! ### slices_IndexFunc_int_int_impl_GoodSpray_lit1: function 145 -/
def slices_IndexFunc_int_int_impl_GoodSpray_lit1.l0:Nat→List Int→Int→Int→Option (Int)
 | 0,_,_,_=>none
 | k+1,x0,x7,x8=>if x8 < x7 then (if 0≤x8 then (if x8 < (x0.length:Int) then ((impl_GoodSpray_lit1.f (rd x0 x8)).bind fun t183=>(if t183=true then (some x8) else (slices_IndexFunc_int_int_impl_GoodSpray_lit1.l0 k x0 x7 (wrap64 (x8+1))))) else (none)) else (none)) else (some (-1))
def slices_IndexFunc_int_int_impl_GoodSpray_lit1.f (k:Nat) (l0:List Int)  : Option (Int):=slices_IndexFunc_int_int_impl_GoodSpray_lit1.l0 k l0 (l0.length:Int) 0
theorem slices_IndexFunc_int_int_impl_GoodSpray_lit1.mono_l : ∀ k,(∀ y0 y1 y2,LeO (slices_IndexFunc_int_int_impl_GoodSpray_lit1.l0 k y0 y1 y2) (slices_IndexFunc_int_int_impl_GoodSpray_lit1.l0 (k+1) y0 y1 y2))
 | 0=>fun _ _ _ r h=>by simp[slices_IndexFunc_int_int_impl_GoodSpray_lit1.l0] at h
 | k+1=>by
  have ih0:=slices_IndexFunc_int_int_impl_GoodSpray_lit1.mono_l k
  ·intro y0 y1 y2
   unfold slices_IndexFunc_int_int_impl_GoodSpray_lit1.l0
   repeat' first
   | (with_reducible exact ih0 _ _ _)
   | (with_reducible exact LeO.refl _)
   | (with_reducible exact LeO.none _)
   | (with_reducible refine LeO.ite ?_ ?_)
   | (with_reducible refine LeO.bind ?_ (fun _ => ?_))
   | exact ih0 _ _ _
   | exact LeO.none _
   | refine LeO.ite ?_ ?_
   | refine LeO.bind ?_ (fun _ => ?_)
theorem slices_IndexFunc_int_int_impl_GoodSpray_lit1.mono : ∀ a0 k,LeO (slices_IndexFunc_int_int_impl_GoodSpray_lit1.f k a0) (slices_IndexFunc_int_int_impl_GoodSpray_lit1.f (k+1) a0):=by
 intro a0 k
 have ih0:=slices_IndexFunc_int_int_impl_GoodSpray_lit1.mono_l k
 unfold slices_IndexFunc_int_int_impl_GoodSpray_lit1.f
 repeat' first
  | (with_reducible exact ih0 _ _ _)
  | (with_reducible exact LeO.refl _)
  | (with_reducible exact LeO.none _)
  | (with_reducible refine LeO.ite ?_ ?_)
  | (with_reducible refine LeO.bind ?_ (fun _ => ?_))
  | exact ih0 _ _ _
  | exact LeO.none _
  | refine LeO.ite ?_ ?_
  | refine LeO.bind ?_ (fun _ => ?_)
set_option maxHeartbeats 8000000 in
set_option maxRecDepth 100000 in
theorem slices_IndexFunc_int_int_impl_GoodSpray_lit1.calls (k:Nat) (A0:Option Addr) (c0:Nat) (l0:List Int)  (r:Int) (w:World) (hr0:Kd.C (Kd.int .i64) w A0 l0.length l0) (hc0:l0.length≤c0) (h:slices_IndexFunc_int_int_impl_GoodSpray_lit1.f k l0=some r) :
  Calls Try.prog 145 #[.slice A0 l0.length c0,(.func (.func 148) #[] #[])] w fun e w'=>e=.returned (.int .i64 r)∧Drawn0 w w':=by
 have HR0:=Aside0.mk hr0
 have HC0:=Aside0.mk hc0
 clear hr0 hc0
 have H:(slices_IndexFunc_int_int_impl_GoodSpray_lit1.l0 k l0 (l0.length:Int) 0)=some r:=h
 clear h
 have H':=Aside0.mk H
 clear H
 go_enter Try.func145,Try.ntmps145
 go_wp2
 go_loopg [8] k (fun kq v8 w' => ∃ (x8_1:Int),v8=.int .i64 x8_1∧Aside0 (slices_IndexFunc_int_int_impl_GoodSpray_lit1.l0 kq l0 (l0.length:Int) x8_1=some r)∧Aside0 (kq≤k)∧Drawn0 w w')
 case atStart=>exact⟨(0),(bR),H',⟨Nat.le_refl _⟩,bW⟩
 case round =>
  clear H'
  try clear p2
  obtain⟨x8_1,rfl,HA,HK1,⟨m1,rfl⟩⟩:=hrel
  cases gk with
  | zero=>exact absurd HA.out (by simp[slices_IndexFunc_int_int_impl_GoodSpray_lit1.l0])
  | succ k1 =>
   have H:=HA.out
   clear HA
   simp only[slices_IndexFunc_int_int_impl_GoodSpray_lit1.l0] at H
   by_cases c3:x8_1 < (l0.length:Int)
   ·rw[if_pos c3] at H
    have c3b0:decide (x8_1 < (l0.length:Int))=true:=decide_eq_true c3
    clear c3
    by_cases c4:0≤x8_1
    ·rw[if_pos c4] at H
     have c4b0:decide (0≤x8_1)=true:=decide_eq_true c4
     clear c4
     by_cases c5:x8_1 < (l0.length:Int)
     ·rw[if_pos c5] at H
      have c5b0:decide (x8_1 < (l0.length:Int))=true:=decide_eq_true c5
      clear c5
      replace H:=Option.bind_eq_some_iff.mp H
      obtain⟨t183,A60,H⟩:=H
      have A6:=Aside0.mk A60
      clear A60
      by_cases c7:t183=true
      ·subst c7
       have H1:(some x8_1)=some r:=by rw[if_pos rfl] at H;exact H
       clear H
       have H:=H1
       clear H1
       obtain rfl:=Option.some.inj H
       have p182:0≤(x8_1:Int):=of_decide_eq_true (bD)
       have q182:x8_1 < (l0.length:Int):=of_decide_eq_true (bD)
       obtain⟨ad182,e182,hx182_0⟩:=Kd.at_int HR0.out x8_1 p182 q182
       cases e182
       replace p182:=eq_true p182
       replace q182:=eq_true q182
       go_wp2_with (first|(go_at_call 148;(with_reducible refine(impl_GoodSpray_lit1.calls (rd l0 x8_1) true _ A6.out).mono ?_);rintro e w' ⟨rfl,⟨nd,rfl⟩⟩))
       go_ret
       exact⟨bR,bW⟩
      ·replace c7:=Bool.eq_false_iff.mpr c7
       subst c7
       have H1:(slices_IndexFunc_int_int_impl_GoodSpray_lit1.l0 k1 l0 (l0.length:Int) (wrap64 (x8_1+1)))=some r:=by rw[if_neg (show ¬ (false=true) by decide)] at H;exact H
       clear H
       have H:=H1
       clear H1
       have H':=Aside0.mk H
       clear H
       have p182:0≤(x8_1:Int):=of_decide_eq_true (bD)
       have q182:x8_1 < (l0.length:Int):=of_decide_eq_true (bD)
       obtain⟨ad182,e182,hx182_0⟩:=Kd.at_int HR0.out x8_1 p182 q182
       cases e182
       replace p182:=eq_true p182
       replace q182:=eq_true q182
       go_wp2_with (first|(go_at_call 148;(with_reducible refine(impl_GoodSpray_lit1.calls (rd l0 x8_1) false _ A6.out).mono ?_);rintro e w' ⟨rfl,⟨nd,rfl⟩⟩))
       go_roundg k1
       case measure=>have:=HK1.out;omega
       case rel=>exact⟨(wrap64 (x8_1+1)),(bR),H',⟨by have:=HK1.out;omega⟩,bW⟩
     ·rw[if_neg c5] at H
      exact absurd H (by simp)
    ·rw[if_neg c4] at H
     exact absurd H (by simp)
   ·rw[if_neg c3] at H
    have c3b0:decide (x8_1 < (l0.length:Int))=false:=decide_eq_false c3
    clear c3
    obtain rfl:=Option.some.inj H
    go_wp2
    go_ret
    exact⟨bR,bW⟩

/-! ### slices_ContainsFunc_int_int_impl_GoodSpray_lit1: function 95 -/
def slices_ContainsFunc_int_int_impl_GoodSpray_lit1.f (k:Nat) (l0:List Int)  : Option (Bool):=(slices_IndexFunc_int_int_impl_GoodSpray_lit1.f k l0).bind fun t184=>(some (decide (t184 ≥ 0)))
theorem slices_ContainsFunc_int_int_impl_GoodSpray_lit1.mono : ∀ a0 k,LeO (slices_ContainsFunc_int_int_impl_GoodSpray_lit1.f k a0) (slices_ContainsFunc_int_int_impl_GoodSpray_lit1.f (k+1) a0):=by
 intro a0 k
 unfold slices_ContainsFunc_int_int_impl_GoodSpray_lit1.f
 repeat' first
  | (with_reducible exact slices_IndexFunc_int_int_impl_GoodSpray_lit1.mono _ _)
  | (with_reducible exact LeO.refl _)
  | (with_reducible exact LeO.none _)
  | (with_reducible refine LeO.ite ?_ ?_)
  | (with_reducible refine LeO.bind ?_ (fun _ => ?_))
  | exact slices_IndexFunc_int_int_impl_GoodSpray_lit1.mono _ _
  | exact LeO.none _
  | refine LeO.ite ?_ ?_
  | refine LeO.bind ?_ (fun _ => ?_)
set_option maxHeartbeats 8000000 in
set_option maxRecDepth 100000 in
theorem slices_ContainsFunc_int_int_impl_GoodSpray_lit1.calls (k:Nat) (A0:Option Addr) (c0:Nat) (l0:List Int)  (r:Bool) (w:World) (hr0:Kd.C (Kd.int .i64) w A0 l0.length l0) (hc0:l0.length≤c0) (h:slices_ContainsFunc_int_int_impl_GoodSpray_lit1.f k l0=some r) :
  Calls Try.prog 95 #[.slice A0 l0.length c0,(.func (.func 148) #[] #[])] w fun e w'=>e=.returned (.bool r)∧Drawn0 w w':=by
 have HR0:=Aside0.mk hr0
 have HC0:=Aside0.mk hc0
 clear hr0 hc0
 have H:((slices_IndexFunc_int_int_impl_GoodSpray_lit1.f k l0).bind fun t184=>(some (decide (t184 ≥ 0))))=some r:=h
 clear h
 replace H:=Option.bind_eq_some_iff.mp H
 obtain⟨t184,A30,H⟩:=H
 have A3:=Aside0.mk A30
 clear A30
 obtain rfl:=Option.some.inj H
 go_enter Try.func95,Try.ntmps95
 go_wp2_with (first|((with_reducible refine gate_callee (f:=145) rfl ?_);refine goesA (some 7) rfl rfl Try.func145 #[.slice A0 l0.length c0,(.func (.func 148) #[] #[])] rfl ?_;(with_reducible refine(slices_IndexFunc_int_int_impl_GoodSpray_lit1.calls k _ _ l0  t184 _ ?side1 ?side2 A3.out).mono ?_);(case side1=>repeat (first|exact HR0.out|(with_reducible refine Kd.C_alloc ?_ _)|(with_reducible refine Kd.C_drewN ?_ _)|(with_reducible refine Kd.C_drew ?_)));(case side2=>exact HC0.out);rintro e w' ⟨rfl,⟨nd,rfl⟩⟩;refine⟨_,rfl,?_⟩))
 go_ret
 exact⟨bR,bW⟩

end Go.Proofs.Ytnphabcbnpenjaa.XFnExactMeetBoth
