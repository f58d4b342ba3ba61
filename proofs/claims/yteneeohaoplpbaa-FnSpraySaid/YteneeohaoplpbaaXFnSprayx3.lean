-- Written by this session's own program (wip/xprint.py) out of the translation; Lean checks it.
import Derived.Test.YteneeohaoplpbaaXFnSprayx0
import Derived.Test.YteneeohaoplpbaaXFnSprayx1
import Derived.Test.YteneeohaoplpbaaXFnSprayx2
namespace Go.Proofs.Yteneeohaoplpbaa.XFnSpray
open Go.RowKit Go.Proofs.YteneeohaoplpbaaW.PrintWords Go.Proofs.YteneeohaoplpbaaW.PrintLast Go.Proofs.YteneeohaoplpbaaW.PrintMore
open Go.Proofs.YteneeohaoplpbaaW.PrintWords.Aside0 renaming mk → am
open List renaming setIfInBounds_toArray → zA, set_cons_zero → zB, set_cons_succ → zC
attribute [local go_sem] max2_int min2_int max_two min_two max_three min_three max_four min_four   -- for this text's walks alone
set_option linter.unusedVariables false
set_option linter.unusedSimpArgs false

/-! ### impl_MeetBoth: function 46 -/
def impl_MeetBoth.j0:Nat→Bool→List Int→Int→Bool→Int→Int→Option (List Int × Int × Bool × Bool)
 | 0,_,_,_,_,_,_=>none
 | k+1,x37,x216000,x216001,x216002,x217000,x217001=>if x37=true then (some (([]:List Int),0,false,false)) else ((slices_Clone_int_int.f x216000).bind fun t221=>(if 0≤x217000 then (if x217000 < (t221.length:Int) then (if 0≤x217001 then (if x217001 < (t221.length:Int) then (if x217000=x216001 then (if x216002=true then (some (t221,x216001,true,true)) else (some (t221,x216001,decide ((wrap64 ((rd t221 x217000)+(rd t221 x217001))) > 0),true))) else (if x217001=x216001 then (if x216002=true then (some (t221,x216001,true,true)) else (some (t221,x216001,decide ((wrap64 ((rd t221 x217000)+(rd t221 x217001))) > 0),true))) else (if (rd t221 x217000) ≥ 2 then (if (rd t221 x217001)=0 then ((some (t221.set (x217001:Int).toNat (wrap64 (Int.tdiv (rd t221 x217000) 2)):List Int)).bind fun y231=>(some ((y231.set (x217000:Int).toNat (wrap64 ((rd y231 x217000) - (rd y231 x217001)))),x216001,x216002,true))) else (if (rd t221 x217001) ≥ 2 then (if (rd t221 x217000)=0 then ((some (t221.set (x217000:Int).toNat (wrap64 (Int.tdiv (rd t221 x217001) 2)):List Int)).bind fun y238=>(some ((y238.set (x217001:Int).toNat (wrap64 ((rd y238 x217001) - (rd y238 x217000)))),x216001,x216002,true))) else (some (t221,x216001,x216002,true))) else (some (t221,x216001,x216002,true)))) else (if (rd t221 x217001) ≥ 2 then (if (rd t221 x217000)=0 then ((some (t221.set (x217000:Int).toNat (wrap64 (Int.tdiv (rd t221 x217001) 2)):List Int)).bind fun y245=>(some ((y245.set (x217001:Int).toNat (wrap64 ((rd y245 x217001) - (rd y245 x217000)))),x216001,x216002,true))) else (some (t221,x216001,x216002,true))) else (some (t221,x216001,x216002,true)))))) else (none)) else (none)) else (none)) else (none)))
def impl_MeetBoth.f (k:Nat) (l0_0:List Int) (a0_1:Int) (a0_2:Bool) (a1_0:Int) (a1_1:Int):Option (List Int × Int × Bool × Bool):=(impl_GoodSpray.f k l0_0 a0_1 a0_2).bind fun t218=>(if t218=true then ((impl_within.f a1_0 0 (wrap64 ((l0_0.length:Int) - 1))).bind fun t219=>(if t219=true then ((impl_within.f a1_1 0 (wrap64 ((l0_0.length:Int) - 1))).bind fun t220=>(if t220=true then (impl_MeetBoth.j0 k (a1_0 == a1_1) l0_0 a0_1 a0_2 a1_0 a1_1) else (impl_MeetBoth.j0 k true l0_0 a0_1 a0_2 a1_0 a1_1))) else (impl_MeetBoth.j0 k true l0_0 a0_1 a0_2 a1_0 a1_1))) else (impl_MeetBoth.j0 k true l0_0 a0_1 a0_2 a1_0 a1_1))
theorem impl_MeetBoth.mono_l : ∀ k,(∀ y0 y1 y2 y3 y4 y5,LeO (impl_MeetBoth.j0 k y0 y1 y2 y3 y4 y5) (impl_MeetBoth.j0 (k+1) y0 y1 y2 y3 y4 y5))
 | 0=>fun _ _ _ _ _ _ r h=>by simp[impl_MeetBoth.j0] at h
 | k+1=>by
  have ih0:=impl_MeetBoth.mono_l k
  ·intro y0 y1 y2 y3 y4 y5
   unfold impl_MeetBoth.j0
   repeat' first
   | (with_reducible exact ih0 _ _ _ _ _ _)
   | (with_reducible exact impl_GoodSpray.mono _ _ _ _)
   | (with_reducible exact LeO.refl _)
   | (with_reducible exact LeO.none _)
   | (with_reducible refine LeO.ite ?_ ?_)
   | (with_reducible refine LeO.bind ?_ (fun _ => ?_))
theorem impl_MeetBoth.mono : ∀ a0 a1 a2 a3 a4 k,LeO (impl_MeetBoth.f k a0 a1 a2 a3 a4) (impl_MeetBoth.f (k+1) a0 a1 a2 a3 a4):=by
 intro a0 a1 a2 a3 a4 k
 have ih0:=impl_MeetBoth.mono_l k
 unfold impl_MeetBoth.f
 repeat' first
  | (with_reducible exact ih0 _ _ _ _ _ _)
  | (with_reducible exact impl_GoodSpray.mono _ _ _ _)
  | (with_reducible exact LeO.refl _)
  | (with_reducible exact LeO.none _)
  | (with_reducible refine LeO.ite ?_ ?_)
  | (with_reducible refine LeO.bind ?_ (fun _ => ?_))
def impl_MeetBoth.T4:Bool × List (List Nat × List Nat):=(true,[([],[]),([0],[0]),([],[]),([2],[2]),([1,3],[1,3]),([],[]),([5],[5]),([],[]),([7],[7]),([6,8],[6,8]),([4,0,1,2,3,4],[4]),([9,10,0,1,2,3,4,5,6,7,8,9,10],[9])])
def impl_MeetBoth.B4:List Nat:=[0,1,0,4,15,0,32,0,128,480,31,2047]
theorem impl_MeetBoth.tab4:rtab .any (opsOf Try.f46 4)=impl_MeetBoth.T4:=by kernel_rfl
theorem impl_MeetBoth.bits4:waitsOk impl_MeetBoth.T4.2 impl_MeetBoth.B4=true:=by kernel_rfl
def impl_MeetBoth.T6:Bool × List (List Nat × List Nat):=(true,[([],[]),([0],[0]),([1],[1]),([2],[2]),([3,2],[2,3]),([4,2],[2,4]),([2],[2]),([6,2],[2,6]),([7,2],[2,7]),([5,8,2],[2,5,8]),([9,2],[2,9]),([2,10],[2,10]),([0,1,2,3,4,5,6,7,8,9,10,11],[]),([12,11,2,0,1,2,3,4,5,6,7,8,9,10,11],[11,12])])
def impl_MeetBoth.B6:List Nat:=[0,1,3,7,15,31,7,71,199,511,1023,2047,4095,8191]
theorem impl_MeetBoth.tab6:rtab .any (opsOf Try.f46 6)=impl_MeetBoth.T6:=by kernel_rfl
theorem impl_MeetBoth.bits6:waitsOk impl_MeetBoth.T6.2 impl_MeetBoth.B6=true:=by kernel_rfl
def impl_MeetBoth.T9:Bool × List (List Nat × List Nat):=(true,[([],[]),([0],[0]),([1],[1]),([],[]),([3],[3]),([4],[4]),([2,5],[2,5]),([0,0,1,2,3,4,5,6],[0]),([7,6,0,1,2,3,4,5,6],[6,7])])
def impl_MeetBoth.B9:List Nat:=[0,1,3,0,8,24,63,127,255]
theorem impl_MeetBoth.tab9:rtab .any (opsOf Try.f46 9)=impl_MeetBoth.T9:=by kernel_rfl
theorem impl_MeetBoth.bits9:waitsOk impl_MeetBoth.T9.2 impl_MeetBoth.B9=true:=by kernel_rfl
def impl_MeetBoth.T12:Bool × List (List Nat × List Nat):=(true,[([],[]),([0],[0]),([1],[1]),([],[]),([3],[3]),([4],[4]),([2,5],[2,5]),([0,0,1,2,3,4,5,6],[0]),([7,6,0,1,2,3,4,5,6],[6,7])])
def impl_MeetBoth.B12:List Nat:=[0,1,3,0,8,24,63,127,255]
theorem impl_MeetBoth.tab12:rtab .any (opsOf Try.f46 12)=impl_MeetBoth.T12:=by kernel_rfl
theorem impl_MeetBoth.bits12:waitsOk impl_MeetBoth.T12.2 impl_MeetBoth.B12=true:=by kernel_rfl
set_option maxHeartbeats 8000000 in
set_option maxRecDepth 100000 in
theorem impl_MeetBoth.calls (k:Nat) (A0_0:Option Addr) (c0_0:Nat) (l0_0:List Int) (a0_1:Int) (a0_2:Bool) (a1_0:Int) (a1_1:Int) (r1:List Int) (r2:Int) (r3:Bool) (r4:Bool) (w:World) (hr0_0:Kd.C (Kd.int .i64) w A0_0 l0_0.length l0_0) (hc0_0:l0_0.length≤c0_0) (h:impl_MeetBoth.f k l0_0 a0_1 a0_2 a1_0 a1_1=some (r1,r2,r3,r4)) :
  Calls Try.prog 46 #[.agg #[.slice A0_0 l0_0.length c0_0,.int .i64 a0_1,.bool a0_2],.agg #[.int .i64 a1_0,.int .i64 a1_1]] w fun e w' => ∃ v0_:Value,e=.returned (.tuple #[.agg #[v0_,.int .i64 r2,.bool r3],.bool r4])∧Kd.R (Kd.int .i64) 3 w' w.heap.size (fun _=>True) v0_ r1∧Below w.heap.size w w':=by
 have hu62:=Try.underlying62
 have hu72:=Try.underlying72
 have HR0_0:=am hr0_0
 have HC0_0:=am hc0_0
 clear hr0_0 hc0_0
 have HB:=am (Below.refl w.heap.size w)
 have H:((impl_GoodSpray.f k l0_0 a0_1 a0_2).bind fun t218=>(if t218=true then ((impl_within.f a1_0 0 (wrap64 ((l0_0.length:Int) - 1))).bind fun t219=>(if t219=true then ((impl_within.f a1_1 0 (wrap64 ((l0_0.length:Int) - 1))).bind fun t220=>(if t220=true then (impl_MeetBoth.j0 k (a1_0 == a1_1) l0_0 a0_1 a0_2 a1_0 a1_1) else (impl_MeetBoth.j0 k true l0_0 a0_1 a0_2 a1_0 a1_1))) else (impl_MeetBoth.j0 k true l0_0 a0_1 a0_2 a1_0 a1_1))) else (impl_MeetBoth.j0 k true l0_0 a0_1 a0_2 a1_0 a1_1)))=some (r1,r2,r3,r4):=h
 clear h
 have HC3:=am H
 clear H
 go_enter Try.func46,Try.ntmps46
 go_upto_region 1 with (first|((with_reducible refine gate_dst (N:=2) rfl ?_);(try (refine gate_guard (by rfl) ?_;dsimp only));refine box_event ?hg (N:=2) ?hd (cs:=#[.slice A0_0 l0_0.length c0_0,.int .i64 a0_1,.bool a0_2]) (t:=62) ?hr ?_;(case hd=>rfl);(case hg=>rfl);(case hr=>first|(go_simp;done)|(go_simp;rfl));intro gb215 hg w4 hbox hb;have n0_:=am (below_step (bB) hb);have n1_:=am (hbox);have n2_:=am ((bG:w.heap.size≤gb215));have n3_:=am ((bG:w.heap.size≤gb215));clear HB;have HB:=n0_;have BK215:=n1_;have GW215:=n2_;have GE215:=n3_;clear n0_ n1_ n2_ n3_;clear hb hbox hg)|((with_reducible refine gate_dst (N:=3) rfl ?_);(try (refine gate_guard (by rfl) ?_;dsimp only));refine box_event ?hg (N:=3) ?hd (cs:=#[.int .i64 a1_0,.int .i64 a1_1]) (t:=72) ?hr ?_;(case hd=>rfl);(case hg=>rfl);(case hr=>first|(go_simp;done)|(go_simp;rfl));intro gb216 hg w5 hbox hb;have n0_:=am (bM BK215.out hb);have n1_:=am (below_step (bS GE215.out) hb);have n2_:=am (hbox);have n3_:=am ((by rw[hg];exact(below_size (bS GE215.out)):w.heap.size≤gb216));have n4_:=am ((by rw[hg];exact(below_size (bS GE215.out)):w.heap.size≤gb216));have n5_:=am ((bN BK215.out hg:gb215≠gb216));have n6_:=am ((bO BK215.out hg:gb216≠gb215));clear BK215 HB;have BK215:=n0_;have HB:=n1_;have BK216:=n2_;have GW216:=n3_;have GE216:=n4_;have NB215_216:=n5_;have NB216_215:=n6_;clear n0_ n1_ n2_ n3_ n4_ n5_ n6_;clear hb hbox hg)|((with_reducible refine gate_dst (N:=4) rfl ?_);(try (refine gate_guard (by rfl) ?_;dsimp only));refine box_event ?hg (N:=4) ?hd (cs:=#[.slice none 0 0,.int .i64 0,.bool false]) (t:=62) ?hr ?_;(case hd=>rfl);(case hg=>rfl);(case hr=>first|(go_simp;done)|(go_simp;rfl));intro gb217 hg w6 hbox hb;have n0_:=am (bM BK215.out hb);have n1_:=am (bM BK216.out hb);have n2_:=am (below_step (bS2 GE215.out GE216.out) hb);have n3_:=am (hbox);have n4_:=am ((by rw[hg];exact(below_size (bS2 GE215.out GE216.out)):w.heap.size≤gb217));have n5_:=am ((by rw[hg];exact(below_size (bS2 GE215.out GE216.out)):w.heap.size≤gb217));have n6_:=am ((bN BK215.out hg:gb215≠gb217));have n7_:=am ((bO BK215.out hg:gb217≠gb215));have n8_:=am ((bN BK216.out hg:gb216≠gb217));have n9_:=am ((bO BK216.out hg:gb217≠gb216));clear BK215 BK216 HB;have BK215:=n0_;have BK216:=n1_;have HB:=n2_;have BK217:=n3_;have GW217:=n4_;have GE217:=n5_;have NB215_217:=n6_;have NB217_215:=n7_;have NB216_217:=n8_;have NB217_216:=n9_;clear n0_ n1_ n2_ n3_ n4_ n5_ n6_ n7_ n8_ n9_;clear hb hbox hg))
 (try simp only[Act.put,zA,zB,zC])
 go_cut [37] (fun v37 wc => ∃ (kq:Nat) (x37_2:Bool),v37=.bool x37_2∧Aside0 (impl_MeetBoth.j0 kq x37_2 l0_0 a0_1 a0_2 a1_0 a1_1=some (r1,r2,r3,r4))∧Aside0 (kq≤k)∧Aside0 (wc.heap[gb215]?=some (.cells #[(.slice A0_0 l0_0.length c0_0),.int .i64 a0_1,.bool a0_2] 62 (0,0)))∧Aside0 (wc.heap[gb216]?=some (.cells #[.int .i64 a1_0,.int .i64 a1_1] 72 (0,0)))∧Aside0 (wc.heap[gb217]?=some (.cells #[(.slice none 0 0),.int .i64 0,.bool false] 62 (0,0)))∧Aside0 (Below w.heap.size w wc))
 case first =>
  have H:=HC3.out
  clear HC3
  replace H:=bI_ H
  obtain⟨t218,A70,H⟩:=H
  replace H:(if t218=true then ((impl_within.f a1_0 0 (wrap64 ((l0_0.length:Int) - 1))).bind fun t219=>(if t219=true then ((impl_within.f a1_1 0 (wrap64 ((l0_0.length:Int) - 1))).bind fun t220=>(if t220=true then (impl_MeetBoth.j0 k (a1_0 == a1_1) l0_0 a0_1 a0_2 a1_0 a1_1) else (impl_MeetBoth.j0 k true l0_0 a0_1 a0_2 a1_0 a1_1))) else (impl_MeetBoth.j0 k true l0_0 a0_1 a0_2 a1_0 a1_1))) else (impl_MeetBoth.j0 k true l0_0 a0_1 a0_2 a1_0 a1_1))=some (r1,r2,r3,r4):=H
  have A7:=am A70
  clear A70
  by_cases c8:t218=true
  ·subst c8
   have H1:((impl_within.f a1_0 0 (wrap64 ((l0_0.length:Int) - 1))).bind fun t219=>(if t219=true then ((impl_within.f a1_1 0 (wrap64 ((l0_0.length:Int) - 1))).bind fun t220=>(if t220=true then (impl_MeetBoth.j0 k (a1_0 == a1_1) l0_0 a0_1 a0_2 a1_0 a1_1) else (impl_MeetBoth.j0 k true l0_0 a0_1 a0_2 a1_0 a1_1))) else (impl_MeetBoth.j0 k true l0_0 a0_1 a0_2 a1_0 a1_1)))=some (r1,r2,r3,r4):=by rw[if_pos rfl] at H;exact H
   clear H
   have H:=H1
   clear H1
   replace H:=bI_ H
   obtain⟨t219,A90,H⟩:=H
   replace H:(if t219=true then ((impl_within.f a1_1 0 (wrap64 ((l0_0.length:Int) - 1))).bind fun t220=>(if t220=true then (impl_MeetBoth.j0 k (a1_0 == a1_1) l0_0 a0_1 a0_2 a1_0 a1_1) else (impl_MeetBoth.j0 k true l0_0 a0_1 a0_2 a1_0 a1_1))) else (impl_MeetBoth.j0 k true l0_0 a0_1 a0_2 a1_0 a1_1))=some (r1,r2,r3,r4):=H
   have A9:=am A90
   clear A90
   by_cases c10:t219=true
   ·subst c10
    have H1:((impl_within.f a1_1 0 (wrap64 ((l0_0.length:Int) - 1))).bind fun t220=>(if t220=true then (impl_MeetBoth.j0 k (a1_0 == a1_1) l0_0 a0_1 a0_2 a1_0 a1_1) else (impl_MeetBoth.j0 k true l0_0 a0_1 a0_2 a1_0 a1_1)))=some (r1,r2,r3,r4):=by rw[if_pos rfl] at H;exact H
    clear H
    have H:=H1
    clear H1
    replace H:=bI_ H
    obtain⟨t220,A110,H⟩:=H
    replace H:(if t220=true then (impl_MeetBoth.j0 k (a1_0 == a1_1) l0_0 a0_1 a0_2 a1_0 a1_1) else (impl_MeetBoth.j0 k true l0_0 a0_1 a0_2 a1_0 a1_1))=some (r1,r2,r3,r4):=H
    have A11:=am A110
    clear A110
    by_cases c12:t220=true
    ·subst c12
     have H1:(impl_MeetBoth.j0 k (a1_0 == a1_1) l0_0 a0_1 a0_2 a1_0 a1_1)=some (r1,r2,r3,r4):=by rw[if_pos rfl] at H;exact H
     clear H
     have H:=H1
     clear H1
     have H':=am H
     clear H
     have hnb13:=NB215_216.out
     have hnc13:=NB216_215.out
     have hnb14:=NB215_217.out
     have hnc14:=NB217_215.out
     obtain⟨hcz15_0,hcz15_1,hcz15_2⟩:=cC3 BK215.out
     obtain⟨hfz15_0,hfz15_1,hfz15_2⟩:=cF3 BK215.out
     go_wp2_with (first|((with_reducible refine gate_callee (f:=44) rfl ?_);refine goesA (some 9) rfl rfl Try.func44 #[.agg #[.slice A0_0 l0_0.length c0_0,.int .i64 a0_1,.bool a0_2]] rfl ?_;(with_reducible refine(impl_GoodSpray.calls k _ _ l0_0 a0_1 a0_2 true _ ?side1 ?side2 A7.out).mono ?_);(case side1=>exact bC HR0_0.out);(case side2=>exact HC0_0.out);rintro e w16 ⟨rfl,hb⟩;refine⟨_,rfl,?_⟩;have n0_:=am (bM BK215.out hb);have n1_:=am (bM BK216.out hb);have n2_:=am (bM BK217.out hb);have n3_:=am (below_step (bS3 GE215.out GE216.out GE217.out) hb);clear BK215 BK216 BK217 HB;have BK215:=n0_;have BK216:=n1_;have BK217:=n2_;have HB:=n3_;clear n0_ n1_ n2_ n3_;(try clear hb);(try clear hb2);(try clear hk);(try clear hi);have hnb17:=NB216_217.out;have hnc17:=NB217_216.out;obtain⟨hcz18_0,hcz18_1⟩:=cC2 BK216.out;obtain⟨hfz18_0,hfz18_1⟩:=cF2 BK216.out;obtain⟨hcz19_0,hcz19_1,hcz19_2⟩:=cC3 BK215.out;obtain⟨hfz19_0,hfz19_1,hfz19_2⟩:=cF3 BK215.out)|(go_at_call 79;(with_reducible refine(impl_within.calls a1_0 0 (wrap64 ((l0_0.length:Int) - 1)) true _ A9.out).mono ?_);rintro e w' ⟨rfl,⟨nd,rfl⟩⟩)|(go_at_call 79;(with_reducible refine(impl_within.calls a1_1 0 (wrap64 ((l0_0.length:Int) - 1)) true _ A11.out).mono ?_);rintro e w' ⟨rfl,⟨nd,rfl⟩⟩))
     go_meet
     case rel=>exact⟨_,((a1_0 == a1_1)),(bR),H',⟨by first|omega|exact Nat.le_refl _⟩,⟨by(with_reducible repeat (first|refine blk_drewN ?_ _|refine blk_drew ?_|refine blk_alloc ?_ _));exact BK215.out⟩,⟨by(with_reducible repeat (first|refine blk_drewN ?_ _|refine blk_drew ?_|refine blk_alloc ?_ _));exact BK216.out⟩,⟨by(with_reducible repeat (first|refine blk_drewN ?_ _|refine blk_drew ?_|refine blk_alloc ?_ _));exact BK217.out⟩,⟨bS3 GE215.out GE216.out GE217.out⟩⟩
    ·replace c12:=Bool.eq_false_iff.mpr c12
     subst c12
     have H1:(impl_MeetBoth.j0 k true l0_0 a0_1 a0_2 a1_0 a1_1)=some (r1,r2,r3,r4):=by rw[if_neg (show ¬ (false=true) by decide)] at H;exact H
     clear H
     have H:=H1
     clear H1
     have H':=am H
     clear H
     have hnb20:=NB215_216.out
     have hnc20:=NB216_215.out
     have hnb21:=NB215_217.out
     have hnc21:=NB217_215.out
     obtain⟨hcz22_0,hcz22_1,hcz22_2⟩:=cC3 BK215.out
     obtain⟨hfz22_0,hfz22_1,hfz22_2⟩:=cF3 BK215.out
     go_wp2_with (first|((with_reducible refine gate_callee (f:=44) rfl ?_);refine goesA (some 9) rfl rfl Try.func44 #[.agg #[.slice A0_0 l0_0.length c0_0,.int .i64 a0_1,.bool a0_2]] rfl ?_;(with_reducible refine(impl_GoodSpray.calls k _ _ l0_0 a0_1 a0_2 true _ ?side1 ?side2 A7.out).mono ?_);(case side1=>exact bC HR0_0.out);(case side2=>exact HC0_0.out);rintro e w23 ⟨rfl,hb⟩;refine⟨_,rfl,?_⟩;have n0_:=am (bM BK215.out hb);have n1_:=am (bM BK216.out hb);have n2_:=am (bM BK217.out hb);have n3_:=am (below_step (bS3 GE215.out GE216.out GE217.out) hb);clear BK215 BK216 BK217 HB;have BK215:=n0_;have BK216:=n1_;have BK217:=n2_;have HB:=n3_;clear n0_ n1_ n2_ n3_;(try clear hb);(try clear hb2);(try clear hk);(try clear hi);have hnb24:=NB216_217.out;have hnc24:=NB217_216.out;obtain⟨hcz25_0,hcz25_1⟩:=cC2 BK216.out;obtain⟨hfz25_0,hfz25_1⟩:=cF2 BK216.out;obtain⟨hcz26_0,hcz26_1,hcz26_2⟩:=cC3 BK215.out;obtain⟨hfz26_0,hfz26_1,hfz26_2⟩:=cF3 BK215.out)|(go_at_call 79;(with_reducible refine(impl_within.calls a1_0 0 (wrap64 ((l0_0.length:Int) - 1)) true _ A9.out).mono ?_);rintro e w' ⟨rfl,⟨nd,rfl⟩⟩)|(go_at_call 79;(with_reducible refine(impl_within.calls a1_1 0 (wrap64 ((l0_0.length:Int) - 1)) false _ A11.out).mono ?_);rintro e w' ⟨rfl,⟨nd,rfl⟩⟩))
     go_meet
     case rel=>exact⟨_,(true),(bR),H',⟨by first|omega|exact Nat.le_refl _⟩,⟨by(with_reducible repeat (first|refine blk_drewN ?_ _|refine blk_drew ?_|refine blk_alloc ?_ _));exact BK215.out⟩,⟨by(with_reducible repeat (first|refine blk_drewN ?_ _|refine blk_drew ?_|refine blk_alloc ?_ _));exact BK216.out⟩,⟨by(with_reducible repeat (first|refine blk_drewN ?_ _|refine blk_drew ?_|refine blk_alloc ?_ _));exact BK217.out⟩,⟨bS3 GE215.out GE216.out GE217.out⟩⟩
   ·replace c10:=Bool.eq_false_iff.mpr c10
    subst c10
    have H1:(impl_MeetBoth.j0 k true l0_0 a0_1 a0_2 a1_0 a1_1)=some (r1,r2,r3,r4):=by rw[if_neg (show ¬ (false=true) by decide)] at H;exact H
    clear H
    have H:=H1
    clear H1
    have H':=am H
    clear H
    have hnb27:=NB215_216.out
    have hnc27:=NB216_215.out
    have hnb28:=NB215_217.out
    have hnc28:=NB217_215.out
    obtain⟨hcz29_0,hcz29_1,hcz29_2⟩:=cC3 BK215.out
    obtain⟨hfz29_0,hfz29_1,hfz29_2⟩:=cF3 BK215.out
    go_wp2_with (first|((with_reducible refine gate_callee (f:=44) rfl ?_);refine goesA (some 9) rfl rfl Try.func44 #[.agg #[.slice A0_0 l0_0.length c0_0,.int .i64 a0_1,.bool a0_2]] rfl ?_;(with_reducible refine(impl_GoodSpray.calls k _ _ l0_0 a0_1 a0_2 true _ ?side1 ?side2 A7.out).mono ?_);(case side1=>exact bC HR0_0.out);(case side2=>exact HC0_0.out);rintro e w30 ⟨rfl,hb⟩;refine⟨_,rfl,?_⟩;have n0_:=am (bM BK215.out hb);have n1_:=am (bM BK216.out hb);have n2_:=am (bM BK217.out hb);have n3_:=am (below_step (bS3 GE215.out GE216.out GE217.out) hb);clear BK215 BK216 BK217 HB;have BK215:=n0_;have BK216:=n1_;have BK217:=n2_;have HB:=n3_;clear n0_ n1_ n2_ n3_;(try clear hb);(try clear hb2);(try clear hk);(try clear hi);have hnb31:=NB216_217.out;have hnc31:=NB217_216.out;obtain⟨hcz32_0,hcz32_1⟩:=cC2 BK216.out;obtain⟨hfz32_0,hfz32_1⟩:=cF2 BK216.out;obtain⟨hcz33_0,hcz33_1,hcz33_2⟩:=cC3 BK215.out;obtain⟨hfz33_0,hfz33_1,hfz33_2⟩:=cF3 BK215.out)|(go_at_call 79;(with_reducible refine(impl_within.calls a1_0 0 (wrap64 ((l0_0.length:Int) - 1)) false _ A9.out).mono ?_);rintro e w' ⟨rfl,⟨nd,rfl⟩⟩))
    go_meet
    case rel=>exact⟨_,(true),(bR),H',⟨by first|omega|exact Nat.le_refl _⟩,⟨by(with_reducible repeat (first|refine blk_drewN ?_ _|refine blk_drew ?_|refine blk_alloc ?_ _));exact BK215.out⟩,⟨by(with_reducible repeat (first|refine blk_drewN ?_ _|refine blk_drew ?_|refine blk_alloc ?_ _));exact BK216.out⟩,⟨by(with_reducible repeat (first|refine blk_drewN ?_ _|refine blk_drew ?_|refine blk_alloc ?_ _));exact BK217.out⟩,⟨bS3 GE215.out GE216.out GE217.out⟩⟩
  ·replace c8:=Bool.eq_false_iff.mpr c8
   subst c8
   have H1:(impl_MeetBoth.j0 k true l0_0 a0_1 a0_2 a1_0 a1_1)=some (r1,r2,r3,r4):=by rw[if_neg (show ¬ (false=true) by decide)] at H;exact H
   clear H
   have H:=H1
   clear H1
   have H':=am H
   clear H
   have hnb34:=NB215_216.out
   have hnc34:=NB216_215.out
   have hnb35:=NB215_217.out
   have hnc35:=NB217_215.out
   obtain⟨hcz36_0,hcz36_1,hcz36_2⟩:=cC3 BK215.out
   obtain⟨hfz36_0,hfz36_1,hfz36_2⟩:=cF3 BK215.out
   go_wp2_with (first|((with_reducible refine gate_callee (f:=44) rfl ?_);refine goesA (some 9) rfl rfl Try.func44 #[.agg #[.slice A0_0 l0_0.length c0_0,.int .i64 a0_1,.bool a0_2]] rfl ?_;(with_reducible refine(impl_GoodSpray.calls k _ _ l0_0 a0_1 a0_2 false _ ?side1 ?side2 A7.out).mono ?_);(case side1=>exact bC HR0_0.out);(case side2=>exact HC0_0.out);rintro e w37 ⟨rfl,hb⟩;refine⟨_,rfl,?_⟩;have n0_:=am (bM BK215.out hb);have n1_:=am (bM BK216.out hb);have n2_:=am (bM BK217.out hb);have n3_:=am (below_step (bS3 GE215.out GE216.out GE217.out) hb);clear BK215 BK216 BK217 HB;have BK215:=n0_;have BK216:=n1_;have BK217:=n2_;have HB:=n3_;clear n0_ n1_ n2_ n3_;(try clear hb);(try clear hb2);(try clear hk);(try clear hi)))
   go_meet
   case rel=>exact⟨_,(true),(bR),H',⟨by first|omega|exact Nat.le_refl _⟩,⟨by(with_reducible repeat (first|refine blk_drewN ?_ _|refine blk_drew ?_|refine blk_alloc ?_ _));exact BK215.out⟩,⟨by(with_reducible repeat (first|refine blk_drewN ?_ _|refine blk_drew ?_|refine blk_alloc ?_ _));exact BK216.out⟩,⟨by(with_reducible repeat (first|refine blk_drewN ?_ _|refine blk_drew ?_|refine blk_alloc ?_ _));exact BK217.out⟩,⟨bS3 GE215.out GE216.out GE217.out⟩⟩
 case rest =>
  clear HC3
  try clear c1
  try clear c2
  try clear p2
  try clear c3
  try clear c4
  try clear p6
  try clear c8
  try clear c10
  try clear c12
  try clear c13
  try clear c14
  try clear c17
  try clear c20
  try clear c21
  try clear c24
  try clear c27
  try clear c28
  try clear c31
  try clear c34
  try clear c35
  try clear hcz15_0 hcz15_1 hcz15_2
  try clear hcz18_0 hcz18_1
  try clear hcz19_0 hcz19_1 hcz19_2
  try clear hcz22_0 hcz22_1 hcz22_2
  try clear hcz25_0 hcz25_1
  try clear hcz26_0 hcz26_1 hcz26_2
  try clear hcz29_0 hcz29_1 hcz29_2
  try clear hcz32_0 hcz32_1
  try clear hcz33_0 hcz33_1 hcz33_2
  try clear hcz36_0 hcz36_1 hcz36_2
  try clear hfz15_0 hfz15_1 hfz15_2
  try clear hfz18_0 hfz18_1
  try clear hfz19_0 hfz19_1 hfz19_2
  try clear hfz22_0 hfz22_1 hfz22_2
  try clear hfz25_0 hfz25_1
  try clear hfz26_0 hfz26_1 hfz26_2
  try clear hfz29_0 hfz29_1 hfz29_2
  try clear hfz32_0 hfz32_1
  try clear hfz33_0 hfz33_1 hfz33_2
  try clear hfz36_0 hfz36_1 hfz36_2
  obtain⟨kq,x37_2,rfl,HA,HJ2,BK215,BK216,BK217,HB⟩:=hcut
  cases kq with
  | zero=>exact absurd HA.out (by simp[impl_MeetBoth.j0])
  | succ kj2 =>
   have H:=HA.out
   clear HA
   simp only[impl_MeetBoth.j0] at H
   by_cases c38:x37_2=true
   ·subst c38
    have H1:(some (([]:List Int),0,false,false))=some (r1,r2,r3,r4):=by rw[if_pos rfl] at H;exact H
    clear H
    have H:=H1
    clear H1
    simp only[Option.some.injEq,Prod.mk.injEq] at H
    obtain⟨rfl,rfl,rfl,rfl⟩:=H
    have hnb39:=NB217_215.out
    have hnc39:=NB215_217.out
    have hnb40:=NB217_216.out
    have hnc40:=NB216_217.out
    obtain⟨hcz41_0,hcz41_1,hcz41_2⟩:=cC3 BK217.out
    obtain⟨hfz41_0,hfz41_1,hfz41_2⟩:=cF3 BK217.out
    go_wp2
    refine bodyPost_ret (results_ct rfl _ _ gb217 62 #[.slice none 0 0,.int .i64 0,.bool false] (0,0) _ rfl (by(with_reducible repeat (first|refine blk_drewN ?_ _|refine blk_drew ?_|refine blk_alloc ?_ _));apply bU3;(with_reducible repeat (first|refine blk_drewN ?_ _|refine blk_drew ?_|refine blk_alloc ?_ _));exact BK217.out) Try.underlying62 rfl (b4_)) rfl ?_
    exact⟨_,by first|rfl|(simp[errW_none,errW_some]<;>rfl)|(simp[*,errW_none,errW_some]<;>rfl),by first|exact Kd.R_nil _ _ _ _ _|exact Kd.N_nil _ _ _ _ _|exact Kd.V_nil _ _ _ _ _|exact Kd.Q_nil _ _ _ _ _|exact Kd.S_nil _ _ _ _ _,bS3 GE215.out GE216.out GE217.out⟩
   ·replace c38:=Bool.eq_false_iff.mpr c38
    subst c38
    have H1:((slices_Clone_int_int.f l0_0).bind fun t221=>(if 0≤a1_0 then (if a1_0 < (t221.length:Int) then (if 0≤a1_1 then (if a1_1 < (t221.length:Int) then (if a1_0=a0_1 then (if a0_2=true then (some (t221,a0_1,true,true)) else (some (t221,a0_1,decide ((wrap64 ((rd t221 a1_0)+(rd t221 a1_1))) > 0),true))) else (if a1_1=a0_1 then (if a0_2=true then (some (t221,a0_1,true,true)) else (some (t221,a0_1,decide ((wrap64 ((rd t221 a1_0)+(rd t221 a1_1))) > 0),true))) else (if (rd t221 a1_0) ≥ 2 then (if (rd t221 a1_1)=0 then ((some (t221.set (a1_1:Int).toNat (wrap64 (Int.tdiv (rd t221 a1_0) 2)):List Int)).bind fun y231=>(some ((y231.set (a1_0:Int).toNat (wrap64 ((rd y231 a1_0) - (rd y231 a1_1)))),a0_1,a0_2,true))) else (if (rd t221 a1_1) ≥ 2 then (if (rd t221 a1_0)=0 then ((some (t221.set (a1_0:Int).toNat (wrap64 (Int.tdiv (rd t221 a1_1) 2)):List Int)).bind fun y238=>(some ((y238.set (a1_1:Int).toNat (wrap64 ((rd y238 a1_1) - (rd y238 a1_0)))),a0_1,a0_2,true))) else (some (t221,a0_1,a0_2,true))) else (some (t221,a0_1,a0_2,true)))) else (if (rd t221 a1_1) ≥ 2 then (if (rd t221 a1_0)=0 then ((some (t221.set (a1_0:Int).toNat (wrap64 (Int.tdiv (rd t221 a1_1) 2)):List Int)).bind fun y245=>(some ((y245.set (a1_1:Int).toNat (wrap64 ((rd y245 a1_1) - (rd y245 a1_0)))),a0_1,a0_2,true))) else (some (t221,a0_1,a0_2,true))) else (some (t221,a0_1,a0_2,true)))))) else (none)) else (none)) else (none)) else (none)))=some (r1,r2,r3,r4):=by rw[if_neg (show ¬ (false=true) by decide)] at H;exact H
    clear H
    have H:=H1
    clear H1
    replace H:=bI_ H
    obtain⟨t221,A420,H⟩:=H
    replace H:(if 0≤a1_0 then (if a1_0 < (t221.length:Int) then (if 0≤a1_1 then (if a1_1 < (t221.length:Int) then (if a1_0=a0_1 then (if a0_2=true then (some (t221,a0_1,true,true)) else (some (t221,a0_1,decide ((wrap64 ((rd t221 a1_0)+(rd t221 a1_1))) > 0),true))) else (if a1_1=a0_1 then (if a0_2=true then (some (t221,a0_1,true,true)) else (some (t221,a0_1,decide ((wrap64 ((rd t221 a1_0)+(rd t221 a1_1))) > 0),true))) else (if (rd t221 a1_0) ≥ 2 then (if (rd t221 a1_1)=0 then ((some (t221.set (a1_1:Int).toNat (wrap64 (Int.tdiv (rd t221 a1_0) 2)):List Int)).bind fun y231=>(some ((y231.set (a1_0:Int).toNat (wrap64 ((rd y231 a1_0) - (rd y231 a1_1)))),a0_1,a0_2,true))) else (if (rd t221 a1_1) ≥ 2 then (if (rd t221 a1_0)=0 then ((some (t221.set (a1_0:Int).toNat (wrap64 (Int.tdiv (rd t221 a1_1) 2)):List Int)).bind fun y238=>(some ((y238.set (a1_1:Int).toNat (wrap64 ((rd y238 a1_1) - (rd y238 a1_0)))),a0_1,a0_2,true))) else (some (t221,a0_1,a0_2,true))) else (some (t221,a0_1,a0_2,true)))) else (if (rd t221 a1_1) ≥ 2 then (if (rd t221 a1_0)=0 then ((some (t221.set (a1_0:Int).toNat (wrap64 (Int.tdiv (rd t221 a1_1) 2)):List Int)).bind fun y245=>(some ((y245.set (a1_1:Int).toNat (wrap64 ((rd y245 a1_1) - (rd y245 a1_0)))),a0_1,a0_2,true))) else (some (t221,a0_1,a0_2,true))) else (some (t221,a0_1,a0_2,true)))))) else (none)) else (none)) else (none)) else (none))=some (r1,r2,r3,r4):=H
    have A42:=am A420
    clear A420
    by_cases c43:0≤a1_0
    ·rw[if_pos c43] at H
     have c43b0:decide (0≤a1_0)=true:=decide_eq_true c43
     clear c43
     by_cases c44:a1_0 < (t221.length:Int)
     ·rw[if_pos c44] at H
      have c44b0:decide (a1_0 < (t221.length:Int))=true:=decide_eq_true c44
      clear c44
      by_cases c46:0≤a1_1
      ·rw[if_pos c46] at H
       have c46b0:decide (0≤a1_1)=true:=decide_eq_true c46
       clear c46
       by_cases c47:a1_1 < (t221.length:Int)
       ·rw[if_pos c47] at H
        have c47b0:decide (a1_1 < (t221.length:Int))=true:=decide_eq_true c47
        clear c47
        by_cases c49:a1_0=a0_1
        ·rw[if_pos c49] at H
         have c49b0:(a1_0 == a0_1)=true:=beq_iff_eq.mpr c49
         have c49b1:(a1_0 != a0_1)=false:=bne_eq_false_iff_eq.mpr c49
         clear c49
         by_cases c50:a0_2=true
         ·subst c50
          have H1:(some (t221,a0_1,true,true))=some (r1,r2,r3,r4):=by rw[if_pos rfl] at H;exact H
          clear H
          have H:=H1
          clear H1
          simp only[Option.some.injEq,Prod.mk.injEq] at H
          obtain⟨rfl,rfl,rfl,rfl⟩:=H
          have hnb51:=NB215_216.out
          have hnc51:=NB216_215.out
          have hnb52:=NB215_217.out
          have hnc52:=NB217_215.out
          obtain⟨hcz53_0,hcz53_1,hcz53_2⟩:=cC3 BK215.out
          obtain⟨hfz53_0,hfz53_1,hfz53_2⟩:=cF3 BK215.out
          try go_wp2_with (first|((with_reducible refine gate_callee (f:=98) rfl ?_);refine goesA (some 41) rfl rfl Try.func98 #[.slice A0_0 l0_0.length c0_0] rfl ?_;(with_reducible refine(slices_Clone_int_int.calls _ _ l0_0 t221 _ ?side1 ?side2 A42.out).mono ?_);(case side1=>exact bC HR0_0.out);(case side2=>exact HC0_0.out);rintro e w54 ⟨v222,rfl,ho0,hb⟩;refine⟨_,rfl,?_⟩;have n0_:=am (Kd.R_lower ho0 (below_size (bS3 GE215.out GE216.out GE217.out)));have n1_:=am (bM BK215.out hb);have n2_:=am (bM BK216.out hb);have n3_:=am (bM BK217.out hb);have n4_:=am (below_step (bS3 GE215.out GE216.out GE217.out) hb);clear BK215 BK216 BK217 HB;have HO223:=n0_;have BK215:=n1_;have BK216:=n2_;have BK217:=n3_;have HB:=n4_;clear n0_ n1_ n2_ n3_ n4_;(try clear hb);(try clear hb2);(try clear hk);(try clear hi);(try clear ho0);obtain⟨Ao55,co55,eo55⟩:=Kd.R_slice HO223.out;subst eo55;obtain⟨hcz56_0,hcz56_1,hcz56_2⟩:=cC3 BK215.out;obtain⟨hfz56_0,hfz56_1,hfz56_2⟩:=cF3 BK215.out))
          have n0_:Aside0 (Kd.R (Kd.int .i64) 3 (w54.setCell ⟨gb215,0,none⟩ (.slice Ao55 t221.length co55)) w.heap.size (fun _=>True) (.slice Ao55 t221.length co55) t221):=⟨by(with_reducible repeat (first|apply Kd.R_alloc|apply Kd.R_drewN|apply Kd.R_drew));exact Kd.R_mono (Kd.R_far (p:=⟨gb215,0,none⟩) (Kd.R_types HO223.out BK215.out (b17_)) (fun _ hk=>hk.2) (.slice Ao55 t221.length co55)) (fun _ hk=>trivial)⟩
          have n1_:Aside0 ((w54.setCell ⟨gb215,0,none⟩ (.slice Ao55 t221.length co55)).heap[gb215]?=some (.cells #[.slice Ao55 t221.length co55,.int .i64 a0_1,.bool true] 62 (0,0))):=⟨by(with_reducible repeat (first|refine blk_drewN ?_ _|refine blk_drew ?_|refine blk_alloc ?_ _));refine blk_put (cs:=#[.slice A0_0 l0_0.length c0_0,.int .i64 a0_1,.bool true]) ?_ 0 _ rfl;(with_reducible repeat (first|refine blk_drewN ?_ _|refine blk_drew ?_|refine blk_alloc ?_ _));exact BK215.out⟩
          have n2_:Aside0 ((w54.setCell ⟨gb215,0,none⟩ (.slice Ao55 t221.length co55)).heap[gb216]?=some (.cells #[.int .i64 a1_0,.int .i64 a1_1] 72 (0,0))):=⟨by(with_reducible repeat (first|refine blk_drewN ?_ _|refine blk_drew ?_|refine blk_alloc ?_ _));refine blk_far ?_ NB216_215.out _;(with_reducible repeat (first|refine blk_drewN ?_ _|refine blk_drew ?_|refine blk_alloc ?_ _));exact BK216.out⟩
          have n3_:Aside0 ((w54.setCell ⟨gb215,0,none⟩ (.slice Ao55 t221.length co55)).heap[gb217]?=some (.cells #[.slice none 0 0,.int .i64 0,.bool false] 62 (0,0))):=⟨by(with_reducible repeat (first|refine blk_drewN ?_ _|refine blk_drew ?_|refine blk_alloc ?_ _));refine blk_far ?_ NB217_215.out _;(with_reducible repeat (first|refine blk_drewN ?_ _|refine blk_drew ?_|refine blk_alloc ?_ _));exact BK217.out⟩
          have n4_:Aside0 (Below w.heap.size w (w54.setCell ⟨gb215,0,none⟩ (.slice Ao55 t221.length co55))):=⟨bS3 GE215.out GE216.out GE217.out⟩
          (try clear HO223)
          (try clear BK215)
          (try clear BK216)
          (try clear BK217)
          (try clear HB)
          generalize (w54.setCell ⟨gb215,0,none⟩ (.slice Ao55 t221.length co55))=w57 at n0_ n1_ n2_ n3_ n4_ ⊢
          have HO223:=n0_
          have BK215:=n1_
          have BK216:=n2_
          have BK217:=n3_
          have HB:=n4_
          clear n0_ n1_ n2_ n3_ n4_
          (try (rw[drewN_self w57];generalize hq_:World.drewN w57 _=w57;have n0_:=am (Kd.R_at hq_ HO223.out);have n1_:=am (blk_at hq_ BK215.out);have n2_:=am (blk_at hq_ BK216.out);have n3_:=am (blk_at hq_ BK217.out);have n4_:=am (below_at hq_ HB.out);clear hq_ HO223 BK215 BK216 BK217 HB;have HO223:=n0_;have BK215:=n1_;have BK216:=n2_;have BK217:=n3_;have HB:=n4_;clear n0_ n1_ n2_ n3_ n4_))
          have n0_:=am (Kd.R_drew HO223.out)
          have n1_:=am (blk_drew BK215.out)
          have n2_:=am (blk_drew BK216.out)
          have n3_:=am (blk_drew BK217.out)
          have n4_:=am (below_drew1 HB.out)
          clear HO223 BK215 BK216 BK217 HB
          have HO223:=n0_
          have BK215:=n1_
          have BK216:=n2_
          have BK217:=n3_
          have HB:=n4_
          clear n0_ n1_ n2_ n3_ n4_
          have p45:0≤(a1_0:Int):=bD_
          have q45:(a1_0:Int) < ((t221.length:Int):Int):=bD_
          obtain⟨go45,co45,eo45,gb45,gl45,cl45,HG45⟩:=Kd.R_form HO223.out (by omega)
          (first|cases eo45|(injection eo45 with ea_ en_ ec_;(first|subst ea_|(injection ea_ with ea_;subst ea_));subst ec_;clear en_))
          have GB45:=am gb45
          have GG45:=am HG45
          clear gb45 gl45 HG45
          obtain⟨hx45_0,hf45_0⟩:=Kd.R_celln 0 HO223.out (a1_0:Int) p45 q45
          replace hx45_0:=(show _=some (Value.int .i64 (rd t221 a1_0)) from hx45_0)
          replace p45:=eq_true p45
          replace q45:=eq_true q45
          have p48:0≤(a1_1:Int):=bD_
          have q48:(a1_1:Int) < ((t221.length:Int):Int):=bD_
          obtain⟨hx48_0,hf48_0⟩:=Kd.R_celln 0 HO223.out (a1_1:Int) p48 q48
          replace hx48_0:=(show _=some (Value.int .i64 (rd t221 a1_1)) from hx48_0)
          replace p48:=eq_true p48
          replace q48:=eq_true q48
          refine start_ (n:=12) (S:=fun w'=>w'.cell? ⟨gb215,0,none⟩=some (.slice (some ⟨go45,0,none⟩) t221.length co55)∧w'.cell? ⟨gb215,1,none⟩=some (.int .i64 a0_1)∧w'.cell? ⟨gb215,2,none⟩=some (.bool true)∧w'.cell? ⟨gb216,0,none⟩=some (.int .i64 a1_0)∧w'.cell? ⟨gb216,1,none⟩=some (.int .i64 a1_1)) (ds:=[]) #[false,false,false,false,false,false,false,false,false,false,false,false] (b4_) rfl rfl ⟨(blk_cell BK215.out 0).trans rfl,(blk_cell BK215.out 1).trans rfl,(blk_cell BK215.out 2).trans rfl,(blk_cell BK216.out 0).trans rfl,(blk_cell BK216.out 1).trans rfl⟩ (fun hHeld => ?_);refine with_tabW impl_MeetBoth.tab4 impl_MeetBoth.bits4 (fun HT_ HW_ => ?_)
          generalize w57.drew=w58 at HO223 BK215 BK216 BK217 HB GG45 hf45_0 hf48_0 hx45_0 hx48_0 hHeld ⊢
          refine pure_ (i:=0) (N:=some 43) (v:=?_) (a':=?_) #[true,false,false,false,false,false,false,false,false,false,false,false] rfl rfl (any_of HT_.out (b4_)) (fun _ _ _ h=>h) (Or.inl ⟨by rfl,?_⟩) ?_ ?_
          rotate_left
          ·intro w'
           go_simp
           with_reducible rfl
          rotate_left
          ·simp only[Act.put,zA,zB,zC,i64_w,i32_w]
           rfl
          refine pure_ (i:=2) (N:=some 45) (v:=?_) (a':=?_) #[true,false,true,false,false,false,false,false,false,false,false,false] rfl rfl (any_of HT_.out (b4_)) (fun _ _ _ h=>h) (Or.inl ⟨by rfl,?_⟩) ?_ ?_
          rotate_left
          ·intro w'
           go_simp
           with_reducible rfl
          rotate_left
          ·simp only[Act.put,zA,zB,zC,i64_w,i32_w]
           rfl
          refine pure_ (i:=5) (N:=some 48) (v:=?_) (a':=?_) #[true,false,true,false,false,true,false,false,false,false,false,false] rfl rfl (any_of HT_.out (b4_)) (fun _ _ _ h=>h) (Or.inl ⟨by rfl,?_⟩) ?_ ?_
          rotate_left
          ·intro w'
           go_simp
           with_reducible rfl
          rotate_left
          ·simp only[Act.put,zA,zB,zC,i64_w,i32_w]
           rfl
          refine pure_ (i:=7) (N:=some 50) (v:=?_) (a':=?_) #[true,false,true,false,false,true,false,true,false,false,false,false] rfl rfl (any_of HT_.out (b4_)) (fun _ _ _ h=>h) (Or.inl ⟨by rfl,?_⟩) ?_ ?_
          rotate_left
          ·intro w'
           go_simp
           with_reducible rfl
          rotate_left
          ·simp only[Act.put,zA,zB,zC,i64_w,i32_w]
           rfl
          refine take_ (i:=1) (N:=some 44) (v:=?_) (a':=?_) #[true,true,true,false,false,true,false,true,false,false,false,false] rfl rfl (take_ofW HT_.out HW_.out (b4_)) (fun _ _ _ h=>h) (Or.inl ⟨by rfl,?_⟩) hHeld ?_ ?_
          rotate_left
          ·rintro w' ⟨s0,s1,s2,s3,s4⟩
           go_simp
           with_reducible rfl
          rotate_left
          ·simp only[Act.put,zA,zB,zC,i64_w,i32_w]
           rfl
          refine take_ (i:=3) (N:=some 46) (v:=?_) (a':=?_) #[true,true,true,true,false,true,false,true,false,false,false,false] rfl rfl (take_ofW HT_.out HW_.out (b4_)) (fun _ _ _ h=>h) (Or.inl ⟨by rfl,?_⟩) hHeld ?_ ?_
          rotate_left
          ·rintro w' ⟨s0,s1,s2,s3,s4⟩
           go_simp
           with_reducible rfl
          rotate_left
          ·simp only[Act.put,zA,zB,zC,i64_w,i32_w]
           rfl
          refine pure_ (i:=4) (N:=some 47) (v:=?_) (a':=?_) #[true,true,true,true,true,true,false,true,false,false,false,false] rfl rfl (any_of HT_.out (b4_)) (fun _ _ _ h=>h) (Or.inl ⟨by rfl,?_⟩) ?_ ?_
          rotate_left
          ·intro w'
           go_simp
           with_reducible rfl
          rotate_left
          ·simp only[Act.put,zA,zB,zC,i64_w,i32_w]
           rfl
          refine pure_ (i:=10) (N:=some 6) (v:=?_) (a':=?_) #[true,true,true,true,true,true,false,true,false,false,true,false] rfl rfl (any_of HT_.out (b4_)) (fun _ _ _ h=>h) (Or.inl ⟨by rfl,?_⟩) ?_ ?_
          rotate_left
          ·intro w'
           go_simp
           with_reducible rfl
          rotate_left
          ·simp only[Act.put,zA,zB,zC,i64_w,i32_w]
           rfl
          refine take_ (i:=6) (N:=some 49) (v:=?_) (a':=?_) #[true,true,true,true,true,true,true,true,false,false,true,false] rfl rfl (take_ofW HT_.out HW_.out (b4_)) (fun _ _ _ h=>h) (Or.inl ⟨by rfl,?_⟩) hHeld ?_ ?_
          rotate_left
          ·rintro w' ⟨s0,s1,s2,s3,s4⟩
           go_simp
           with_reducible rfl
          rotate_left
          ·simp only[Act.put,zA,zB,zC,i64_w,i32_w]
           rfl
          refine take_ (i:=8) (N:=some 51) (v:=?_) (a':=?_) #[true,true,true,true,true,true,true,true,true,false,true,false] rfl rfl (take_ofW HT_.out HW_.out (b4_)) (fun _ _ _ h=>h) (Or.inl ⟨by rfl,?_⟩) hHeld ?_ ?_
          rotate_left
          ·rintro w' ⟨s0,s1,s2,s3,s4⟩
           go_simp
           with_reducible rfl
          rotate_left
          ·simp only[Act.put,zA,zB,zC,i64_w,i32_w]
           rfl
          refine pure_ (i:=9) (N:=some 52) (v:=?_) (a':=?_) #[true,true,true,true,true,true,true,true,true,true,true,false] rfl rfl (any_of HT_.out (b4_)) (fun _ _ _ h=>h) (Or.inl ⟨by rfl,?_⟩) ?_ ?_
          rotate_left
          ·intro w'
           go_simp
           with_reducible rfl
          rotate_left
          ·simp only[Act.put,zA,zB,zC,i64_w,i32_w]
           rfl
          refine pure_ (i:=11) (N:=some 7) (v:=?_) (a':=?_) #[true,true,true,true,true,true,true,true,true,true,true,true] rfl rfl (any_of HT_.out (b4_)) (fun _ _ _ h=>h) (Or.inl ⟨by rfl,?_⟩) ?_ ?_
          rotate_left
          ·intro w'
           go_simp
           with_reducible rfl
          rotate_left
          ·simp only[Act.put,zA,zB,zC,i64_w,i32_w]
           rfl
          refine done_ (done_of HT_.out (b4_)) ?_
          have hnb59:=NB216_217.out
          have hnc59:=NB217_216.out
          obtain⟨hcz60_0,hcz60_1⟩:=cC2 BK216.out
          obtain⟨hfz60_0,hfz60_1⟩:=cF2 BK216.out
          obtain⟨hcz61_0,hcz61_1,hcz61_2⟩:=cC3 BK215.out
          obtain⟨hfz61_0,hfz61_1,hfz61_2⟩:=cF3 BK215.out
          try go_wp2
          (try (rw[drewN_self w58];generalize hq_:World.drewN w58 _=w58;have n0_:=am (Kd.R_at hq_ HO223.out);have n1_:=am (blk_at hq_ BK215.out);have n2_:=am (blk_at hq_ BK216.out);have n3_:=am (blk_at hq_ BK217.out);have n4_:=am (below_at hq_ HB.out);clear hq_ HO223 BK215 BK216 BK217 HB;have HO223:=n0_;have BK215:=n1_;have BK216:=n2_;have BK217:=n3_;have HB:=n4_;clear n0_ n1_ n2_ n3_ n4_))
          have n0_:=am (Kd.R_drew HO223.out)
          have n1_:=am (blk_drew BK215.out)
          have n2_:=am (blk_drew BK216.out)
          have n3_:=am (blk_drew BK217.out)
          have n4_:=am (below_drew1 HB.out)
          clear HO223 BK215 BK216 BK217 HB
          have HO223:=n0_
          have BK215:=n1_
          have BK216:=n2_
          have BK217:=n3_
          have HB:=n4_
          clear n0_ n1_ n2_ n3_ n4_
          refine start_ (n:=14) (S:=fun w'=>w'.cell? ⟨gb215,0,none⟩=some (.slice (some ⟨go45,0,none⟩) t221.length co55)∧w'.cell? ⟨gb215,1,none⟩=some (.int .i64 a0_1)∧w'.cell? ⟨gb215,2,none⟩=some (.bool true)) (ds:=[13]) #[false,false,false,false,false,false,false,false,false,false,false,false,false,false] (b4_) rfl rfl (cC3 BK215.out) (fun hHeld => ?_);refine with_tabW impl_MeetBoth.tab6 impl_MeetBoth.bits6 (fun HT_ HW_ => ?_)
          generalize w58.drew=w62 at HO223 BK215 BK216 BK217 HB hHeld ⊢
          refine pure_ (i:=0) (N:=some 66) (v:=?_) (a':=?_) #[true,false,false,false,false,false,false,false,false,false,false,false,false,false] rfl rfl (any_of HT_.out (b4_)) (fun _ _ _ h=>h) (Or.inl ⟨by rfl,?_⟩) ?_ ?_
          rotate_left
          ·intro w'
           go_simp
           with_reducible rfl
          rotate_left
          ·simp only[Act.put,zA,zB,zC,i64_w,i32_w]
           rfl
          refine take_ (i:=1) (N:=some 67) (v:=?_) (a':=?_) #[true,true,false,false,false,false,false,false,false,false,false,false,false,false] rfl rfl (take_ofW HT_.out HW_.out (b4_)) (fun _ _ _ h=>h) (Or.inl ⟨by rfl,?_⟩) hHeld ?_ ?_
          rotate_left
          ·rintro w' ⟨s0,s1,s2⟩
           go_simp
           with_reducible rfl
          rotate_left
          ·simp only[Act.put,zA,zB,zC,i64_w,i32_w]
           rfl
          refine pure_ (i:=2) (N:=some 68) (v:=?_) (a':=?_) #[true,true,true,false,false,false,false,false,false,false,false,false,false,false] rfl rfl (any_of HT_.out (b4_)) (fun _ _ _ h=>h) (Or.inl ⟨by rfl,?_⟩) ?_ ?_
          rotate_left
          ·intro w'
           go_simp
           with_reducible rfl
          rotate_left
          ·simp only[Act.put,zA,zB,zC,i64_w,i32_w]
           rfl
          refine pure_ (i:=3) (N:=some 69) (v:=undef) (a':=?_) #[true,true,true,true,false,false,false,false,false,false,false,false,false,false] rfl rfl (any_of HT_.out (b4_)) (fun _ _ _ h=>h) (Or.inr ⟨by rfl,rfl⟩) ?_ ?_
          rotate_left
          ·simp only[Act.put,zA,zB,zC,i64_w,i32_w]
           rfl
          refine pure_ (i:=4) (N:=some 70) (v:=undef) (a':=?_) #[true,true,true,true,true,false,false,false,false,false,false,false,false,false] rfl rfl (any_of HT_.out (b4_)) (fun _ _ _ h=>h) (Or.inr ⟨by rfl,rfl⟩) ?_ ?_
          rotate_left
          ·simp only[Act.put,zA,zB,zC,i64_w,i32_w]
           rfl
          refine pure_ (i:=5) (N:=some 71) (v:=undef) (a':=?_) #[true,true,true,true,true,true,false,false,false,false,false,false,false,false] rfl rfl (any_of HT_.out (b4_)) (fun _ _ _ h=>h) (Or.inr ⟨by rfl,rfl⟩) ?_ ?_
          rotate_left
          ·simp only[Act.put,zA,zB,zC,i64_w,i32_w]
           rfl
          refine pure_ (i:=6) (N:=some 72) (v:=undef) (a':=?_) #[true,true,true,true,true,true,true,false,false,false,false,false,false,false] rfl rfl (any_of HT_.out (b4_)) (fun _ _ _ h=>h) (Or.inr ⟨by rfl,rfl⟩) ?_ ?_
          rotate_left
          ·simp only[Act.put,zA,zB,zC,i64_w,i32_w]
           rfl
          refine pure_ (i:=7) (N:=some 73) (v:=undef) (a':=?_) #[true,true,true,true,true,true,true,true,false,false,false,false,false,false] rfl rfl (any_of HT_.out (b4_)) (fun _ _ _ h=>h) (Or.inr ⟨by rfl,rfl⟩) ?_ ?_
          rotate_left
          ·simp only[Act.put,zA,zB,zC,i64_w,i32_w]
           rfl
          refine pure_ (i:=8) (N:=some 74) (v:=undef) (a':=?_) #[true,true,true,true,true,true,true,true,true,false,false,false,false,false] rfl rfl (any_of HT_.out (b4_)) (fun _ _ _ h=>h) (Or.inr ⟨by rfl,rfl⟩) ?_ ?_
          rotate_left
          ·simp only[Act.put,zA,zB,zC,i64_w,i32_w]
           rfl
          refine pure_ (i:=9) (N:=some 75) (v:=undef) (a':=?_) #[true,true,true,true,true,true,true,true,true,true,false,false,false,false] rfl rfl (any_of HT_.out (b4_)) (fun _ _ _ h=>h) (Or.inr ⟨by rfl,rfl⟩) ?_ ?_
          rotate_left
          ·simp only[Act.put,zA,zB,zC,i64_w,i32_w]
           rfl
          refine pure_ (i:=10) (N:=some 76) (v:=undef) (a':=?_) #[true,true,true,true,true,true,true,true,true,true,true,false,false,false] rfl rfl (any_of HT_.out (b4_)) (fun _ _ _ h=>h) (Or.inr ⟨by rfl,rfl⟩) ?_ ?_
          rotate_left
          ·simp only[Act.put,zA,zB,zC,i64_w,i32_w]
           rfl
          refine pure_ (i:=11) (N:=some 77) (v:=?_) (a':=?_) #[true,true,true,true,true,true,true,true,true,true,true,true,false,false] rfl rfl (any_of HT_.out (b4_)) (fun _ _ _ h=>h) (Or.inl ⟨by rfl,?_⟩) ?_ ?_
          rotate_left
          ·intro w'
           go_simp
           with_reducible rfl
          rotate_left
          ·simp only[Act.put,zA,zB,zC,i64_w,i32_w]
           rfl
          refine pure_ (i:=12) (N:=some 78) (v:=?_) (a':=?_) #[true,true,true,true,true,true,true,true,true,true,true,true,true,false] rfl rfl (any_of HT_.out (b4_)) (fun _ _ _ h=>h) (Or.inl ⟨by rfl,?_⟩) ?_ ?_
          rotate_left
          ·intro w'
           go_simp
           with_reducible rfl
          rotate_left
          ·simp only[Act.put,zA,zB,zC,i64_w,i32_w]
           rfl
          refine last_ (i:=13) (N:=none) #[true,true,true,true,true,true,true,true,true,true,true,true,true,true] rfl rfl (one_of HT_.out (b4_)) (b17_) (fun K hK => ?_)
          have hs63:w62.cell? ⟨gb215,2,none⟩=some (.bool true):=(blk_cell BK215.out 2).trans rfl
          have hfs63:=blk_frozen BK215.out 2
          have hns63_1:=NB216_215.out
          have hns63_2:=NB217_215.out
          have hms63_1:=NB215_216.out
          have hms63_2:=NB215_217.out
          refine skip_ (w1:=?_) (by rfl) rfl ?_ ?_
          rotate_left
          ·go_simp
           rfl
          refine hK.out _ _ ?_
          clear hK K
          refine done_ (done_of HT_.out (b4_)) ?_
          obtain⟨hcz64_0,hcz64_1,hcz64_2⟩:=cC3 BK215.out
          obtain⟨hfz64_0,hfz64_1,hfz64_2⟩:=cF3 BK215.out
          obtain⟨hcz65_0,hcz65_1,hcz65_2⟩:=cC3 BK217.out
          obtain⟨hfz65_0,hfz65_1,hfz65_2⟩:=cF3 BK217.out
          try go_wp2
          refine bodyPost_ret (results_ct rfl _ _ gb217 62 #[.slice (some ⟨go45,0,none⟩) t221.length co55,.int .i64 a0_1,.bool true] (0,0) _ rfl (by(with_reducible repeat (first|refine blk_drewN ?_ _|refine blk_drew ?_|refine blk_alloc ?_ _));apply bU3;(with_reducible repeat (first|refine blk_drewN ?_ _|refine blk_drew ?_|refine blk_alloc ?_ _));refine blk_far ?_ NB217_215.out _;(with_reducible repeat (first|refine blk_drewN ?_ _|refine blk_drew ?_|refine blk_alloc ?_ _));exact BK217.out) Try.underlying62 rfl (b4_)) rfl ?_
          exact⟨_,by first|rfl|(simp[errW_none,errW_some]<;>rfl)|(simp[*,errW_none,errW_some]<;>rfl),by(with_reducible repeat (first|apply Kd.R_alloc|apply Kd.R_drewN|apply Kd.R_drew));exact Kd.R_mono (Kd.R_far (p:=⟨gb217,2,none⟩) (Kd.R_far (p:=⟨gb217,1,none⟩) (Kd.R_far (p:=⟨gb217,0,none⟩) (Kd.R_far (p:=⟨gb215,2,none⟩) (Kd.R_types (Kd.R_types HO223.out BK215.out (b17_)) BK217.out (b17_)) (fun _ hk=>hk.1.2) (.bool true)) (fun _ hk=>hk.2) (.slice (some ⟨go45,0,none⟩) t221.length co55)) (fun _ hk=>hk.2) (.int .i64 a0_1)) (fun _ hk=>hk.2) (.bool true)) (fun _ hk=>trivial),bS3 GE215.out GE216.out GE217.out⟩
         ·replace c50:=Bool.eq_false_iff.mpr c50
          subst c50
          have H1:(some (t221,a0_1,decide ((wrap64 ((rd t221 a1_0)+(rd t221 a1_1))) > 0),true))=some (r1,r2,r3,r4):=by rw[if_neg (show ¬ (false=true) by decide)] at H;exact H
          clear H
          have H:=H1
          clear H1
          simp only[Option.some.injEq,Prod.mk.injEq] at H
          obtain⟨rfl,rfl,rfl,rfl⟩:=H
          have hnb66:=NB215_216.out
          have hnc66:=NB216_215.out
          have hnb67:=NB215_217.out
          have hnc67:=NB217_215.out
          obtain⟨hcz68_0,hcz68_1,hcz68_2⟩:=cC3 BK215.out
          obtain⟨hfz68_0,hfz68_1,hfz68_2⟩:=cF3 BK215.out
          try go_wp2_with (first|((with_reducible refine gate_callee (f:=98) rfl ?_);refine goesA (some 41) rfl rfl Try.func98 #[.slice A0_0 l0_0.length c0_0] rfl ?_;(with_reducible refine(slices_Clone_int_int.calls _ _ l0_0 t221 _ ?side1 ?side2 A42.out).mono ?_);(case side1=>exact bC HR0_0.out);(case side2=>exact HC0_0.out);rintro e w69 ⟨v222,rfl,ho0,hb⟩;refine⟨_,rfl,?_⟩;have n0_:=am (Kd.R_lower ho0 (below_size (bS3 GE215.out GE216.out GE217.out)));have n1_:=am (bM BK215.out hb);have n2_:=am (bM BK216.out hb);have n3_:=am (bM BK217.out hb);have n4_:=am (below_step (bS3 GE215.out GE216.out GE217.out) hb);clear BK215 BK216 BK217 HB;have HO223:=n0_;have BK215:=n1_;have BK216:=n2_;have BK217:=n3_;have HB:=n4_;clear n0_ n1_ n2_ n3_ n4_;(try clear hb);(try clear hb2);(try clear hk);(try clear hi);(try clear ho0);obtain⟨Ao70,co70,eo70⟩:=Kd.R_slice HO223.out;subst eo70;obtain⟨hcz71_0,hcz71_1,hcz71_2⟩:=cC3 BK215.out;obtain⟨hfz71_0,hfz71_1,hfz71_2⟩:=cF3 BK215.out))
          have n0_:Aside0 (Kd.R (Kd.int .i64) 3 (w69.setCell ⟨gb215,0,none⟩ (.slice Ao70 t221.length co70)) w.heap.size (fun _=>True) (.slice Ao70 t221.length co70) t221):=⟨by(with_reducible repeat (first|apply Kd.R_alloc|apply Kd.R_drewN|apply Kd.R_drew));exact Kd.R_mono (Kd.R_far (p:=⟨gb215,0,none⟩) (Kd.R_types HO223.out BK215.out (b17_)) (fun _ hk=>hk.2) (.slice Ao70 t221.length co70)) (fun _ hk=>trivial)⟩
          have n1_:Aside0 ((w69.setCell ⟨gb215,0,none⟩ (.slice Ao70 t221.length co70)).heap[gb215]?=some (.cells #[.slice Ao70 t221.length co70,.int .i64 a0_1,.bool false] 62 (0,0))):=⟨by(with_reducible repeat (first|refine blk_drewN ?_ _|refine blk_drew ?_|refine blk_alloc ?_ _));refine blk_put (cs:=#[.slice A0_0 l0_0.length c0_0,.int .i64 a0_1,.bool false]) ?_ 0 _ rfl;(with_reducible repeat (first|refine blk_drewN ?_ _|refine blk_drew ?_|refine blk_alloc ?_ _));exact BK215.out⟩
          have n2_:Aside0 ((w69.setCell ⟨gb215,0,none⟩ (.slice Ao70 t221.length co70)).heap[gb216]?=some (.cells #[.int .i64 a1_0,.int .i64 a1_1] 72 (0,0))):=⟨by(with_reducible repeat (first|refine blk_drewN ?_ _|refine blk_drew ?_|refine blk_alloc ?_ _));refine blk_far ?_ NB216_215.out _;(with_reducible repeat (first|refine blk_drewN ?_ _|refine blk_drew ?_|refine blk_alloc ?_ _));exact BK216.out⟩
          have n3_:Aside0 ((w69.setCell ⟨gb215,0,none⟩ (.slice Ao70 t221.length co70)).heap[gb217]?=some (.cells #[.slice none 0 0,.int .i64 0,.bool false] 62 (0,0))):=⟨by(with_reducible repeat (first|refine blk_drewN ?_ _|refine blk_drew ?_|refine blk_alloc ?_ _));refine blk_far ?_ NB217_215.out _;(with_reducible repeat (first|refine blk_drewN ?_ _|refine blk_drew ?_|refine blk_alloc ?_ _));exact BK217.out⟩
          have n4_:Aside0 (Below w.heap.size w (w69.setCell ⟨gb215,0,none⟩ (.slice Ao70 t221.length co70))):=⟨bS3 GE215.out GE216.out GE217.out⟩
          (try clear HO223)
          (try clear BK215)
          (try clear BK216)
          (try clear BK217)
          (try clear HB)
          generalize (w69.setCell ⟨gb215,0,none⟩ (.slice Ao70 t221.length co70))=w72 at n0_ n1_ n2_ n3_ n4_ ⊢
          have HO223:=n0_
          have BK215:=n1_
          have BK216:=n2_
          have BK217:=n3_
          have HB:=n4_
          clear n0_ n1_ n2_ n3_ n4_
          (try (rw[drewN_self w72];generalize hq_:World.drewN w72 _=w72;have n0_:=am (Kd.R_at hq_ HO223.out);have n1_:=am (blk_at hq_ BK215.out);have n2_:=am (blk_at hq_ BK216.out);have n3_:=am (blk_at hq_ BK217.out);have n4_:=am (below_at hq_ HB.out);clear hq_ HO223 BK215 BK216 BK217 HB;have HO223:=n0_;have BK215:=n1_;have BK216:=n2_;have BK217:=n3_;have HB:=n4_;clear n0_ n1_ n2_ n3_ n4_))
          have n0_:=am (Kd.R_drew HO223.out)
          have n1_:=am (blk_drew BK215.out)
          have n2_:=am (blk_drew BK216.out)
          have n3_:=am (blk_drew BK217.out)
          have n4_:=am (below_drew1 HB.out)
          clear HO223 BK215 BK216 BK217 HB
          have HO223:=n0_
          have BK215:=n1_
          have BK216:=n2_
          have BK217:=n3_
          have HB:=n4_
          clear n0_ n1_ n2_ n3_ n4_
          have p45:0≤(a1_0:Int):=bD_
          have q45:(a1_0:Int) < ((t221.length:Int):Int):=bD_
          obtain⟨go45,co45,eo45,gb45,gl45,cl45,HG45⟩:=Kd.R_form HO223.out (by omega)
          (first|cases eo45|(injection eo45 with ea_ en_ ec_;(first|subst ea_|(injection ea_ with ea_;subst ea_));subst ec_;clear en_))
          have GB45:=am gb45
          have GG45:=am HG45
          clear gb45 gl45 HG45
          obtain⟨hx45_0,hf45_0⟩:=Kd.R_celln 0 HO223.out (a1_0:Int) p45 q45
          replace hx45_0:=(show _=some (Value.int .i64 (rd t221 a1_0)) from hx45_0)
          replace p45:=eq_true p45
          replace q45:=eq_true q45
          have p48:0≤(a1_1:Int):=bD_
          have q48:(a1_1:Int) < ((t221.length:Int):Int):=bD_
          obtain⟨hx48_0,hf48_0⟩:=Kd.R_celln 0 HO223.out (a1_1:Int) p48 q48
          replace hx48_0:=(show _=some (Value.int .i64 (rd t221 a1_1)) from hx48_0)
          replace p48:=eq_true p48
          replace q48:=eq_true q48
          refine start_ (n:=12) (S:=fun w'=>w'.cell? ⟨gb215,0,none⟩=some (.slice (some ⟨go45,0,none⟩) t221.length co70)∧w'.cell? ⟨gb215,1,none⟩=some (.int .i64 a0_1)∧w'.cell? ⟨gb215,2,none⟩=some (.bool false)∧w'.cell? ⟨gb216,0,none⟩=some (.int .i64 a1_0)∧w'.cell? ⟨gb216,1,none⟩=some (.int .i64 a1_1)) (ds:=[]) #[false,false,false,false,false,false,false,false,false,false,false,false] (b4_) rfl rfl ⟨(blk_cell BK215.out 0).trans rfl,(blk_cell BK215.out 1).trans rfl,(blk_cell BK215.out 2).trans rfl,(blk_cell BK216.out 0).trans rfl,(blk_cell BK216.out 1).trans rfl⟩ (fun hHeld => ?_);refine with_tabW impl_MeetBoth.tab4 impl_MeetBoth.bits4 (fun HT_ HW_ => ?_)
          generalize w72.drew=w73 at HO223 BK215 BK216 BK217 HB GG45 hf45_0 hf48_0 hx45_0 hx48_0 hHeld ⊢
          refine pure_ (i:=0) (N:=some 43) (v:=?_) (a':=?_) #[true,false,false,false,false,false,false,false,false,false,false,false] rfl rfl (any_of HT_.out (b4_)) (fun _ _ _ h=>h) (Or.inl ⟨by rfl,?_⟩) ?_ ?_
          rotate_left
          ·intro w'
           go_simp
           with_reducible rfl
          rotate_left
          ·simp only[Act.put,zA,zB,zC,i64_w,i32_w]
           rfl
          refine pure_ (i:=2) (N:=some 45) (v:=?_) (a':=?_) #[true,false,true,false,false,false,false,false,false,false,false,false] rfl rfl (any_of HT_.out (b4_)) (fun _ _ _ h=>h) (Or.inl ⟨by rfl,?_⟩) ?_ ?_
          rotate_left
          ·intro w'
           go_simp
           with_reducible rfl
          rotate_left
          ·simp only[Act.put,zA,zB,zC,i64_w,i32_w]
           rfl
          refine pure_ (i:=5) (N:=some 48) (v:=?_) (a':=?_) #[true,false,true,false,false,true,false,false,false,false,false,false] rfl rfl (any_of HT_.out (b4_)) (fun _ _ _ h=>h) (Or.inl ⟨by rfl,?_⟩) ?_ ?_
          rotate_left
          ·intro w'
           go_simp
           with_reducible rfl
          rotate_left
          ·simp only[Act.put,zA,zB,zC,i64_w,i32_w]
           rfl
          refine pure_ (i:=7) (N:=some 50) (v:=?_) (a':=?_) #[true,false,true,false,false,true,false,true,false,false,false,false] rfl rfl (any_of HT_.out (b4_)) (fun _ _ _ h=>h) (Or.inl ⟨by rfl,?_⟩) ?_ ?_
          rotate_left
          ·intro w'
           go_simp
           with_reducible rfl
          rotate_left
          ·simp only[Act.put,zA,zB,zC,i64_w,i32_w]
           rfl
          refine take_ (i:=1) (N:=some 44) (v:=?_) (a':=?_) #[true,true,true,false,false,true,false,true,false,false,false,false] rfl rfl (take_ofW HT_.out HW_.out (b4_)) (fun _ _ _ h=>h) (Or.inl ⟨by rfl,?_⟩) hHeld ?_ ?_
          rotate_left
          ·rintro w' ⟨s0,s1,s2,s3,s4⟩
           go_simp
           with_reducible rfl
          rotate_left
          ·simp only[Act.put,zA,zB,zC,i64_w,i32_w]
           rfl
          refine take_ (i:=3) (N:=some 46) (v:=?_) (a':=?_) #[true,true,true,true,false,true,false,true,false,false,false,false] rfl rfl (take_ofW HT_.out HW_.out (b4_)) (fun _ _ _ h=>h) (Or.inl ⟨by rfl,?_⟩) hHeld ?_ ?_
          rotate_left
          ·rintro w' ⟨s0,s1,s2,s3,s4⟩
           go_simp
           with_reducible rfl
          rotate_left
          ·simp only[Act.put,zA,zB,zC,i64_w,i32_w]
           rfl
          refine pure_ (i:=4) (N:=some 47) (v:=?_) (a':=?_) #[true,true,true,true,true,true,false,true,false,false,false,false] rfl rfl (any_of HT_.out (b4_)) (fun _ _ _ h=>h) (Or.inl ⟨by rfl,?_⟩) ?_ ?_
          rotate_left
          ·intro w'
           go_simp
           with_reducible rfl
          rotate_left
          ·simp only[Act.put,zA,zB,zC,i64_w,i32_w]
           rfl
          refine pure_ (i:=10) (N:=some 6) (v:=?_) (a':=?_) #[true,true,true,true,true,true,false,true,false,false,true,false] rfl rfl (any_of HT_.out (b4_)) (fun _ _ _ h=>h) (Or.inl ⟨by rfl,?_⟩) ?_ ?_
          rotate_left
          ·intro w'
           go_simp
           with_reducible rfl
          rotate_left
          ·simp only[Act.put,zA,zB,zC,i64_w,i32_w]
           rfl
          refine take_ (i:=6) (N:=some 49) (v:=?_) (a':=?_) #[true,true,true,true,true,true,true,true,false,false,true,false] rfl rfl (take_ofW HT_.out HW_.out (b4_)) (fun _ _ _ h=>h) (Or.inl ⟨by rfl,?_⟩) hHeld ?_ ?_
          rotate_left
          ·rintro w' ⟨s0,s1,s2,s3,s4⟩
           go_simp
           with_reducible rfl
          rotate_left
          ·simp only[Act.put,zA,zB,zC,i64_w,i32_w]
           rfl
          refine take_ (i:=8) (N:=some 51) (v:=?_) (a':=?_) #[true,true,true,true,true,true,true,true,true,false,true,false] rfl rfl (take_ofW HT_.out HW_.out (b4_)) (fun _ _ _ h=>h) (Or.inl ⟨by rfl,?_⟩) hHeld ?_ ?_
          rotate_left
          ·rintro w' ⟨s0,s1,s2,s3,s4⟩
           go_simp
           with_reducible rfl
          rotate_left
          ·simp only[Act.put,zA,zB,zC,i64_w,i32_w]
           rfl
          refine pure_ (i:=9) (N:=some 52) (v:=?_) (a':=?_) #[true,true,true,true,true,true,true,true,true,true,true,false] rfl rfl (any_of HT_.out (b4_)) (fun _ _ _ h=>h) (Or.inl ⟨by rfl,?_⟩) ?_ ?_
          rotate_left
          ·intro w'
           go_simp
           with_reducible rfl
          rotate_left
          ·simp only[Act.put,zA,zB,zC,i64_w,i32_w]
           rfl
          refine pure_ (i:=11) (N:=some 7) (v:=?_) (a':=?_) #[true,true,true,true,true,true,true,true,true,true,true,true] rfl rfl (any_of HT_.out (b4_)) (fun _ _ _ h=>h) (Or.inl ⟨by rfl,?_⟩) ?_ ?_
          rotate_left
          ·intro w'
           go_simp
           with_reducible rfl
          rotate_left
          ·simp only[Act.put,zA,zB,zC,i64_w,i32_w]
           rfl
          refine done_ (done_of HT_.out (b4_)) ?_
          have hnb74:=NB216_217.out
          have hnc74:=NB217_216.out
          obtain⟨hcz75_0,hcz75_1⟩:=cC2 BK216.out
          obtain⟨hfz75_0,hfz75_1⟩:=cF2 BK216.out
          obtain⟨hcz76_0,hcz76_1,hcz76_2⟩:=cC3 BK215.out
          obtain⟨hfz76_0,hfz76_1,hfz76_2⟩:=cF3 BK215.out
          try go_wp2
          (try (rw[drewN_self w73];generalize hq_:World.drewN w73 _=w73;have n0_:=am (Kd.R_at hq_ HO223.out);have n1_:=am (blk_at hq_ BK215.out);have n2_:=am (blk_at hq_ BK216.out);have n3_:=am (blk_at hq_ BK217.out);have n4_:=am (below_at hq_ HB.out);clear hq_ HO223 BK215 BK216 BK217 HB;have HO223:=n0_;have BK215:=n1_;have BK216:=n2_;have BK217:=n3_;have HB:=n4_;clear n0_ n1_ n2_ n3_ n4_))
          have n0_:=am (Kd.R_drew HO223.out)
          have n1_:=am (blk_drew BK215.out)
          have n2_:=am (blk_drew BK216.out)
          have n3_:=am (blk_drew BK217.out)
          have n4_:=am (below_drew1 HB.out)
          clear HO223 BK215 BK216 BK217 HB
          have HO223:=n0_
          have BK215:=n1_
          have BK216:=n2_
          have BK217:=n3_
          have HB:=n4_
          clear n0_ n1_ n2_ n3_ n4_
          have p224:0≤(a1_0:Int):=bD_
          have q224:a1_0 < (t221.length:Int):=bD_
          obtain⟨ad224,e224,hx224_0⟩:=Kd.at_int (Kd.R_reads' HO223.out).2.2 a1_0 p224 q224
          obtain rfl:(⟨go45,0,none⟩:Addr)=ad224:=(by injection e224)
          (first|simp only[add_plain] at hx224_0|simp only[add_at] at hx224_0|simp only[Addr.add,Nat.zero_add] at hx224_0|skip)
          replace p224:=eq_true p224
          replace q224:=eq_true q224
          have p225:0≤(a1_1:Int):=bD_
          have q225:a1_1 < (t221.length:Int):=bD_
          obtain⟨ad225,e225,hx225_0⟩:=Kd.at_int (Kd.R_reads' HO223.out).2.2 a1_1 p225 q225
          obtain rfl:(⟨go45,0,none⟩:Addr)=ad225:=(by injection e225)
          (first|simp only[add_plain] at hx225_0|simp only[add_at] at hx225_0|simp only[Addr.add,Nat.zero_add] at hx225_0|skip)
          replace p225:=eq_true p225
          replace q225:=eq_true q225
          refine start_ (n:=14) (S:=fun w'=>w'.cell? ⟨gb215,0,none⟩=some (.slice (some ⟨go45,0,none⟩) t221.length co70)∧w'.cell? ⟨gb215,1,none⟩=some (.int .i64 a0_1)∧w'.cell? ⟨gb215,2,none⟩=some (.bool false)∧w'.cell? ⟨go45,(a1_0).toNat,none⟩=some (.int .i64 (rd t221 a1_0))∧w'.cell? ⟨go45,(a1_1).toNat,none⟩=some (.int .i64 (rd t221 a1_1))) (ds:=[13]) #[false,false,false,false,false,false,false,false,false,false,false,false,false,false] (b4_) rfl rfl ⟨(blk_cell BK215.out 0).trans rfl,(blk_cell BK215.out 1).trans rfl,(blk_cell BK215.out 2).trans rfl,hx224_0,hx225_0⟩ (fun hHeld => ?_);refine with_tabW impl_MeetBoth.tab6 impl_MeetBoth.bits6 (fun HT_ HW_ => ?_)
          generalize w73.drew=w77 at HO223 BK215 BK216 BK217 HB hx224_0 hx225_0 hHeld ⊢
          refine pure_ (i:=0) (N:=some 66) (v:=?_) (a':=?_) #[true,false,false,false,false,false,false,false,false,false,false,false,false,false] rfl rfl (any_of HT_.out (b4_)) (fun _ _ _ h=>h) (Or.inl ⟨by rfl,?_⟩) ?_ ?_
          rotate_left
          ·intro w'
           go_simp
           with_reducible rfl
          rotate_left
          ·simp only[Act.put,zA,zB,zC,i64_w,i32_w]
           rfl
          refine take_ (i:=1) (N:=some 67) (v:=?_) (a':=?_) #[true,true,false,false,false,false,false,false,false,false,false,false,false,false] rfl rfl (take_ofW HT_.out HW_.out (b4_)) (fun _ _ _ h=>h) (Or.inl ⟨by rfl,?_⟩) hHeld ?_ ?_
          rotate_left
          ·rintro w' ⟨s0,s1,s2,s3,s4⟩
           go_simp
           with_reducible rfl
          rotate_left
          ·simp only[Act.put,zA,zB,zC,i64_w,i32_w]
           rfl
          refine pure_ (i:=2) (N:=some 68) (v:=?_) (a':=?_) #[true,true,true,false,false,false,false,false,false,false,false,false,false,false] rfl rfl (any_of HT_.out (b4_)) (fun _ _ _ h=>h) (Or.inl ⟨by rfl,?_⟩) ?_ ?_
          rotate_left
          ·intro w'
           go_simp
           with_reducible rfl
          rotate_left
          ·simp only[Act.put,zA,zB,zC,i64_w,i32_w]
           rfl
          refine pure_ (i:=3) (N:=some 69) (v:=?_) (a':=?_) #[true,true,true,true,false,false,false,false,false,false,false,false,false,false] rfl rfl (any_of HT_.out (b4_)) (fun _ _ _ h=>h) (Or.inl ⟨by rfl,?_⟩) ?_ ?_
          rotate_left
          ·intro w'
           go_simp
           with_reducible rfl
          rotate_left
          ·simp only[Act.put,zA,zB,zC,i64_w,i32_w]
           rfl
          refine pure_ (i:=4) (N:=some 70) (v:=?_) (a':=?_) #[true,true,true,true,true,false,false,false,false,false,false,false,false,false] rfl rfl (any_of HT_.out (b4_)) (fun _ _ _ h=>h) (Or.inl ⟨by rfl,?_⟩) ?_ ?_
          rotate_left
          ·intro w'
           go_simp
           with_reducible rfl
          rotate_left
          ·simp only[Act.put,zA,zB,zC,i64_w,i32_w]
           rfl
          refine pure_ (i:=6) (N:=some 72) (v:=?_) (a':=?_) #[true,true,true,true,true,false,true,false,false,false,false,false,false,false] rfl rfl (any_of HT_.out (b4_)) (fun _ _ _ h=>h) (Or.inl ⟨by rfl,?_⟩) ?_ ?_
          rotate_left
          ·intro w'
           go_simp
           with_reducible rfl
          rotate_left
          ·simp only[Act.put,zA,zB,zC,i64_w,i32_w]
           rfl
          refine pure_ (i:=7) (N:=some 73) (v:=?_) (a':=?_) #[true,true,true,true,true,false,true,true,false,false,false,false,false,false] rfl rfl (any_of HT_.out (b4_)) (fun _ _ _ h=>h) (Or.inl ⟨by rfl,?_⟩) ?_ ?_
          rotate_left
          ·intro w'
           go_simp
           with_reducible rfl
          rotate_left
          ·simp only[Act.put,zA,zB,zC,i64_w,i32_w]
           rfl
          refine take_ (i:=5) (N:=some 71) (v:=?_) (a':=?_) #[true,true,true,true,true,true,true,true,false,false,false,false,false,false] rfl rfl (take_ofW HT_.out HW_.out (b4_)) (fun _ _ _ h=>h) (Or.inl ⟨by rfl,?_⟩) hHeld ?_ ?_
          rotate_left
          ·rintro w' ⟨s0,s1,s2,s3,s4⟩
           go_simp
           with_reducible rfl
          rotate_left
          ·simp only[Act.put,zA,zB,zC,i64_w,i32_w]
           rfl
          refine take_ (i:=8) (N:=some 74) (v:=?_) (a':=?_) #[true,true,true,true,true,true,true,true,true,false,false,false,false,false] rfl rfl (take_ofW HT_.out HW_.out (b4_)) (fun _ _ _ h=>h) (Or.inl ⟨by rfl,?_⟩) hHeld ?_ ?_
          rotate_left
          ·rintro w' ⟨s0,s1,s2,s3,s4⟩
           go_simp
           with_reducible rfl
          rotate_left
          ·simp only[Act.put,zA,zB,zC,i64_w,i32_w]
           rfl
          refine pure_ (i:=9) (N:=some 75) (v:=?_) (a':=?_) #[true,true,true,true,true,true,true,true,true,true,false,false,false,false] rfl rfl (any_of HT_.out (b4_)) (fun _ _ _ h=>h) (Or.inl ⟨by rfl,?_⟩) ?_ ?_
          rotate_left
          ·intro w'
           go_simp
           with_reducible rfl
          rotate_left
          ·simp only[Act.put,zA,zB,zC,i64_w,i32_w]
           rfl
          refine pure_ (i:=10) (N:=some 76) (v:=?_) (a':=?_) #[true,true,true,true,true,true,true,true,true,true,true,false,false,false] rfl rfl (any_of HT_.out (b4_)) (fun _ _ _ h=>h) (Or.inl ⟨by rfl,?_⟩) ?_ ?_
          rotate_left
          ·intro w'
           go_simp
           with_reducible rfl
          rotate_left
          ·simp only[Act.put,zA,zB,zC,i64_w,i32_w]
           rfl
          refine pure_ (i:=11) (N:=some 77) (v:=?_) (a':=?_) #[true,true,true,true,true,true,true,true,true,true,true,true,false,false] rfl rfl (any_of HT_.out (b4_)) (fun _ _ _ h=>h) (Or.inl ⟨by rfl,?_⟩) ?_ ?_
          rotate_left
          ·intro w'
           go_simp
           with_reducible rfl
          rotate_left
          ·simp only[Act.put,zA,zB,zC,i64_w,i32_w]
           rfl
          refine pure_ (i:=12) (N:=some 78) (v:=?_) (a':=?_) #[true,true,true,true,true,true,true,true,true,true,true,true,true,false] rfl rfl (any_of HT_.out (b4_)) (fun _ _ _ h=>h) (Or.inl ⟨by rfl,?_⟩) ?_ ?_
          rotate_left
          ·intro w'
           go_simp
           with_reducible rfl
          rotate_left
          ·simp only[Act.put,zA,zB,zC,i64_w,i32_w]
           rfl
          refine last_ (i:=13) (N:=none) #[true,true,true,true,true,true,true,true,true,true,true,true,true,true] rfl rfl (one_of HT_.out (b4_)) (b17_) (fun K hK => ?_)
          have hs78:w77.cell? ⟨gb215,2,none⟩=some (.bool false):=(blk_cell BK215.out 2).trans rfl
          have hfs78:=blk_frozen BK215.out 2
          have hns78_1:=NB216_215.out
          have hns78_2:=NB217_215.out
          have hms78_1:=NB215_216.out
          have hms78_2:=NB215_217.out
          refine skip_ (w1:=?_) (by rfl) rfl ?_ ?_
          rotate_left
          ·go_simp
           rfl
          refine hK.out _ _ ?_
          clear hK K
          refine done_ (done_of HT_.out (b4_)) ?_
          obtain⟨hcz79_0,hcz79_1,hcz79_2⟩:=cC3 BK215.out
          obtain⟨hfz79_0,hfz79_1,hfz79_2⟩:=cF3 BK215.out
          obtain⟨hcz80_0,hcz80_1,hcz80_2⟩:=cC3 BK217.out
          obtain⟨hfz80_0,hfz80_1,hfz80_2⟩:=cF3 BK217.out
          try go_wp2
          refine bodyPost_ret (results_ct rfl _ _ gb217 62 #[.slice (some ⟨go45,0,none⟩) t221.length co70,.int .i64 a0_1,.bool (decide ((wrap64 ((rd t221 a1_0)+(rd t221 a1_1))) > 0))] (0,0) _ rfl (by(with_reducible repeat (first|refine blk_drewN ?_ _|refine blk_drew ?_|refine blk_alloc ?_ _));apply bU3;(with_reducible repeat (first|refine blk_drewN ?_ _|refine blk_drew ?_|refine blk_alloc ?_ _));refine blk_far ?_ NB217_215.out _;(with_reducible repeat (first|refine blk_drewN ?_ _|refine blk_drew ?_|refine blk_alloc ?_ _));exact BK217.out) Try.underlying62 rfl (b4_)) rfl ?_
          exact⟨_,by first|rfl|(simp[errW_none,errW_some]<;>rfl)|(simp[*,errW_none,errW_some]<;>rfl),by(with_reducible repeat (first|apply Kd.R_alloc|apply Kd.R_drewN|apply Kd.R_drew));exact Kd.R_mono (Kd.R_far (p:=⟨gb217,2,none⟩) (Kd.R_far (p:=⟨gb217,1,none⟩) (Kd.R_far (p:=⟨gb217,0,none⟩) (Kd.R_far (p:=⟨gb215,2,none⟩) (Kd.R_types (Kd.R_types HO223.out BK215.out (b17_)) BK217.out (b17_)) (fun _ hk=>hk.1.2) (.bool (decide ((wrap64 ((rd t221 a1_0)+(rd t221 a1_1))) > 0)))) (fun _ hk=>hk.2) (.slice (some ⟨go45,0,none⟩) t221.length co70)) (fun _ hk=>hk.2) (.int .i64 a0_1)) (fun _ hk=>hk.2) (.bool (decide ((wrap64 ((rd t221 a1_0)+(rd t221 a1_1))) > 0)))) (fun _ hk=>trivial),bS3 GE215.out GE216.out GE217.out⟩
        ·rw[if_neg c49] at H
         have c49b0:(a1_0 == a0_1)=false:=beq_eq_false_iff_ne.mpr c49
         have c49b1:(a1_0 != a0_1)=true:=bne_iff_ne.mpr c49
         by_cases c81:a1_1=a0_1
         ·rw[if_pos c81] at H
          have c81b0:(a1_1 == a0_1)=true:=beq_iff_eq.mpr c81
          have c81b1:(a1_1 != a0_1)=false:=bne_eq_false_iff_eq.mpr c81
          clear c81
          by_cases c82:a0_2=true
          ·subst c82
           have H1:(some (t221,a0_1,true,true))=some (r1,r2,r3,r4):=by rw[if_pos rfl] at H;exact H
           clear H
           have H:=H1
           clear H1
           simp only[Option.some.injEq,Prod.mk.injEq] at H
           obtain⟨rfl,rfl,rfl,rfl⟩:=H
           have hnb83:=NB215_216.out
           have hnc83:=NB216_215.out
           have hnb84:=NB215_217.out
           have hnc84:=NB217_215.out
           obtain⟨hcz85_0,hcz85_1,hcz85_2⟩:=cC3 BK215.out
           obtain⟨hfz85_0,hfz85_1,hfz85_2⟩:=cF3 BK215.out
           try go_wp2_with (first|((with_reducible refine gate_callee (f:=98) rfl ?_);refine goesA (some 41) rfl rfl Try.func98 #[.slice A0_0 l0_0.length c0_0] rfl ?_;(with_reducible refine(slices_Clone_int_int.calls _ _ l0_0 t221 _ ?side1 ?side2 A42.out).mono ?_);(case side1=>exact bC HR0_0.out);(case side2=>exact HC0_0.out);rintro e w86 ⟨v222,rfl,ho0,hb⟩;refine⟨_,rfl,?_⟩;have n0_:=am (Kd.R_lower ho0 (below_size (bS3 GE215.out GE216.out GE217.out)));have n1_:=am (bM BK215.out hb);have n2_:=am (bM BK216.out hb);have n3_:=am (bM BK217.out hb);have n4_:=am (below_step (bS3 GE215.out GE216.out GE217.out) hb);clear BK215 BK216 BK217 HB;have HO223:=n0_;have BK215:=n1_;have BK216:=n2_;have BK217:=n3_;have HB:=n4_;clear n0_ n1_ n2_ n3_ n4_;(try clear hb);(try clear hb2);(try clear hk);(try clear hi);(try clear ho0);obtain⟨Ao87,co87,eo87⟩:=Kd.R_slice HO223.out;subst eo87;obtain⟨hcz88_0,hcz88_1,hcz88_2⟩:=cC3 BK215.out;obtain⟨hfz88_0,hfz88_1,hfz88_2⟩:=cF3 BK215.out))
           have n0_:Aside0 (Kd.R (Kd.int .i64) 3 (w86.setCell ⟨gb215,0,none⟩ (.slice Ao87 t221.length co87)) w.heap.size (fun _=>True) (.slice Ao87 t221.length co87) t221):=⟨by(with_reducible repeat (first|apply Kd.R_alloc|apply Kd.R_drewN|apply Kd.R_drew));exact Kd.R_mono (Kd.R_far (p:=⟨gb215,0,none⟩) (Kd.R_types HO223.out BK215.out (b17_)) (fun _ hk=>hk.2) (.slice Ao87 t221.length co87)) (fun _ hk=>trivial)⟩
           have n1_:Aside0 ((w86.setCell ⟨gb215,0,none⟩ (.slice Ao87 t221.length co87)).heap[gb215]?=some (.cells #[.slice Ao87 t221.length co87,.int .i64 a0_1,.bool true] 62 (0,0))):=⟨by(with_reducible repeat (first|refine blk_drewN ?_ _|refine blk_drew ?_|refine blk_alloc ?_ _));refine blk_put (cs:=#[.slice A0_0 l0_0.length c0_0,.int .i64 a0_1,.bool true]) ?_ 0 _ rfl;(with_reducible repeat (first|refine blk_drewN ?_ _|refine blk_drew ?_|refine blk_alloc ?_ _));exact BK215.out⟩
           have n2_:Aside0 ((w86.setCell ⟨gb215,0,none⟩ (.slice Ao87 t221.length co87)).heap[gb216]?=some (.cells #[.int .i64 a1_0,.int .i64 a1_1] 72 (0,0))):=⟨by(with_reducible repeat (first|refine blk_drewN ?_ _|refine blk_drew ?_|refine blk_alloc ?_ _));refine blk_far ?_ NB216_215.out _;(with_reducible repeat (first|refine blk_drewN ?_ _|refine blk_drew ?_|refine blk_alloc ?_ _));exact BK216.out⟩
           have n3_:Aside0 ((w86.setCell ⟨gb215,0,none⟩ (.slice Ao87 t221.length co87)).heap[gb217]?=some (.cells #[.slice none 0 0,.int .i64 0,.bool false] 62 (0,0))):=⟨by(with_reducible repeat (first|refine blk_drewN ?_ _|refine blk_drew ?_|refine blk_alloc ?_ _));refine blk_far ?_ NB217_215.out _;(with_reducible repeat (first|refine blk_drewN ?_ _|refine blk_drew ?_|refine blk_alloc ?_ _));exact BK217.out⟩
           have n4_:Aside0 (Below w.heap.size w (w86.setCell ⟨gb215,0,none⟩ (.slice Ao87 t221.length co87))):=⟨bS3 GE215.out GE216.out GE217.out⟩
           (try clear HO223)
           (try clear BK215)
           (try clear BK216)
           (try clear BK217)
           (try clear HB)
           generalize (w86.setCell ⟨gb215,0,none⟩ (.slice Ao87 t221.length co87))=w89 at n0_ n1_ n2_ n3_ n4_ ⊢
           have HO223:=n0_
           have BK215:=n1_
           have BK216:=n2_
           have BK217:=n3_
           have HB:=n4_
           clear n0_ n1_ n2_ n3_ n4_
           (try (rw[drewN_self w89];generalize hq_:World.drewN w89 _=w89;have n0_:=am (Kd.R_at hq_ HO223.out);have n1_:=am (blk_at hq_ BK215.out);have n2_:=am (blk_at hq_ BK216.out);have n3_:=am (blk_at hq_ BK217.out);have n4_:=am (below_at hq_ HB.out);clear hq_ HO223 BK215 BK216 BK217 HB;have HO223:=n0_;have BK215:=n1_;have BK216:=n2_;have BK217:=n3_;have HB:=n4_;clear n0_ n1_ n2_ n3_ n4_))
           have n0_:=am (Kd.R_drew HO223.out)
           have n1_:=am (blk_drew BK215.out)
           have n2_:=am (blk_drew BK216.out)
           have n3_:=am (blk_drew BK217.out)
           have n4_:=am (below_drew1 HB.out)
           clear HO223 BK215 BK216 BK217 HB
           have HO223:=n0_
           have BK215:=n1_
           have BK216:=n2_
           have BK217:=n3_
           have HB:=n4_
           clear n0_ n1_ n2_ n3_ n4_
           have p45:0≤(a1_0:Int):=bD_
           have q45:(a1_0:Int) < ((t221.length:Int):Int):=bD_
           obtain⟨go45,co45,eo45,gb45,gl45,cl45,HG45⟩:=Kd.R_form HO223.out (by omega)
           (first|cases eo45|(injection eo45 with ea_ en_ ec_;(first|subst ea_|(injection ea_ with ea_;subst ea_));subst ec_;clear en_))
           have GB45:=am gb45
           have GG45:=am HG45
           clear gb45 gl45 HG45
           obtain⟨hx45_0,hf45_0⟩:=Kd.R_celln 0 HO223.out (a1_0:Int) p45 q45
           replace hx45_0:=(show _=some (Value.int .i64 (rd t221 a1_0)) from hx45_0)
           replace p45:=eq_true p45
           replace q45:=eq_true q45
           have p48:0≤(a1_1:Int):=bD_
           have q48:(a1_1:Int) < ((t221.length:Int):Int):=bD_
           obtain⟨hx48_0,hf48_0⟩:=Kd.R_celln 0 HO223.out (a1_1:Int) p48 q48
           replace hx48_0:=(show _=some (Value.int .i64 (rd t221 a1_1)) from hx48_0)
           replace p48:=eq_true p48
           replace q48:=eq_true q48
           refine start_ (n:=12) (S:=fun w'=>w'.cell? ⟨gb215,0,none⟩=some (.slice (some ⟨go45,0,none⟩) t221.length co87)∧w'.cell? ⟨gb215,1,none⟩=some (.int .i64 a0_1)∧w'.cell? ⟨gb215,2,none⟩=some (.bool true)∧w'.cell? ⟨gb216,0,none⟩=some (.int .i64 a1_0)∧w'.cell? ⟨gb216,1,none⟩=some (.int .i64 a1_1)) (ds:=[]) #[false,false,false,false,false,false,false,false,false,false,false,false] (b4_) rfl rfl ⟨(blk_cell BK215.out 0).trans rfl,(blk_cell BK215.out 1).trans rfl,(blk_cell BK215.out 2).trans rfl,(blk_cell BK216.out 0).trans rfl,(blk_cell BK216.out 1).trans rfl⟩ (fun hHeld => ?_);refine with_tabW impl_MeetBoth.tab4 impl_MeetBoth.bits4 (fun HT_ HW_ => ?_)
           generalize w89.drew=w90 at HO223 BK215 BK216 BK217 HB GG45 hf45_0 hf48_0 hx45_0 hx48_0 hHeld ⊢
           refine pure_ (i:=0) (N:=some 43) (v:=?_) (a':=?_) #[true,false,false,false,false,false,false,false,false,false,false,false] rfl rfl (any_of HT_.out (b4_)) (fun _ _ _ h=>h) (Or.inl ⟨by rfl,?_⟩) ?_ ?_
           rotate_left
           ·intro w'
            go_simp
            with_reducible rfl
           rotate_left
           ·simp only[Act.put,zA,zB,zC,i64_w,i32_w]
            rfl
           refine pure_ (i:=2) (N:=some 45) (v:=?_) (a':=?_) #[true,false,true,false,false,false,false,false,false,false,false,false] rfl rfl (any_of HT_.out (b4_)) (fun _ _ _ h=>h) (Or.inl ⟨by rfl,?_⟩) ?_ ?_
           rotate_left
           ·intro w'
            go_simp
            with_reducible rfl
           rotate_left
           ·simp only[Act.put,zA,zB,zC,i64_w,i32_w]
            rfl
           refine pure_ (i:=5) (N:=some 48) (v:=?_) (a':=?_) #[true,false,true,false,false,true,false,false,false,false,false,false] rfl rfl (any_of HT_.out (b4_)) (fun _ _ _ h=>h) (Or.inl ⟨by rfl,?_⟩) ?_ ?_
           rotate_left
           ·intro w'
            go_simp
            with_reducible rfl
           rotate_left
           ·simp only[Act.put,zA,zB,zC,i64_w,i32_w]
            rfl
           refine pure_ (i:=7) (N:=some 50) (v:=?_) (a':=?_) #[true,false,true,false,false,true,false,true,false,false,false,false] rfl rfl (any_of HT_.out (b4_)) (fun _ _ _ h=>h) (Or.inl ⟨by rfl,?_⟩) ?_ ?_
           rotate_left
           ·intro w'
            go_simp
            with_reducible rfl
           rotate_left
           ·simp only[Act.put,zA,zB,zC,i64_w,i32_w]
            rfl
           refine take_ (i:=1) (N:=some 44) (v:=?_) (a':=?_) #[true,true,true,false,false,true,false,true,false,false,false,false] rfl rfl (take_ofW HT_.out HW_.out (b4_)) (fun _ _ _ h=>h) (Or.inl ⟨by rfl,?_⟩) hHeld ?_ ?_
           rotate_left
           ·rintro w' ⟨s0,s1,s2,s3,s4⟩
            go_simp
            with_reducible rfl
           rotate_left
           ·simp only[Act.put,zA,zB,zC,i64_w,i32_w]
            rfl
           refine take_ (i:=3) (N:=some 46) (v:=?_) (a':=?_) #[true,true,true,true,false,true,false,true,false,false,false,false] rfl rfl (take_ofW HT_.out HW_.out (b4_)) (fun _ _ _ h=>h) (Or.inl ⟨by rfl,?_⟩) hHeld ?_ ?_
           rotate_left
           ·rintro w' ⟨s0,s1,s2,s3,s4⟩
            go_simp
            with_reducible rfl
           rotate_left
           ·simp only[Act.put,zA,zB,zC,i64_w,i32_w]
            rfl
           refine pure_ (i:=4) (N:=some 47) (v:=?_) (a':=?_) #[true,true,true,true,true,true,false,true,false,false,false,false] rfl rfl (any_of HT_.out (b4_)) (fun _ _ _ h=>h) (Or.inl ⟨by rfl,?_⟩) ?_ ?_
           rotate_left
           ·intro w'
            go_simp
            with_reducible rfl
           rotate_left
           ·simp only[Act.put,zA,zB,zC,i64_w,i32_w]
            rfl
           refine pure_ (i:=10) (N:=some 6) (v:=?_) (a':=?_) #[true,true,true,true,true,true,false,true,false,false,true,false] rfl rfl (any_of HT_.out (b4_)) (fun _ _ _ h=>h) (Or.inl ⟨by rfl,?_⟩) ?_ ?_
           rotate_left
           ·intro w'
            go_simp
            with_reducible rfl
           rotate_left
           ·simp only[Act.put,zA,zB,zC,i64_w,i32_w]
            rfl
           refine take_ (i:=6) (N:=some 49) (v:=?_) (a':=?_) #[true,true,true,true,true,true,true,true,false,false,true,false] rfl rfl (take_ofW HT_.out HW_.out (b4_)) (fun _ _ _ h=>h) (Or.inl ⟨by rfl,?_⟩) hHeld ?_ ?_
           rotate_left
           ·rintro w' ⟨s0,s1,s2,s3,s4⟩
            go_simp
            with_reducible rfl
           rotate_left
           ·simp only[Act.put,zA,zB,zC,i64_w,i32_w]
            rfl
           refine take_ (i:=8) (N:=some 51) (v:=?_) (a':=?_) #[true,true,true,true,true,true,true,true,true,false,true,false] rfl rfl (take_ofW HT_.out HW_.out (b4_)) (fun _ _ _ h=>h) (Or.inl ⟨by rfl,?_⟩) hHeld ?_ ?_
           rotate_left
           ·rintro w' ⟨s0,s1,s2,s3,s4⟩
            go_simp
            with_reducible rfl
           rotate_left
           ·simp only[Act.put,zA,zB,zC,i64_w,i32_w]
            rfl
           refine pure_ (i:=9) (N:=some 52) (v:=?_) (a':=?_) #[true,true,true,true,true,true,true,true,true,true,true,false] rfl rfl (any_of HT_.out (b4_)) (fun _ _ _ h=>h) (Or.inl ⟨by rfl,?_⟩) ?_ ?_
           rotate_left
           ·intro w'
            go_simp
            with_reducible rfl
           rotate_left
           ·simp only[Act.put,zA,zB,zC,i64_w,i32_w]
            rfl
           refine pure_ (i:=11) (N:=some 7) (v:=?_) (a':=?_) #[true,true,true,true,true,true,true,true,true,true,true,true] rfl rfl (any_of HT_.out (b4_)) (fun _ _ _ h=>h) (Or.inl ⟨by rfl,?_⟩) ?_ ?_
           rotate_left
           ·intro w'
            go_simp
            with_reducible rfl
           rotate_left
           ·simp only[Act.put,zA,zB,zC,i64_w,i32_w]
            rfl
           refine done_ (done_of HT_.out (b4_)) ?_
           have hnb91:=NB216_217.out
           have hnc91:=NB217_216.out
           obtain⟨hcz92_0,hcz92_1⟩:=cC2 BK216.out
           obtain⟨hfz92_0,hfz92_1⟩:=cF2 BK216.out
           obtain⟨hcz93_0,hcz93_1,hcz93_2⟩:=cC3 BK215.out
           obtain⟨hfz93_0,hfz93_1,hfz93_2⟩:=cF3 BK215.out
           try go_wp2
           (try (rw[drewN_self w90];generalize hq_:World.drewN w90 _=w90;have n0_:=am (Kd.R_at hq_ HO223.out);have n1_:=am (blk_at hq_ BK215.out);have n2_:=am (blk_at hq_ BK216.out);have n3_:=am (blk_at hq_ BK217.out);have n4_:=am (below_at hq_ HB.out);clear hq_ HO223 BK215 BK216 BK217 HB;have HO223:=n0_;have BK215:=n1_;have BK216:=n2_;have BK217:=n3_;have HB:=n4_;clear n0_ n1_ n2_ n3_ n4_))
           have n0_:=am (Kd.R_drew HO223.out)
           have n1_:=am (blk_drew BK215.out)
           have n2_:=am (blk_drew BK216.out)
           have n3_:=am (blk_drew BK217.out)
           have n4_:=am (below_drew1 HB.out)
           clear HO223 BK215 BK216 BK217 HB
           have HO223:=n0_
           have BK215:=n1_
           have BK216:=n2_
           have BK217:=n3_
           have HB:=n4_
           clear n0_ n1_ n2_ n3_ n4_
           refine start_ (n:=14) (S:=fun w'=>w'.cell? ⟨gb215,0,none⟩=some (.slice (some ⟨go45,0,none⟩) t221.length co87)∧w'.cell? ⟨gb215,1,none⟩=some (.int .i64 a0_1)∧w'.cell? ⟨gb215,2,none⟩=some (.bool true)) (ds:=[13]) #[false,false,false,false,false,false,false,false,false,false,false,false,false,false] (b4_) rfl rfl (cC3 BK215.out) (fun hHeld => ?_);refine with_tabW impl_MeetBoth.tab6 impl_MeetBoth.bits6 (fun HT_ HW_ => ?_)
           generalize w90.drew=w94 at HO223 BK215 BK216 BK217 HB hHeld ⊢
           refine pure_ (i:=0) (N:=some 66) (v:=?_) (a':=?_) #[true,false,false,false,false,false,false,false,false,false,false,false,false,false] rfl rfl (any_of HT_.out (b4_)) (fun _ _ _ h=>h) (Or.inl ⟨by rfl,?_⟩) ?_ ?_
           rotate_left
           ·intro w'
            go_simp
            with_reducible rfl
           rotate_left
           ·simp only[Act.put,zA,zB,zC,i64_w,i32_w]
            rfl
           refine take_ (i:=1) (N:=some 67) (v:=?_) (a':=?_) #[true,true,false,false,false,false,false,false,false,false,false,false,false,false] rfl rfl (take_ofW HT_.out HW_.out (b4_)) (fun _ _ _ h=>h) (Or.inl ⟨by rfl,?_⟩) hHeld ?_ ?_
           rotate_left
           ·rintro w' ⟨s0,s1,s2⟩
            go_simp
            with_reducible rfl
           rotate_left
           ·simp only[Act.put,zA,zB,zC,i64_w,i32_w]
            rfl
           refine pure_ (i:=2) (N:=some 68) (v:=?_) (a':=?_) #[true,true,true,false,false,false,false,false,false,false,false,false,false,false] rfl rfl (any_of HT_.out (b4_)) (fun _ _ _ h=>h) (Or.inl ⟨by rfl,?_⟩) ?_ ?_
           rotate_left
           ·intro w'
            go_simp
            with_reducible rfl
           rotate_left
           ·simp only[Act.put,zA,zB,zC,i64_w,i32_w]
            rfl
           refine pure_ (i:=3) (N:=some 69) (v:=undef) (a':=?_) #[true,true,true,true,false,false,false,false,false,false,false,false,false,false] rfl rfl (any_of HT_.out (b4_)) (fun _ _ _ h=>h) (Or.inr ⟨by rfl,rfl⟩) ?_ ?_
           rotate_left
           ·simp only[Act.put,zA,zB,zC,i64_w,i32_w]
            rfl
           refine pure_ (i:=4) (N:=some 70) (v:=undef) (a':=?_) #[true,true,true,true,true,false,false,false,false,false,false,false,false,false] rfl rfl (any_of HT_.out (b4_)) (fun _ _ _ h=>h) (Or.inr ⟨by rfl,rfl⟩) ?_ ?_
           rotate_left
           ·simp only[Act.put,zA,zB,zC,i64_w,i32_w]
            rfl
           refine pure_ (i:=5) (N:=some 71) (v:=undef) (a':=?_) #[true,true,true,true,true,true,false,false,false,false,false,false,false,false] rfl rfl (any_of HT_.out (b4_)) (fun _ _ _ h=>h) (Or.inr ⟨by rfl,rfl⟩) ?_ ?_
           rotate_left
           ·simp only[Act.put,zA,zB,zC,i64_w,i32_w]
            rfl
           refine pure_ (i:=6) (N:=some 72) (v:=undef) (a':=?_) #[true,true,true,true,true,true,true,false,false,false,false,false,false,false] rfl rfl (any_of HT_.out (b4_)) (fun _ _ _ h=>h) (Or.inr ⟨by rfl,rfl⟩) ?_ ?_
           rotate_left
           ·simp only[Act.put,zA,zB,zC,i64_w,i32_w]
            rfl
           refine pure_ (i:=7) (N:=some 73) (v:=undef) (a':=?_) #[true,true,true,true,true,true,true,true,false,false,false,false,false,false] rfl rfl (any_of HT_.out (b4_)) (fun _ _ _ h=>h) (Or.inr ⟨by rfl,rfl⟩) ?_ ?_
           rotate_left
           ·simp only[Act.put,zA,zB,zC,i64_w,i32_w]
            rfl
           refine pure_ (i:=8) (N:=some 74) (v:=undef) (a':=?_) #[true,true,true,true,true,true,true,true,true,false,false,false,false,false] rfl rfl (any_of HT_.out (b4_)) (fun _ _ _ h=>h) (Or.inr ⟨by rfl,rfl⟩) ?_ ?_
           rotate_left
           ·simp only[Act.put,zA,zB,zC,i64_w,i32_w]
            rfl
           refine pure_ (i:=9) (N:=some 75) (v:=undef) (a':=?_) #[true,true,true,true,true,true,true,true,true,true,false,false,false,false] rfl rfl (any_of HT_.out (b4_)) (fun _ _ _ h=>h) (Or.inr ⟨by rfl,rfl⟩) ?_ ?_
           rotate_left
           ·simp only[Act.put,zA,zB,zC,i64_w,i32_w]
            rfl
           refine pure_ (i:=10) (N:=some 76) (v:=undef) (a':=?_) #[true,true,true,true,true,true,true,true,true,true,true,false,false,false] rfl rfl (any_of HT_.out (b4_)) (fun _ _ _ h=>h) (Or.inr ⟨by rfl,rfl⟩) ?_ ?_
           rotate_left
           ·simp only[Act.put,zA,zB,zC,i64_w,i32_w]
            rfl
           refine pure_ (i:=11) (N:=some 77) (v:=?_) (a':=?_) #[true,true,true,true,true,true,true,true,true,true,true,true,false,false] rfl rfl (any_of HT_.out (b4_)) (fun _ _ _ h=>h) (Or.inl ⟨by rfl,?_⟩) ?_ ?_
           rotate_left
           ·intro w'
            go_simp
            with_reducible rfl
           rotate_left
           ·simp only[Act.put,zA,zB,zC,i64_w,i32_w]
            rfl
           refine pure_ (i:=12) (N:=some 78) (v:=?_) (a':=?_) #[true,true,true,true,true,true,true,true,true,true,true,true,true,false] rfl rfl (any_of HT_.out (b4_)) (fun _ _ _ h=>h) (Or.inl ⟨by rfl,?_⟩) ?_ ?_
           rotate_left
           ·intro w'
            go_simp
            with_reducible rfl
           rotate_left
           ·simp only[Act.put,zA,zB,zC,i64_w,i32_w]
            rfl
           refine last_ (i:=13) (N:=none) #[true,true,true,true,true,true,true,true,true,true,true,true,true,true] rfl rfl (one_of HT_.out (b4_)) (b17_) (fun K hK => ?_)
           have hs95:w94.cell? ⟨gb215,2,none⟩=some (.bool true):=(blk_cell BK215.out 2).trans rfl
           have hfs95:=blk_frozen BK215.out 2
           have hns95_1:=NB216_215.out
           have hns95_2:=NB217_215.out
           have hms95_1:=NB215_216.out
           have hms95_2:=NB215_217.out
           refine skip_ (w1:=?_) (by rfl) rfl ?_ ?_
           rotate_left
           ·go_simp
            rfl
           refine hK.out _ _ ?_
           clear hK K
           refine done_ (done_of HT_.out (b4_)) ?_
           obtain⟨hcz96_0,hcz96_1,hcz96_2⟩:=cC3 BK215.out
           obtain⟨hfz96_0,hfz96_1,hfz96_2⟩:=cF3 BK215.out
           obtain⟨hcz97_0,hcz97_1,hcz97_2⟩:=cC3 BK217.out
           obtain⟨hfz97_0,hfz97_1,hfz97_2⟩:=cF3 BK217.out
           try go_wp2
           refine bodyPost_ret (results_ct rfl _ _ gb217 62 #[.slice (some ⟨go45,0,none⟩) t221.length co87,.int .i64 a0_1,.bool true] (0,0) _ rfl (by(with_reducible repeat (first|refine blk_drewN ?_ _|refine blk_drew ?_|refine blk_alloc ?_ _));apply bU3;(with_reducible repeat (first|refine blk_drewN ?_ _|refine blk_drew ?_|refine blk_alloc ?_ _));refine blk_far ?_ NB217_215.out _;(with_reducible repeat (first|refine blk_drewN ?_ _|refine blk_drew ?_|refine blk_alloc ?_ _));exact BK217.out) Try.underlying62 rfl (b4_)) rfl ?_
           exact⟨_,by first|rfl|(simp[errW_none,errW_some]<;>rfl)|(simp[*,errW_none,errW_some]<;>rfl),by(with_reducible repeat (first|apply Kd.R_alloc|apply Kd.R_drewN|apply Kd.R_drew));exact Kd.R_mono (Kd.R_far (p:=⟨gb217,2,none⟩) (Kd.R_far (p:=⟨gb217,1,none⟩) (Kd.R_far (p:=⟨gb217,0,none⟩) (Kd.R_far (p:=⟨gb215,2,none⟩) (Kd.R_types (Kd.R_types HO223.out BK215.out (b17_)) BK217.out (b17_)) (fun _ hk=>hk.1.2) (.bool true)) (fun _ hk=>hk.2) (.slice (some ⟨go45,0,none⟩) t221.length co87)) (fun _ hk=>hk.2) (.int .i64 a0_1)) (fun _ hk=>hk.2) (.bool true)) (fun _ hk=>trivial),bS3 GE215.out GE216.out GE217.out⟩
          ·replace c82:=Bool.eq_false_iff.mpr c82
           subst c82
           have H1:(some (t221,a0_1,decide ((wrap64 ((rd t221 a1_0)+(rd t221 a1_1))) > 0),true))=some (r1,r2,r3,r4):=by rw[if_neg (show ¬ (false=true) by decide)] at H;exact H
           clear H
           have H:=H1
           clear H1
           simp only[Option.some.injEq,Prod.mk.injEq] at H
           obtain⟨rfl,rfl,rfl,rfl⟩:=H
           have hnb98:=NB215_216.out
           have hnc98:=NB216_215.out
           have hnb99:=NB215_217.out
           have hnc99:=NB217_215.out
           obtain⟨hcz100_0,hcz100_1,hcz100_2⟩:=cC3 BK215.out
           obtain⟨hfz100_0,hfz100_1,hfz100_2⟩:=cF3 BK215.out
           try go_wp2_with (first|((with_reducible refine gate_callee (f:=98) rfl ?_);refine goesA (some 41) rfl rfl Try.func98 #[.slice A0_0 l0_0.length c0_0] rfl ?_;(with_reducible refine(slices_Clone_int_int.calls _ _ l0_0 t221 _ ?side1 ?side2 A42.out).mono ?_);(case side1=>exact bC HR0_0.out);(case side2=>exact HC0_0.out);rintro e w101 ⟨v222,rfl,ho0,hb⟩;refine⟨_,rfl,?_⟩;have n0_:=am (Kd.R_lower ho0 (below_size (bS3 GE215.out GE216.out GE217.out)));have n1_:=am (bM BK215.out hb);have n2_:=am (bM BK216.out hb);have n3_:=am (bM BK217.out hb);have n4_:=am (below_step (bS3 GE215.out GE216.out GE217.out) hb);clear BK215 BK216 BK217 HB;have HO223:=n0_;have BK215:=n1_;have BK216:=n2_;have BK217:=n3_;have HB:=n4_;clear n0_ n1_ n2_ n3_ n4_;(try clear hb);(try clear hb2);(try clear hk);(try clear hi);(try clear ho0);obtain⟨Ao102,co102,eo102⟩:=Kd.R_slice HO223.out;subst eo102;obtain⟨hcz103_0,hcz103_1,hcz103_2⟩:=cC3 BK215.out;obtain⟨hfz103_0,hfz103_1,hfz103_2⟩:=cF3 BK215.out))
           have n0_:Aside0 (Kd.R (Kd.int .i64) 3 (w101.setCell ⟨gb215,0,none⟩ (.slice Ao102 t221.length co102)) w.heap.size (fun _=>True) (.slice Ao102 t221.length co102) t221):=⟨by(with_reducible repeat (first|apply Kd.R_alloc|apply Kd.R_drewN|apply Kd.R_drew));exact Kd.R_mono (Kd.R_far (p:=⟨gb215,0,none⟩) (Kd.R_types HO223.out BK215.out (b17_)) (fun _ hk=>hk.2) (.slice Ao102 t221.length co102)) (fun _ hk=>trivial)⟩
           have n1_:Aside0 ((w101.setCell ⟨gb215,0,none⟩ (.slice Ao102 t221.length co102)).heap[gb215]?=some (.cells #[.slice Ao102 t221.length co102,.int .i64 a0_1,.bool false] 62 (0,0))):=⟨by(with_reducible repeat (first|refine blk_drewN ?_ _|refine blk_drew ?_|refine blk_alloc ?_ _));refine blk_put (cs:=#[.slice A0_0 l0_0.length c0_0,.int .i64 a0_1,.bool false]) ?_ 0 _ rfl;(with_reducible repeat (first|refine blk_drewN ?_ _|refine blk_drew ?_|refine blk_alloc ?_ _));exact BK215.out⟩
           have n2_:Aside0 ((w101.setCell ⟨gb215,0,none⟩ (.slice Ao102 t221.length co102)).heap[gb216]?=some (.cells #[.int .i64 a1_0,.int .i64 a1_1] 72 (0,0))):=⟨by(with_reducible repeat (first|refine blk_drewN ?_ _|refine blk_drew ?_|refine blk_alloc ?_ _));refine blk_far ?_ NB216_215.out _;(with_reducible repeat (first|refine blk_drewN ?_ _|refine blk_drew ?_|refine blk_alloc ?_ _));exact BK216.out⟩
           have n3_:Aside0 ((w101.setCell ⟨gb215,0,none⟩ (.slice Ao102 t221.length co102)).heap[gb217]?=some (.cells #[.slice none 0 0,.int .i64 0,.bool false] 62 (0,0))):=⟨by(with_reducible repeat (first|refine blk_drewN ?_ _|refine blk_drew ?_|refine blk_alloc ?_ _));refine blk_far ?_ NB217_215.out _;(with_reducible repeat (first|refine blk_drewN ?_ _|refine blk_drew ?_|refine blk_alloc ?_ _));exact BK217.out⟩
           have n4_:Aside0 (Below w.heap.size w (w101.setCell ⟨gb215,0,none⟩ (.slice Ao102 t221.length co102))):=⟨bS3 GE215.out GE216.out GE217.out⟩
           (try clear HO223)
           (try clear BK215)
           (try clear BK216)
           (try clear BK217)
           (try clear HB)
           generalize (w101.setCell ⟨gb215,0,none⟩ (.slice Ao102 t221.length co102))=w104 at n0_ n1_ n2_ n3_ n4_ ⊢
           have HO223:=n0_
           have BK215:=n1_
           have BK216:=n2_
           have BK217:=n3_
           have HB:=n4_
           clear n0_ n1_ n2_ n3_ n4_
           (try (rw[drewN_self w104];generalize hq_:World.drewN w104 _=w104;have n0_:=am (Kd.R_at hq_ HO223.out);have n1_:=am (blk_at hq_ BK215.out);have n2_:=am (blk_at hq_ BK216.out);have n3_:=am (blk_at hq_ BK217.out);have n4_:=am (below_at hq_ HB.out);clear hq_ HO223 BK215 BK216 BK217 HB;have HO223:=n0_;have BK215:=n1_;have BK216:=n2_;have BK217:=n3_;have HB:=n4_;clear n0_ n1_ n2_ n3_ n4_))
           have n0_:=am (Kd.R_drew HO223.out)
           have n1_:=am (blk_drew BK215.out)
           have n2_:=am (blk_drew BK216.out)
           have n3_:=am (blk_drew BK217.out)
           have n4_:=am (below_drew1 HB.out)
           clear HO223 BK215 BK216 BK217 HB
           have HO223:=n0_
           have BK215:=n1_
           have BK216:=n2_
           have BK217:=n3_
           have HB:=n4_
           clear n0_ n1_ n2_ n3_ n4_
           have p45:0≤(a1_0:Int):=bD_
           have q45:(a1_0:Int) < ((t221.length:Int):Int):=bD_
           obtain⟨go45,co45,eo45,gb45,gl45,cl45,HG45⟩:=Kd.R_form HO223.out (by omega)
           (first|cases eo45|(injection eo45 with ea_ en_ ec_;(first|subst ea_|(injection ea_ with ea_;subst ea_));subst ec_;clear en_))
           have GB45:=am gb45
           have GG45:=am HG45
           clear gb45 gl45 HG45
           obtain⟨hx45_0,hf45_0⟩:=Kd.R_celln 0 HO223.out (a1_0:Int) p45 q45
           replace hx45_0:=(show _=some (Value.int .i64 (rd t221 a1_0)) from hx45_0)
           replace p45:=eq_true p45
           replace q45:=eq_true q45
           have p48:0≤(a1_1:Int):=bD_
           have q48:(a1_1:Int) < ((t221.length:Int):Int):=bD_
           obtain⟨hx48_0,hf48_0⟩:=Kd.R_celln 0 HO223.out (a1_1:Int) p48 q48
           replace hx48_0:=(show _=some (Value.int .i64 (rd t221 a1_1)) from hx48_0)
           replace p48:=eq_true p48
           replace q48:=eq_true q48
           refine start_ (n:=12) (S:=fun w'=>w'.cell? ⟨gb215,0,none⟩=some (.slice (some ⟨go45,0,none⟩) t221.length co102)∧w'.cell? ⟨gb215,1,none⟩=some (.int .i64 a0_1)∧w'.cell? ⟨gb215,2,none⟩=some (.bool false)∧w'.cell? ⟨gb216,0,none⟩=some (.int .i64 a1_0)∧w'.cell? ⟨gb216,1,none⟩=some (.int .i64 a1_1)) (ds:=[]) #[false,false,false,false,false,false,false,false,false,false,false,false] (b4_) rfl rfl ⟨(blk_cell BK215.out 0).trans rfl,(blk_cell BK215.out 1).trans rfl,(blk_cell BK215.out 2).trans rfl,(blk_cell BK216.out 0).trans rfl,(blk_cell BK216.out 1).trans rfl⟩ (fun hHeld => ?_);refine with_tabW impl_MeetBoth.tab4 impl_MeetBoth.bits4 (fun HT_ HW_ => ?_)
           generalize w104.drew=w105 at HO223 BK215 BK216 BK217 HB GG45 hf45_0 hf48_0 hx45_0 hx48_0 hHeld ⊢
           refine pure_ (i:=0) (N:=some 43) (v:=?_) (a':=?_) #[true,false,false,false,false,false,false,false,false,false,false,false] rfl rfl (any_of HT_.out (b4_)) (fun _ _ _ h=>h) (Or.inl ⟨by rfl,?_⟩) ?_ ?_
           rotate_left
           ·intro w'
            go_simp
            with_reducible rfl
           rotate_left
           ·simp only[Act.put,zA,zB,zC,i64_w,i32_w]
            rfl
           refine pure_ (i:=2) (N:=some 45) (v:=?_) (a':=?_) #[true,false,true,false,false,false,false,false,false,false,false,false] rfl rfl (any_of HT_.out (b4_)) (fun _ _ _ h=>h) (Or.inl ⟨by rfl,?_⟩) ?_ ?_
           rotate_left
           ·intro w'
            go_simp
            with_reducible rfl
           rotate_left
           ·simp only[Act.put,zA,zB,zC,i64_w,i32_w]
            rfl
           refine pure_ (i:=5) (N:=some 48) (v:=?_) (a':=?_) #[true,false,true,false,false,true,false,false,false,false,false,false] rfl rfl (any_of HT_.out (b4_)) (fun _ _ _ h=>h) (Or.inl ⟨by rfl,?_⟩) ?_ ?_
           rotate_left
           ·intro w'
            go_simp
            with_reducible rfl
           rotate_left
           ·simp only[Act.put,zA,zB,zC,i64_w,i32_w]
            rfl
           refine pure_ (i:=7) (N:=some 50) (v:=?_) (a':=?_) #[true,false,true,false,false,true,false,true,false,false,false,false] rfl rfl (any_of HT_.out (b4_)) (fun _ _ _ h=>h) (Or.inl ⟨by rfl,?_⟩) ?_ ?_
           rotate_left
           ·intro w'
            go_simp
            with_reducible rfl
           rotate_left
           ·simp only[Act.put,zA,zB,zC,i64_w,i32_w]
            rfl
           refine take_ (i:=1) (N:=some 44) (v:=?_) (a':=?_) #[true,true,true,false,false,true,false,true,false,false,false,false] rfl rfl (take_ofW HT_.out HW_.out (b4_)) (fun _ _ _ h=>h) (Or.inl ⟨by rfl,?_⟩) hHeld ?_ ?_
           rotate_left
           ·rintro w' ⟨s0,s1,s2,s3,s4⟩
            go_simp
            with_reducible rfl
           rotate_left
           ·simp only[Act.put,zA,zB,zC,i64_w,i32_w]
            rfl
           refine take_ (i:=3) (N:=some 46) (v:=?_) (a':=?_) #[true,true,true,true,false,true,false,true,false,false,false,false] rfl rfl (take_ofW HT_.out HW_.out (b4_)) (fun _ _ _ h=>h) (Or.inl ⟨by rfl,?_⟩) hHeld ?_ ?_
           rotate_left
           ·rintro w' ⟨s0,s1,s2,s3,s4⟩
            go_simp
            with_reducible rfl
           rotate_left
           ·simp only[Act.put,zA,zB,zC,i64_w,i32_w]
            rfl
           refine pure_ (i:=4) (N:=some 47) (v:=?_) (a':=?_) #[true,true,true,true,true,true,false,true,false,false,false,false] rfl rfl (any_of HT_.out (b4_)) (fun _ _ _ h=>h) (Or.inl ⟨by rfl,?_⟩) ?_ ?_
           rotate_left
           ·intro w'
            go_simp
            with_reducible rfl
           rotate_left
           ·simp only[Act.put,zA,zB,zC,i64_w,i32_w]
            rfl
           refine pure_ (i:=10) (N:=some 6) (v:=?_) (a':=?_) #[true,true,true,true,true,true,false,true,false,false,true,false] rfl rfl (any_of HT_.out (b4_)) (fun _ _ _ h=>h) (Or.inl ⟨by rfl,?_⟩) ?_ ?_
           rotate_left
           ·intro w'
            go_simp
            with_reducible rfl
           rotate_left
           ·simp only[Act.put,zA,zB,zC,i64_w,i32_w]
            rfl
           refine take_ (i:=6) (N:=some 49) (v:=?_) (a':=?_) #[true,true,true,true,true,true,true,true,false,false,true,false] rfl rfl (take_ofW HT_.out HW_.out (b4_)) (fun _ _ _ h=>h) (Or.inl ⟨by rfl,?_⟩) hHeld ?_ ?_
           rotate_left
           ·rintro w' ⟨s0,s1,s2,s3,s4⟩
            go_simp
            with_reducible rfl
           rotate_left
           ·simp only[Act.put,zA,zB,zC,i64_w,i32_w]
            rfl
           refine take_ (i:=8) (N:=some 51) (v:=?_) (a':=?_) #[true,true,true,true,true,true,true,true,true,false,true,false] rfl rfl (take_ofW HT_.out HW_.out (b4_)) (fun _ _ _ h=>h) (Or.inl ⟨by rfl,?_⟩) hHeld ?_ ?_
           rotate_left
           ·rintro w' ⟨s0,s1,s2,s3,s4⟩
            go_simp
            with_reducible rfl
           rotate_left
           ·simp only[Act.put,zA,zB,zC,i64_w,i32_w]
            rfl
           refine pure_ (i:=9) (N:=some 52) (v:=?_) (a':=?_) #[true,true,true,true,true,true,true,true,true,true,true,false] rfl rfl (any_of HT_.out (b4_)) (fun _ _ _ h=>h) (Or.inl ⟨by rfl,?_⟩) ?_ ?_
           rotate_left
           ·intro w'
            go_simp
            with_reducible rfl
           rotate_left
           ·simp only[Act.put,zA,zB,zC,i64_w,i32_w]
            rfl
           refine pure_ (i:=11) (N:=some 7) (v:=?_) (a':=?_) #[true,true,true,true,true,true,true,true,true,true,true,true] rfl rfl (any_of HT_.out (b4_)) (fun _ _ _ h=>h) (Or.inl ⟨by rfl,?_⟩) ?_ ?_
           rotate_left
           ·intro w'
            go_simp
            with_reducible rfl
           rotate_left
           ·simp only[Act.put,zA,zB,zC,i64_w,i32_w]
            rfl
           refine done_ (done_of HT_.out (b4_)) ?_
           have hnb106:=NB216_217.out
           have hnc106:=NB217_216.out
           obtain⟨hcz107_0,hcz107_1⟩:=cC2 BK216.out
           obtain⟨hfz107_0,hfz107_1⟩:=cF2 BK216.out
           obtain⟨hcz108_0,hcz108_1,hcz108_2⟩:=cC3 BK215.out
           obtain⟨hfz108_0,hfz108_1,hfz108_2⟩:=cF3 BK215.out
           try go_wp2
           (try (rw[drewN_self w105];generalize hq_:World.drewN w105 _=w105;have n0_:=am (Kd.R_at hq_ HO223.out);have n1_:=am (blk_at hq_ BK215.out);have n2_:=am (blk_at hq_ BK216.out);have n3_:=am (blk_at hq_ BK217.out);have n4_:=am (below_at hq_ HB.out);clear hq_ HO223 BK215 BK216 BK217 HB;have HO223:=n0_;have BK215:=n1_;have BK216:=n2_;have BK217:=n3_;have HB:=n4_;clear n0_ n1_ n2_ n3_ n4_))
           have n0_:=am (Kd.R_drew HO223.out)
           have n1_:=am (blk_drew BK215.out)
           have n2_:=am (blk_drew BK216.out)
           have n3_:=am (blk_drew BK217.out)
           have n4_:=am (below_drew1 HB.out)
           clear HO223 BK215 BK216 BK217 HB
           have HO223:=n0_
           have BK215:=n1_
           have BK216:=n2_
           have BK217:=n3_
           have HB:=n4_
           clear n0_ n1_ n2_ n3_ n4_
           have p226:0≤(a1_0:Int):=bD_
           have q226:a1_0 < (t221.length:Int):=bD_
           obtain⟨ad226,e226,hx226_0⟩:=Kd.at_int (Kd.R_reads' HO223.out).2.2 a1_0 p226 q226
           obtain rfl:(⟨go45,0,none⟩:Addr)=ad226:=(by injection e226)
           (first|simp only[add_plain] at hx226_0|simp only[add_at] at hx226_0|simp only[Addr.add,Nat.zero_add] at hx226_0|skip)
           replace p226:=eq_true p226
           replace q226:=eq_true q226
           have p227:0≤(a1_1:Int):=bD_
           have q227:a1_1 < (t221.length:Int):=bD_
           obtain⟨ad227,e227,hx227_0⟩:=Kd.at_int (Kd.R_reads' HO223.out).2.2 a1_1 p227 q227
           obtain rfl:(⟨go45,0,none⟩:Addr)=ad227:=(by injection e227)
           (first|simp only[add_plain] at hx227_0|simp only[add_at] at hx227_0|simp only[Addr.add,Nat.zero_add] at hx227_0|skip)
           replace p227:=eq_true p227
           replace q227:=eq_true q227
           refine start_ (n:=14) (S:=fun w'=>w'.cell? ⟨gb215,0,none⟩=some (.slice (some ⟨go45,0,none⟩) t221.length co102)∧w'.cell? ⟨gb215,1,none⟩=some (.int .i64 a0_1)∧w'.cell? ⟨gb215,2,none⟩=some (.bool false)∧w'.cell? ⟨go45,(a1_0).toNat,none⟩=some (.int .i64 (rd t221 a1_0))∧w'.cell? ⟨go45,(a1_1).toNat,none⟩=some (.int .i64 (rd t221 a1_1))) (ds:=[13]) #[false,false,false,false,false,false,false,false,false,false,false,false,false,false] (b4_) rfl rfl ⟨(blk_cell BK215.out 0).trans rfl,(blk_cell BK215.out 1).trans rfl,(blk_cell BK215.out 2).trans rfl,hx226_0,hx227_0⟩ (fun hHeld => ?_);refine with_tabW impl_MeetBoth.tab6 impl_MeetBoth.bits6 (fun HT_ HW_ => ?_)
           generalize w105.drew=w109 at HO223 BK215 BK216 BK217 HB hx226_0 hx227_0 hHeld ⊢
           refine pure_ (i:=0) (N:=some 66) (v:=?_) (a':=?_) #[true,false,false,false,false,false,false,false,false,false,false,false,false,false] rfl rfl (any_of HT_.out (b4_)) (fun _ _ _ h=>h) (Or.inl ⟨by rfl,?_⟩) ?_ ?_
           rotate_left
           ·intro w'
            go_simp
            with_reducible rfl
           rotate_left
           ·simp only[Act.put,zA,zB,zC,i64_w,i32_w]
            rfl
           refine take_ (i:=1) (N:=some 67) (v:=?_) (a':=?_) #[true,true,false,false,false,false,false,false,false,false,false,false,false,false] rfl rfl (take_ofW HT_.out HW_.out (b4_)) (fun _ _ _ h=>h) (Or.inl ⟨by rfl,?_⟩) hHeld ?_ ?_
           rotate_left
           ·rintro w' ⟨s0,s1,s2,s3,s4⟩
            go_simp
            with_reducible rfl
           rotate_left
           ·simp only[Act.put,zA,zB,zC,i64_w,i32_w]
            rfl
           refine pure_ (i:=2) (N:=some 68) (v:=?_) (a':=?_) #[true,true,true,false,false,false,false,false,false,false,false,false,false,false] rfl rfl (any_of HT_.out (b4_)) (fun _ _ _ h=>h) (Or.inl ⟨by rfl,?_⟩) ?_ ?_
           rotate_left
           ·intro w'
            go_simp
            with_reducible rfl
           rotate_left
           ·simp only[Act.put,zA,zB,zC,i64_w,i32_w]
            rfl
           refine pure_ (i:=3) (N:=some 69) (v:=?_) (a':=?_) #[true,true,true,true,false,false,false,false,false,false,false,false,false,false] rfl rfl (any_of HT_.out (b4_)) (fun _ _ _ h=>h) (Or.inl ⟨by rfl,?_⟩) ?_ ?_
           rotate_left
           ·intro w'
            go_simp
            with_reducible rfl
           rotate_left
           ·simp only[Act.put,zA,zB,zC,i64_w,i32_w]
            rfl
           refine pure_ (i:=4) (N:=some 70) (v:=?_) (a':=?_) #[true,true,true,true,true,false,false,false,false,false,false,false,false,false] rfl rfl (any_of HT_.out (b4_)) (fun _ _ _ h=>h) (Or.inl ⟨by rfl,?_⟩) ?_ ?_
           rotate_left
           ·intro w'
            go_simp
            with_reducible rfl
           rotate_left
           ·simp only[Act.put,zA,zB,zC,i64_w,i32_w]
            rfl
           refine pure_ (i:=6) (N:=some 72) (v:=?_) (a':=?_) #[true,true,true,true,true,false,true,false,false,false,false,false,false,false] rfl rfl (any_of HT_.out (b4_)) (fun _ _ _ h=>h) (Or.inl ⟨by rfl,?_⟩) ?_ ?_
           rotate_left
           ·intro w'
            go_simp
            with_reducible rfl
           rotate_left
           ·simp only[Act.put,zA,zB,zC,i64_w,i32_w]
            rfl
           refine pure_ (i:=7) (N:=some 73) (v:=?_) (a':=?_) #[true,true,true,true,true,false,true,true,false,false,false,false,false,false] rfl rfl (any_of HT_.out (b4_)) (fun _ _ _ h=>h) (Or.inl ⟨by rfl,?_⟩) ?_ ?_
           rotate_left
           ·intro w'
            go_simp
            with_reducible rfl
           rotate_left
           ·simp only[Act.put,zA,zB,zC,i64_w,i32_w]
            rfl
           refine take_ (i:=5) (N:=some 71) (v:=?_) (a':=?_) #[true,true,true,true,true,true,true,true,false,false,false,false,false,false] rfl rfl (take_ofW HT_.out HW_.out (b4_)) (fun _ _ _ h=>h) (Or.inl ⟨by rfl,?_⟩) hHeld ?_ ?_
           rotate_left
           ·rintro w' ⟨s0,s1,s2,s3,s4⟩
            go_simp
            with_reducible rfl
           rotate_left
           ·simp only[Act.put,zA,zB,zC,i64_w,i32_w]
            rfl
           refine take_ (i:=8) (N:=some 74) (v:=?_) (a':=?_) #[true,true,true,true,true,true,true,true,true,false,false,false,false,false] rfl rfl (take_ofW HT_.out HW_.out (b4_)) (fun _ _ _ h=>h) (Or.inl ⟨by rfl,?_⟩) hHeld ?_ ?_
           rotate_left
           ·rintro w' ⟨s0,s1,s2,s3,s4⟩
            go_simp
            with_reducible rfl
           rotate_left
           ·simp only[Act.put,zA,zB,zC,i64_w,i32_w]
            rfl
           refine pure_ (i:=9) (N:=some 75) (v:=?_) (a':=?_) #[true,true,true,true,true,true,true,true,true,true,false,false,false,false] rfl rfl (any_of HT_.out (b4_)) (fun _ _ _ h=>h) (Or.inl ⟨by rfl,?_⟩) ?_ ?_
           rotate_left
           ·intro w'
            go_simp
            with_reducible rfl
           rotate_left
           ·simp only[Act.put,zA,zB,zC,i64_w,i32_w]
            rfl
           refine pure_ (i:=10) (N:=some 76) (v:=?_) (a':=?_) #[true,true,true,true,true,true,true,true,true,true,true,false,false,false] rfl rfl (any_of HT_.out (b4_)) (fun _ _ _ h=>h) (Or.inl ⟨by rfl,?_⟩) ?_ ?_
           rotate_left
           ·intro w'
            go_simp
            with_reducible rfl
           rotate_left
           ·simp only[Act.put,zA,zB,zC,i64_w,i32_w]
            rfl
           refine pure_ (i:=11) (N:=some 77) (v:=?_) (a':=?_) #[true,true,true,true,true,true,true,true,true,true,true,true,false,false] rfl rfl (any_of HT_.out (b4_)) (fun _ _ _ h=>h) (Or.inl ⟨by rfl,?_⟩) ?_ ?_
           rotate_left
           ·intro w'
            go_simp
            with_reducible rfl
           rotate_left
           ·simp only[Act.put,zA,zB,zC,i64_w,i32_w]
            rfl
           refine pure_ (i:=12) (N:=some 78) (v:=?_) (a':=?_) #[true,true,true,true,true,true,true,true,true,true,true,true,true,false] rfl rfl (any_of HT_.out (b4_)) (fun _ _ _ h=>h) (Or.inl ⟨by rfl,?_⟩) ?_ ?_
           rotate_left
           ·intro w'
            go_simp
            with_reducible rfl
           rotate_left
           ·simp only[Act.put,zA,zB,zC,i64_w,i32_w]
            rfl
           refine last_ (i:=13) (N:=none) #[true,true,true,true,true,true,true,true,true,true,true,true,true,true] rfl rfl (one_of HT_.out (b4_)) (b17_) (fun K hK => ?_)
           have hs110:w109.cell? ⟨gb215,2,none⟩=some (.bool false):=(blk_cell BK215.out 2).trans rfl
           have hfs110:=blk_frozen BK215.out 2
           have hns110_1:=NB216_215.out
           have hns110_2:=NB217_215.out
           have hms110_1:=NB215_216.out
           have hms110_2:=NB215_217.out
           refine skip_ (w1:=?_) (by rfl) rfl ?_ ?_
           rotate_left
           ·go_simp
            rfl
           refine hK.out _ _ ?_
           clear hK K
           refine done_ (done_of HT_.out (b4_)) ?_
           obtain⟨hcz111_0,hcz111_1,hcz111_2⟩:=cC3 BK215.out
           obtain⟨hfz111_0,hfz111_1,hfz111_2⟩:=cF3 BK215.out
           obtain⟨hcz112_0,hcz112_1,hcz112_2⟩:=cC3 BK217.out
           obtain⟨hfz112_0,hfz112_1,hfz112_2⟩:=cF3 BK217.out
           try go_wp2
           refine bodyPost_ret (results_ct rfl _ _ gb217 62 #[.slice (some ⟨go45,0,none⟩) t221.length co102,.int .i64 a0_1,.bool (decide ((wrap64 ((rd t221 a1_0)+(rd t221 a1_1))) > 0))] (0,0) _ rfl (by(with_reducible repeat (first|refine blk_drewN ?_ _|refine blk_drew ?_|refine blk_alloc ?_ _));apply bU3;(with_reducible repeat (first|refine blk_drewN ?_ _|refine blk_drew ?_|refine blk_alloc ?_ _));refine blk_far ?_ NB217_215.out _;(with_reducible repeat (first|refine blk_drewN ?_ _|refine blk_drew ?_|refine blk_alloc ?_ _));exact BK217.out) Try.underlying62 rfl (b4_)) rfl ?_
           exact⟨_,by first|rfl|(simp[errW_none,errW_some]<;>rfl)|(simp[*,errW_none,errW_some]<;>rfl),by(with_reducible repeat (first|apply Kd.R_alloc|apply Kd.R_drewN|apply Kd.R_drew));exact Kd.R_mono (Kd.R_far (p:=⟨gb217,2,none⟩) (Kd.R_far (p:=⟨gb217,1,none⟩) (Kd.R_far (p:=⟨gb217,0,none⟩) (Kd.R_far (p:=⟨gb215,2,none⟩) (Kd.R_types (Kd.R_types HO223.out BK215.out (b17_)) BK217.out (b17_)) (fun _ hk=>hk.1.2) (.bool (decide ((wrap64 ((rd t221 a1_0)+(rd t221 a1_1))) > 0)))) (fun _ hk=>hk.2) (.slice (some ⟨go45,0,none⟩) t221.length co102)) (fun _ hk=>hk.2) (.int .i64 a0_1)) (fun _ hk=>hk.2) (.bool (decide ((wrap64 ((rd t221 a1_0)+(rd t221 a1_1))) > 0)))) (fun _ hk=>trivial),bS3 GE215.out GE216.out GE217.out⟩
         ·rw[if_neg c81] at H
          have c81b0:(a1_1 == a0_1)=false:=beq_eq_false_iff_ne.mpr c81
          have c81b1:(a1_1 != a0_1)=true:=bne_iff_ne.mpr c81
          by_cases c113:(rd t221 a1_0) ≥ 2
          ·rw[if_pos c113] at H
           have c113b0:decide (2≤(rd t221 a1_0))=true:=decide_eq_true c113
           clear c113
           by_cases c114:(rd t221 a1_1)=0
           ·rw[if_pos c114] at H
            have c114b0:((rd t221 a1_1) == 0)=true:=beq_iff_eq.mpr c114
            have c114b1:((rd t221 a1_1) != 0)=false:=bne_eq_false_iff_eq.mpr c114
            clear c114
            obtain⟨y231,hy231⟩ : ∃ y_:List Int,y_=(t221.set (a1_1:Int).toNat (wrap64 (Int.tdiv (rd t221 a1_0) 2))):=⟨_,rfl⟩
            replace H:(some ((y231.set (a1_0:Int).toNat (wrap64 ((rd y231 a1_0) - (rd y231 a1_1)))),a0_1,a0_2,true))=some (r1,r2,r3,r4):=by first|(rw[hy231];with_reducible exact H)|(have H2_:=(Option.bind_some _ _).symm.trans H;rw[hy231];with_reducible exact H2_)|(have H2_:=(Option.bind_some _ _).symm.trans H;with_reducible exact H2_)|with_reducible exact H|(rw[hy231];exact H)|exact H
            have Ny231:=am hy231
            clear hy231
            obtain⟨y234,hy234⟩ : ∃ y_:List Int,y_=(y231.set (a1_0:Int).toNat (wrap64 ((rd y231 a1_0) - (rd y231 a1_1)))):=⟨_,rfl⟩
            replace H:(some (y234,a0_1,a0_2,true))=some (r1,r2,r3,r4):=by first|(rw[hy234];with_reducible exact H)|(have H2_:=(Option.bind_some _ _).symm.trans H;rw[hy234];with_reducible exact H2_)|(have H2_:=(Option.bind_some _ _).symm.trans H;with_reducible exact H2_)|with_reducible exact H|(rw[hy234];exact H)|exact H
            have Ny234:=am hy234
            clear hy234
            simp only[Option.some.injEq,Prod.mk.injEq] at H
            obtain⟨rfl,rfl,rfl,rfl⟩:=H
            have hnb117:=NB215_216.out
            have hnc117:=NB216_215.out
            have hnb118:=NB215_217.out
            have hnc118:=NB217_215.out
            obtain⟨hcz119_0,hcz119_1,hcz119_2⟩:=cC3 BK215.out
            obtain⟨hfz119_0,hfz119_1,hfz119_2⟩:=cF3 BK215.out
            try go_wp2_with (first|((with_reducible refine gate_callee (f:=98) rfl ?_);refine goesA (some 41) rfl rfl Try.func98 #[.slice A0_0 l0_0.length c0_0] rfl ?_;(with_reducible refine(slices_Clone_int_int.calls _ _ l0_0 t221 _ ?side1 ?side2 A42.out).mono ?_);(case side1=>exact bC HR0_0.out);(case side2=>exact HC0_0.out);rintro e w120 ⟨v222,rfl,ho0,hb⟩;refine⟨_,rfl,?_⟩;have n0_:=am (Kd.R_lower ho0 (below_size (bS3 GE215.out GE216.out GE217.out)));have n1_:=am (bM BK215.out hb);have n2_:=am (bM BK216.out hb);have n3_:=am (bM BK217.out hb);have n4_:=am (below_step (bS3 GE215.out GE216.out GE217.out) hb);clear BK215 BK216 BK217 HB;have HO223:=n0_;have BK215:=n1_;have BK216:=n2_;have BK217:=n3_;have HB:=n4_;clear n0_ n1_ n2_ n3_ n4_;(try clear hb);(try clear hb2);(try clear hk);(try clear hi);(try clear ho0);obtain⟨Ao121,co121,eo121⟩:=Kd.R_slice HO223.out;subst eo121;obtain⟨hcz122_0,hcz122_1,hcz122_2⟩:=cC3 BK215.out;obtain⟨hfz122_0,hfz122_1,hfz122_2⟩:=cF3 BK215.out))
            have n0_:Aside0 (Kd.R (Kd.int .i64) 3 (w120.setCell ⟨gb215,0,none⟩ (.slice Ao121 t221.length co121)) w.heap.size (fun _=>True) (.slice Ao121 t221.length co121) t221):=⟨by(with_reducible repeat (first|apply Kd.R_alloc|apply Kd.R_drewN|apply Kd.R_drew));exact Kd.R_mono (Kd.R_far (p:=⟨gb215,0,none⟩) (Kd.R_types HO223.out BK215.out (b17_)) (fun _ hk=>hk.2) (.slice Ao121 t221.length co121)) (fun _ hk=>trivial)⟩
            have n1_:Aside0 ((w120.setCell ⟨gb215,0,none⟩ (.slice Ao121 t221.length co121)).heap[gb215]?=some (.cells #[.slice Ao121 t221.length co121,.int .i64 a0_1,.bool a0_2] 62 (0,0))):=⟨by(with_reducible repeat (first|refine blk_drewN ?_ _|refine blk_drew ?_|refine blk_alloc ?_ _));refine blk_put (cs:=#[.slice A0_0 l0_0.length c0_0,.int .i64 a0_1,.bool a0_2]) ?_ 0 _ rfl;(with_reducible repeat (first|refine blk_drewN ?_ _|refine blk_drew ?_|refine blk_alloc ?_ _));exact BK215.out⟩
            have n2_:Aside0 ((w120.setCell ⟨gb215,0,none⟩ (.slice Ao121 t221.length co121)).heap[gb216]?=some (.cells #[.int .i64 a1_0,.int .i64 a1_1] 72 (0,0))):=⟨by(with_reducible repeat (first|refine blk_drewN ?_ _|refine blk_drew ?_|refine blk_alloc ?_ _));refine blk_far ?_ NB216_215.out _;(with_reducible repeat (first|refine blk_drewN ?_ _|refine blk_drew ?_|refine blk_alloc ?_ _));exact BK216.out⟩
            have n3_:Aside0 ((w120.setCell ⟨gb215,0,none⟩ (.slice Ao121 t221.length co121)).heap[gb217]?=some (.cells #[.slice none 0 0,.int .i64 0,.bool false] 62 (0,0))):=⟨by(with_reducible repeat (first|refine blk_drewN ?_ _|refine blk_drew ?_|refine blk_alloc ?_ _));refine blk_far ?_ NB217_215.out _;(with_reducible repeat (first|refine blk_drewN ?_ _|refine blk_drew ?_|refine blk_alloc ?_ _));exact BK217.out⟩
            have n4_:Aside0 (Below w.heap.size w (w120.setCell ⟨gb215,0,none⟩ (.slice Ao121 t221.length co121))):=⟨bS3 GE215.out GE216.out GE217.out⟩
            (try clear HO223)
            (try clear BK215)
            (try clear BK216)
            (try clear BK217)
            (try clear HB)
            generalize (w120.setCell ⟨gb215,0,none⟩ (.slice Ao121 t221.length co121))=w123 at n0_ n1_ n2_ n3_ n4_ ⊢
            have HO223:=n0_
            have BK215:=n1_
            have BK216:=n2_
            have BK217:=n3_
            have HB:=n4_
            clear n0_ n1_ n2_ n3_ n4_
            (try (rw[drewN_self w123];generalize hq_:World.drewN w123 _=w123;have n0_:=am (Kd.R_at hq_ HO223.out);have n1_:=am (blk_at hq_ BK215.out);have n2_:=am (blk_at hq_ BK216.out);have n3_:=am (blk_at hq_ BK217.out);have n4_:=am (below_at hq_ HB.out);clear hq_ HO223 BK215 BK216 BK217 HB;have HO223:=n0_;have BK215:=n1_;have BK216:=n2_;have BK217:=n3_;have HB:=n4_;clear n0_ n1_ n2_ n3_ n4_))
            have n0_:=am (Kd.R_drew HO223.out)
            have n1_:=am (blk_drew BK215.out)
            have n2_:=am (blk_drew BK216.out)
            have n3_:=am (blk_drew BK217.out)
            have n4_:=am (below_drew1 HB.out)
            clear HO223 BK215 BK216 BK217 HB
            have HO223:=n0_
            have BK215:=n1_
            have BK216:=n2_
            have BK217:=n3_
            have HB:=n4_
            clear n0_ n1_ n2_ n3_ n4_
            have p45:0≤(a1_0:Int):=bD_
            have q45:(a1_0:Int) < ((t221.length:Int):Int):=bD_
            obtain⟨go45,co45,eo45,gb45,gl45,cl45,HG45⟩:=Kd.R_form HO223.out (by omega)
            (first|cases eo45|(injection eo45 with ea_ en_ ec_;(first|subst ea_|(injection ea_ with ea_;subst ea_));subst ec_;clear en_))
            have GB45:=am gb45
            have GG45:=am HG45
            clear gb45 gl45 HG45
            obtain⟨hx45_0,hf45_0⟩:=Kd.R_celln 0 HO223.out (a1_0:Int) p45 q45
            replace hx45_0:=(show _=some (Value.int .i64 (rd t221 a1_0)) from hx45_0)
            replace p45:=eq_true p45
            replace q45:=eq_true q45
            have p48:0≤(a1_1:Int):=bD_
            have q48:(a1_1:Int) < ((t221.length:Int):Int):=bD_
            obtain⟨hx48_0,hf48_0⟩:=Kd.R_celln 0 HO223.out (a1_1:Int) p48 q48
            replace hx48_0:=(show _=some (Value.int .i64 (rd t221 a1_1)) from hx48_0)
            replace p48:=eq_true p48
            replace q48:=eq_true q48
            refine start_ (n:=12) (S:=fun w'=>w'.cell? ⟨gb215,0,none⟩=some (.slice (some ⟨go45,0,none⟩) t221.length co121)∧w'.cell? ⟨gb215,1,none⟩=some (.int .i64 a0_1)∧w'.cell? ⟨gb215,2,none⟩=some (.bool a0_2)∧w'.cell? ⟨gb216,0,none⟩=some (.int .i64 a1_0)∧w'.cell? ⟨gb216,1,none⟩=some (.int .i64 a1_1)) (ds:=[]) #[false,false,false,false,false,false,false,false,false,false,false,false] (b4_) rfl rfl ⟨(blk_cell BK215.out 0).trans rfl,(blk_cell BK215.out 1).trans rfl,(blk_cell BK215.out 2).trans rfl,(blk_cell BK216.out 0).trans rfl,(blk_cell BK216.out 1).trans rfl⟩ (fun hHeld => ?_);refine with_tabW impl_MeetBoth.tab4 impl_MeetBoth.bits4 (fun HT_ HW_ => ?_)
            generalize w123.drew=w124 at HO223 BK215 BK216 BK217 HB GG45 hf45_0 hf48_0 hx45_0 hx48_0 hHeld ⊢
            refine pure_ (i:=0) (N:=some 43) (v:=?_) (a':=?_) #[true,false,false,false,false,false,false,false,false,false,false,false] rfl rfl (any_of HT_.out (b4_)) (fun _ _ _ h=>h) (Or.inl ⟨by rfl,?_⟩) ?_ ?_
            rotate_left
            ·intro w'
             go_simp
             with_reducible rfl
            rotate_left
            ·simp only[Act.put,zA,zB,zC,i64_w,i32_w]
             rfl
            refine pure_ (i:=2) (N:=some 45) (v:=?_) (a':=?_) #[true,false,true,false,false,false,false,false,false,false,false,false] rfl rfl (any_of HT_.out (b4_)) (fun _ _ _ h=>h) (Or.inl ⟨by rfl,?_⟩) ?_ ?_
            rotate_left
            ·intro w'
             go_simp
             with_reducible rfl
            rotate_left
            ·simp only[Act.put,zA,zB,zC,i64_w,i32_w]
             rfl
            refine pure_ (i:=5) (N:=some 48) (v:=?_) (a':=?_) #[true,false,true,false,false,true,false,false,false,false,false,false] rfl rfl (any_of HT_.out (b4_)) (fun _ _ _ h=>h) (Or.inl ⟨by rfl,?_⟩) ?_ ?_
            rotate_left
            ·intro w'
             go_simp
             with_reducible rfl
            rotate_left
            ·simp only[Act.put,zA,zB,zC,i64_w,i32_w]
             rfl
            refine pure_ (i:=7) (N:=some 50) (v:=?_) (a':=?_) #[true,false,true,false,false,true,false,true,false,false,false,false] rfl rfl (any_of HT_.out (b4_)) (fun _ _ _ h=>h) (Or.inl ⟨by rfl,?_⟩) ?_ ?_
            rotate_left
            ·intro w'
             go_simp
             with_reducible rfl
            rotate_left
            ·simp only[Act.put,zA,zB,zC,i64_w,i32_w]
             rfl
            refine take_ (i:=1) (N:=some 44) (v:=?_) (a':=?_) #[true,true,true,false,false,true,false,true,false,false,false,false] rfl rfl (take_ofW HT_.out HW_.out (b4_)) (fun _ _ _ h=>h) (Or.inl ⟨by rfl,?_⟩) hHeld ?_ ?_
            rotate_left
            ·rintro w' ⟨s0,s1,s2,s3,s4⟩
             go_simp
             with_reducible rfl
            rotate_left
            ·simp only[Act.put,zA,zB,zC,i64_w,i32_w]
             rfl
            refine take_ (i:=3) (N:=some 46) (v:=?_) (a':=?_) #[true,true,true,true,false,true,false,true,false,false,false,false] rfl rfl (take_ofW HT_.out HW_.out (b4_)) (fun _ _ _ h=>h) (Or.inl ⟨by rfl,?_⟩) hHeld ?_ ?_
            rotate_left
            ·rintro w' ⟨s0,s1,s2,s3,s4⟩
             go_simp
             with_reducible rfl
            rotate_left
            ·simp only[Act.put,zA,zB,zC,i64_w,i32_w]
             rfl
            refine pure_ (i:=4) (N:=some 47) (v:=?_) (a':=?_) #[true,true,true,true,true,true,false,true,false,false,false,false] rfl rfl (any_of HT_.out (b4_)) (fun _ _ _ h=>h) (Or.inl ⟨by rfl,?_⟩) ?_ ?_
            rotate_left
            ·intro w'
             go_simp
             with_reducible rfl
            rotate_left
            ·simp only[Act.put,zA,zB,zC,i64_w,i32_w]
             rfl
            refine pure_ (i:=10) (N:=some 6) (v:=?_) (a':=?_) #[true,true,true,true,true,true,false,true,false,false,true,false] rfl rfl (any_of HT_.out (b4_)) (fun _ _ _ h=>h) (Or.inl ⟨by rfl,?_⟩) ?_ ?_
            rotate_left
            ·intro w'
             go_simp
             with_reducible rfl
            rotate_left
            ·simp only[Act.put,zA,zB,zC,i64_w,i32_w]
             rfl
            refine take_ (i:=6) (N:=some 49) (v:=?_) (a':=?_) #[true,true,true,true,true,true,true,true,false,false,true,false] rfl rfl (take_ofW HT_.out HW_.out (b4_)) (fun _ _ _ h=>h) (Or.inl ⟨by rfl,?_⟩) hHeld ?_ ?_
            rotate_left
            ·rintro w' ⟨s0,s1,s2,s3,s4⟩
             go_simp
             with_reducible rfl
            rotate_left
            ·simp only[Act.put,zA,zB,zC,i64_w,i32_w]
             rfl
            refine take_ (i:=8) (N:=some 51) (v:=?_) (a':=?_) #[true,true,true,true,true,true,true,true,true,false,true,false] rfl rfl (take_ofW HT_.out HW_.out (b4_)) (fun _ _ _ h=>h) (Or.inl ⟨by rfl,?_⟩) hHeld ?_ ?_
            rotate_left
            ·rintro w' ⟨s0,s1,s2,s3,s4⟩
             go_simp
             with_reducible rfl
            rotate_left
            ·simp only[Act.put,zA,zB,zC,i64_w,i32_w]
             rfl
            refine pure_ (i:=9) (N:=some 52) (v:=?_) (a':=?_) #[true,true,true,true,true,true,true,true,true,true,true,false] rfl rfl (any_of HT_.out (b4_)) (fun _ _ _ h=>h) (Or.inl ⟨by rfl,?_⟩) ?_ ?_
            rotate_left
            ·intro w'
             go_simp
             with_reducible rfl
            rotate_left
            ·simp only[Act.put,zA,zB,zC,i64_w,i32_w]
             rfl
            refine pure_ (i:=11) (N:=some 7) (v:=?_) (a':=?_) #[true,true,true,true,true,true,true,true,true,true,true,true] rfl rfl (any_of HT_.out (b4_)) (fun _ _ _ h=>h) (Or.inl ⟨by rfl,?_⟩) ?_ ?_
            rotate_left
            ·intro w'
             go_simp
             with_reducible rfl
            rotate_left
            ·simp only[Act.put,zA,zB,zC,i64_w,i32_w]
             rfl
            refine done_ (done_of HT_.out (b4_)) ?_
            have hnb125:=NB216_217.out
            have hnc125:=NB217_216.out
            obtain⟨hcz126_0,hcz126_1⟩:=cC2 BK216.out
            obtain⟨hfz126_0,hfz126_1⟩:=cF2 BK216.out
            obtain⟨hcz127_0,hcz127_1,hcz127_2⟩:=cC3 BK215.out
            obtain⟨hfz127_0,hfz127_1,hfz127_2⟩:=cF3 BK215.out
            have p228:0≤(a1_0:Int):=bD_
            have q228:a1_0 < (t221.length:Int):=bD_
            obtain⟨ad228,e228,hx228_0⟩:=Kd.at_int (Kd.R_reads' HO223.out).2.2 a1_0 p228 q228
            obtain rfl:(⟨go45,0,none⟩:Addr)=ad228:=(by injection e228)
            (first|simp only[add_plain] at hx228_0|simp only[add_at] at hx228_0|simp only[Addr.add,Nat.zero_add] at hx228_0|skip)
            replace p228:=eq_true p228
            replace q228:=eq_true q228
            have p229:0≤(a1_1:Int):=bD_
            have q229:a1_1 < (t221.length:Int):=bD_
            obtain⟨ad229,e229,hx229_0⟩:=Kd.at_int (Kd.R_reads' HO223.out).2.2 a1_1 p229 q229
            obtain rfl:(⟨go45,0,none⟩:Addr)=ad229:=(by injection e229)
            (first|simp only[add_plain] at hx229_0|simp only[add_at] at hx229_0|simp only[Addr.add,Nat.zero_add] at hx229_0|skip)
            replace p229:=eq_true p229
            replace q229:=eq_true q229
            have p230:0≤(a1_0:Int):=bD_
            have q230:a1_0 < (t221.length:Int):=bD_
            obtain⟨ad230,e230,hx230_0⟩:=Kd.at_int (Kd.R_reads' HO223.out).2.2 a1_0 p230 q230
            obtain rfl:(⟨go45,0,none⟩:Addr)=ad230:=(by injection e230)
            (first|simp only[add_plain] at hx230_0|simp only[add_at] at hx230_0|simp only[Addr.add,Nat.zero_add] at hx230_0|skip)
            replace p230:=eq_true p230
            replace q230:=eq_true q230
            have p115:0≤(a1_1:Int):=bD_
            have q115:(a1_1:Int) < ((t221.length:Int):Int):=bD_
            obtain⟨hx115_0,hf115_0⟩:=Kd.R_celln 0 HO223.out (a1_1:Int) p115 q115
            replace hx115_0:=(show _=some (Value.int .i64 (rd t221 a1_1)) from hx115_0)
            replace p115:=eq_true p115
            replace q115:=eq_true q115
            obtain⟨hy128_,hz128_⟩:=Kd.R_celln 0 HO223.out (a1_1:Int) (bD_) (bD_)
            have HP128:=Kd.R_putg HO223.out (a1_1:Int) (wrap64 (Int.tdiv (rd t221 a1_0) 2))
            try go_wp2_with (first|((with_reducible refine gate_store (t:=3) (p:=95) rfl ?_);refine store_event (t:=3) (p:=95) (v:=?vo_w129) (w1:=(w124.setCell ⟨go45,(a1_1:Int).toNat,none⟩ (.int .i64 (wrap64 (Int.tdiv (rd t221 a1_0) 2))))) ?hg ?ho ?hn ?hr ?_;(case ho=>rfl);(case hg=>rfl);(case hn=>rfl);(case hr=>first|(go_simp;done)|(go_simp;rfl));intro w129 hw;have hg:w124.grownBy w129 (some go45):=(by rw[hw];exact HP128.2);have hp_:Kd.R (Kd.int .i64) 3 w129 w.heap.size (fun _=>True) (.slice (some ⟨go45,0,none⟩) t221.length co121) y231:=(by rw[hw,Ny231.out];exact HP128.1);clear HP128;have n0_:=am (blk_grown (g:=gb215) (o:=.cells #[.slice (some ⟨go45,0,none⟩) t221.length co121,.int .i64 a0_1,.bool a0_2] 62 (0,0)) (bL BK215.out) hg (Kd.R_ne HO223.out BK215.out (b17_)));have n1_:=am (blk_grown (g:=gb216) (o:=.cells #[.int .i64 a1_0,.int .i64 a1_1] 72 (0,0)) (bL BK216.out) hg (Kd.R_ne HO223.out BK216.out (b17_)));have n2_:=am (blk_grown (g:=gb217) (o:=.cells #[.slice none 0 0,.int .i64 0,.bool false] 62 (0,0)) (bL BK217.out) hg (Kd.R_ne HO223.out BK217.out (b17_)));have n3_:=am (hp_);have n4_:=am ((by rw[hw];exact below_set (HB.out) GB45.out:Below w.heap.size w w129));clear BK215 BK216 BK217 HO223 HB;have BK215:=n0_;have BK216:=n1_;have BK217:=n2_;have HO223:=n3_;have HB:=n4_;clear n0_ n1_ n2_ n3_ n4_;clear hg hw hp_))
            (try (rw[drewN_self w129];generalize hq_:World.drewN w129 _=w129;have n0_:=am (Kd.R_at hq_ HO223.out);have n1_:=am (blk_at hq_ BK215.out);have n2_:=am (blk_at hq_ BK216.out);have n3_:=am (blk_at hq_ BK217.out);have n4_:=am (below_at hq_ HB.out);clear hq_ HO223 BK215 BK216 BK217 HB;have HO223:=n0_;have BK215:=n1_;have BK216:=n2_;have BK217:=n3_;have HB:=n4_;clear n0_ n1_ n2_ n3_ n4_))
            have n0_:=am (Kd.R_drew HO223.out)
            have n1_:=am (blk_drew BK215.out)
            have n2_:=am (blk_drew BK216.out)
            have n3_:=am (blk_drew BK217.out)
            have n4_:=am (below_drew1 HB.out)
            clear HO223 BK215 BK216 BK217 HB
            have HO223:=n0_
            have BK215:=n1_
            have BK216:=n2_
            have BK217:=n3_
            have HB:=n4_
            clear n0_ n1_ n2_ n3_ n4_
            have p232:0≤(a1_0:Int):=bD_
            have q232:a1_0 < (y231.length:Int):=(by have h_:(a1_0:Int) < ((t221.length:Int):Int):=bD_;first|(have e_:=(Kd.R_reads' HO223.out).1;omega)|simpa only[Ny231.out,List.length_set] using h_)
            have ql232:((a1_0:Int) < ((t221.length:Int):Int))=True:=eq_true (bD_)
            obtain⟨ad232,e232,hx232_0⟩:=Kd.at_int (Kd.R_reads' HO223.out).2.2 a1_0 p232 q232
            obtain rfl:(⟨go45,0,none⟩:Addr)=ad232:=(by injection e232)
            (first|simp only[add_plain] at hx232_0|simp only[add_at] at hx232_0|simp only[Addr.add,Nat.zero_add] at hx232_0|skip)
            replace p232:=eq_true p232
            replace q232:=eq_true q232
            have p233:0≤(a1_1:Int):=bD_
            have q233:a1_1 < (y231.length:Int):=(by have h_:(a1_1:Int) < ((t221.length:Int):Int):=bD_;first|(have e_:=(Kd.R_reads' HO223.out).1;omega)|simpa only[Ny231.out,List.length_set] using h_)
            have ql233:((a1_1:Int) < ((t221.length:Int):Int))=True:=eq_true (bD_)
            obtain⟨ad233,e233,hx233_0⟩:=Kd.at_int (Kd.R_reads' HO223.out).2.2 a1_1 p233 q233
            obtain rfl:(⟨go45,0,none⟩:Addr)=ad233:=(by injection e233)
            (first|simp only[add_plain] at hx233_0|simp only[add_at] at hx233_0|simp only[Addr.add,Nat.zero_add] at hx233_0|skip)
            replace p233:=eq_true p233
            replace q233:=eq_true q233
            have p116:0≤(a1_0:Int):=bD_
            have q116:(a1_0:Int) < ((t221.length:Int):Int):=bD_
            obtain⟨hx116_0,hf116_0⟩:=Kd.R_celln 0 HO223.out (a1_0:Int) p116 q116
            replace hx116_0:=(show _=some (Value.int .i64 (rd y231 a1_0)) from hx116_0)
            replace p116:=eq_true p116
            replace q116:=eq_true q116
            have HP131:=Kd.R_putn HO223.out (a1_0:Int) (wrap64 ((rd y231 a1_0) - (rd y231 a1_1)))
            rw[← Ny234.out] at HP131
            have HQ131:=am HP131
            clear HP131
            refine start_ (n:=9) (S:=fun w'=>w'.cell? ⟨go45,(a1_0).toNat,none⟩=some (.int .i64 (rd y231 a1_0))∧w'.cell? ⟨go45,(a1_1).toNat,none⟩=some (.int .i64 (rd y231 a1_1))) (ds:=[8]) #[false,false,false,false,false,false,false,false,false] (b4_) rfl rfl ⟨hx232_0,hx233_0⟩ (fun hHeld => ?_);refine with_tabW impl_MeetBoth.tab9 impl_MeetBoth.bits9 (fun HT_ HW_ => ?_)
            generalize w129.drew=w130 at HO223 BK215 BK216 BK217 HB HQ131 hf116_0 hx116_0 hx232_0 hx233_0 hHeld ⊢
            refine pure_ (i:=0) (N:=some 96) (v:=?_) (a':=?_) #[true,false,false,false,false,false,false,false,false] rfl rfl (any_of HT_.out (b4_)) (fun _ _ _ h=>h) (Or.inl ⟨by rfl,?_⟩) ?_ ?_
            rotate_left
            ·intro w'
             go_simp
             with_reducible rfl
            rotate_left
            ·simp only[Act.put,zA,zB,zC,i64_w,i32_w]
             rfl
            refine pure_ (i:=1) (N:=some 97) (v:=?_) (a':=?_) #[true,true,false,false,false,false,false,false,false] rfl rfl (any_of HT_.out (b4_)) (fun _ _ _ h=>h) (Or.inl ⟨by rfl,?_⟩) ?_ ?_
            rotate_left
            ·intro w'
             go_simp
             with_reducible rfl
            rotate_left
            ·simp only[Act.put,zA,zB,zC,i64_w,i32_w]
             rfl
            refine pure_ (i:=3) (N:=some 99) (v:=?_) (a':=?_) #[true,true,false,true,false,false,false,false,false] rfl rfl (any_of HT_.out (b4_)) (fun _ _ _ h=>h) (Or.inl ⟨by rfl,?_⟩) ?_ ?_
            rotate_left
            ·intro w'
             go_simp
             with_reducible rfl
            rotate_left
            ·simp only[Act.put,zA,zB,zC,i64_w,i32_w]
             rfl
            refine pure_ (i:=4) (N:=some 100) (v:=?_) (a':=?_) #[true,true,false,true,true,false,false,false,false] rfl rfl (any_of HT_.out (b4_)) (fun _ _ _ h=>h) (Or.inl ⟨by rfl,?_⟩) ?_ ?_
            rotate_left
            ·intro w'
             go_simp
             with_reducible rfl
            rotate_left
            ·simp only[Act.put,zA,zB,zC,i64_w,i32_w]
             rfl
            refine take_ (i:=2) (N:=some 98) (v:=?_) (a':=?_) #[true,true,true,true,true,false,false,false,false] rfl rfl (take_ofW HT_.out HW_.out (b4_)) (fun _ _ _ h=>h) (Or.inl ⟨by rfl,?_⟩) hHeld ?_ ?_
            rotate_left
            ·rintro w' ⟨s0,s1⟩
             go_simp
             with_reducible rfl
            rotate_left
            ·simp only[Act.put,zA,zB,zC,i64_w,i32_w]
             rfl
            refine take_ (i:=5) (N:=some 101) (v:=?_) (a':=?_) #[true,true,true,true,true,true,false,false,false] rfl rfl (take_ofW HT_.out HW_.out (b4_)) (fun _ _ _ h=>h) (Or.inl ⟨by rfl,?_⟩) hHeld ?_ ?_
            rotate_left
            ·rintro w' ⟨s0,s1⟩
             go_simp
             with_reducible rfl
            rotate_left
            ·simp only[Act.put,zA,zB,zC,i64_w,i32_w]
             rfl
            refine pure_ (i:=6) (N:=some 102) (v:=?_) (a':=?_) #[true,true,true,true,true,true,true,false,false] rfl rfl (any_of HT_.out (b4_)) (fun _ _ _ h=>h) (Or.inl ⟨by rfl,?_⟩) ?_ ?_
            rotate_left
            ·intro w'
             go_simp
             with_reducible rfl
            rotate_left
            ·simp only[Act.put,zA,zB,zC,i64_w,i32_w]
             rfl
            refine pure_ (i:=7) (N:=some 103) (v:=?_) (a':=?_) #[true,true,true,true,true,true,true,true,false] rfl rfl (any_of HT_.out (b4_)) (fun _ _ _ h=>h) (Or.inl ⟨by rfl,?_⟩) ?_ ?_
            rotate_left
            ·intro w'
             go_simp
             with_reducible rfl
            rotate_left
            ·simp only[Act.put,zA,zB,zC,i64_w,i32_w]
             rfl
            refine last_ (i:=8) (N:=none) #[true,true,true,true,true,true,true,true,true] rfl rfl (one_of HT_.out (b4_)) (b17_) (fun K hK => ?_)
            refine skip_ (w1:=?_) (by rfl) rfl ?_ ?_
            rotate_left
            ·go_simp
             rfl
            refine hK.out _ _ ?_
            clear hK K
            refine done_ (done_of HT_.out (b4_)) ?_
            have n0_:Aside0 (Kd.R (Kd.int .i64) 3 (w130.setCell ⟨go45,(a1_0:Int).toNat,none⟩ (.int .i64 (wrap64 ((rd y231 a1_0) - (rd y231 a1_1))))) w.heap.size (fun _=>True) (.slice (some ⟨go45,0,none⟩) t221.length co121) y234):=⟨by(with_reducible repeat (first|apply Kd.R_alloc|apply Kd.R_drewN|apply Kd.R_drew));exact HQ131.out⟩
            have n1_:Aside0 ((w130.setCell ⟨go45,(a1_0:Int).toNat,none⟩ (.int .i64 (wrap64 ((rd y231 a1_0) - (rd y231 a1_1))))).heap[gb215]?=some (.cells #[.slice (some ⟨go45,0,none⟩) t221.length co121,.int .i64 a0_1,.bool a0_2] 62 (0,0))):=⟨by(with_reducible repeat (first|refine blk_drewN ?_ _|refine blk_drew ?_|refine blk_alloc ?_ _));refine blk_far ?_ (by have h_:=Kd.R_ne HO223.out BK215.out (b17_);intro e_;exact h_ (by rw[e_];rfl)) _;(with_reducible repeat (first|refine blk_drewN ?_ _|refine blk_drew ?_|refine blk_alloc ?_ _));exact BK215.out⟩
            have n2_:Aside0 ((w130.setCell ⟨go45,(a1_0:Int).toNat,none⟩ (.int .i64 (wrap64 ((rd y231 a1_0) - (rd y231 a1_1))))).heap[gb216]?=some (.cells #[.int .i64 a1_0,.int .i64 a1_1] 72 (0,0))):=⟨by(with_reducible repeat (first|refine blk_drewN ?_ _|refine blk_drew ?_|refine blk_alloc ?_ _));refine blk_far ?_ (by have h_:=Kd.R_ne HO223.out BK216.out (b17_);intro e_;exact h_ (by rw[e_];rfl)) _;(with_reducible repeat (first|refine blk_drewN ?_ _|refine blk_drew ?_|refine blk_alloc ?_ _));exact BK216.out⟩
            have n3_:Aside0 ((w130.setCell ⟨go45,(a1_0:Int).toNat,none⟩ (.int .i64 (wrap64 ((rd y231 a1_0) - (rd y231 a1_1))))).heap[gb217]?=some (.cells #[.slice none 0 0,.int .i64 0,.bool false] 62 (0,0))):=⟨by(with_reducible repeat (first|refine blk_drewN ?_ _|refine blk_drew ?_|refine blk_alloc ?_ _));refine blk_far ?_ (by have h_:=Kd.R_ne HO223.out BK217.out (b17_);intro e_;exact h_ (by rw[e_];rfl)) _;(with_reducible repeat (first|refine blk_drewN ?_ _|refine blk_drew ?_|refine blk_alloc ?_ _));exact BK217.out⟩
            have n4_:Aside0 (Below w.heap.size w (w130.setCell ⟨go45,(a1_0:Int).toNat,none⟩ (.int .i64 (wrap64 ((rd y231 a1_0) - (rd y231 a1_1)))))):=⟨bS4 GB45.out GE215.out GE216.out GE217.out⟩
            (try clear HO223)
            (try clear BK215)
            (try clear BK216)
            (try clear BK217)
            (try clear HB)
            generalize (w130.setCell ⟨go45,(a1_0:Int).toNat,none⟩ (.int .i64 (wrap64 ((rd y231 a1_0) - (rd y231 a1_1)))))=w132 at n0_ n1_ n2_ n3_ n4_ ⊢
            have HO223:=n0_
            have BK215:=n1_
            have BK216:=n2_
            have BK217:=n3_
            have HB:=n4_
            clear n0_ n1_ n2_ n3_ n4_
            obtain⟨hcz133_0,hcz133_1,hcz133_2⟩:=cC3 BK215.out
            obtain⟨hfz133_0,hfz133_1,hfz133_2⟩:=cF3 BK215.out
            obtain⟨hcz134_0,hcz134_1,hcz134_2⟩:=cC3 BK217.out
            obtain⟨hfz134_0,hfz134_1,hfz134_2⟩:=cF3 BK217.out
            try go_wp2
            refine bodyPost_ret (results_ct rfl _ _ gb217 62 #[.slice (some ⟨go45,0,none⟩) t221.length co121,.int .i64 a0_1,.bool a0_2] (0,0) _ rfl (by(with_reducible repeat (first|refine blk_drewN ?_ _|refine blk_drew ?_|refine blk_alloc ?_ _));apply bU3;(with_reducible repeat (first|refine blk_drewN ?_ _|refine blk_drew ?_|refine blk_alloc ?_ _));exact BK217.out) Try.underlying62 rfl (b4_)) rfl ?_
            exact⟨_,by first|rfl|(simp[errW_none,errW_some]<;>rfl)|(simp[*,errW_none,errW_some]<;>rfl),by(with_reducible repeat (first|apply Kd.R_alloc|apply Kd.R_drewN|apply Kd.R_drew));exact Kd.R_mono (Kd.R_far (p:=⟨gb217,2,none⟩) (Kd.R_far (p:=⟨gb217,1,none⟩) (Kd.R_far (p:=⟨gb217,0,none⟩) (Kd.R_types HO223.out BK217.out (b17_)) (fun _ hk=>hk.2) (.slice (some ⟨go45,0,none⟩) t221.length co121)) (fun _ hk=>hk.2) (.int .i64 a0_1)) (fun _ hk=>hk.2) (.bool a0_2)) (fun _ hk=>trivial),bS3 GE215.out GE216.out GE217.out⟩
           ·rw[if_neg c114] at H
            have c114b0:((rd t221 a1_1) == 0)=false:=beq_eq_false_iff_ne.mpr c114
            have c114b1:((rd t221 a1_1) != 0)=true:=bne_iff_ne.mpr c114
            by_cases c135:(rd t221 a1_1) ≥ 2
            ·rw[if_pos c135] at H
             have c135b0:decide (2≤(rd t221 a1_1))=true:=decide_eq_true c135
             clear c135
             by_cases c136:(rd t221 a1_0)=0
             ·rw[if_pos c136] at H
              have c136b0:((rd t221 a1_0) == 0)=true:=beq_iff_eq.mpr c136
              have c136b1:((rd t221 a1_0) != 0)=false:=bne_eq_false_iff_eq.mpr c136
              clear c136
              obtain⟨y238,hy238⟩ : ∃ y_:List Int,y_=(t221.set (a1_0:Int).toNat (wrap64 (Int.tdiv (rd t221 a1_1) 2))):=⟨_,rfl⟩
              replace H:(some ((y238.set (a1_1:Int).toNat (wrap64 ((rd y238 a1_1) - (rd y238 a1_0)))),a0_1,a0_2,true))=some (r1,r2,r3,r4):=by first|(rw[hy238];with_reducible exact H)|(have H2_:=(Option.bind_some _ _).symm.trans H;rw[hy238];with_reducible exact H2_)|(have H2_:=(Option.bind_some _ _).symm.trans H;with_reducible exact H2_)|with_reducible exact H|(rw[hy238];exact H)|exact H
              have Ny238:=am hy238
              clear hy238
              obtain⟨y241,hy241⟩ : ∃ y_:List Int,y_=(y238.set (a1_1:Int).toNat (wrap64 ((rd y238 a1_1) - (rd y238 a1_0)))):=⟨_,rfl⟩
              replace H:(some (y241,a0_1,a0_2,true))=some (r1,r2,r3,r4):=by first|(rw[hy241];with_reducible exact H)|(have H2_:=(Option.bind_some _ _).symm.trans H;rw[hy241];with_reducible exact H2_)|(have H2_:=(Option.bind_some _ _).symm.trans H;with_reducible exact H2_)|with_reducible exact H|(rw[hy241];exact H)|exact H
              have Ny241:=am hy241
              clear hy241
              simp only[Option.some.injEq,Prod.mk.injEq] at H
              obtain⟨rfl,rfl,rfl,rfl⟩:=H
              have hnb139:=NB215_216.out
              have hnc139:=NB216_215.out
              have hnb140:=NB215_217.out
              have hnc140:=NB217_215.out
              obtain⟨hcz141_0,hcz141_1,hcz141_2⟩:=cC3 BK215.out
              obtain⟨hfz141_0,hfz141_1,hfz141_2⟩:=cF3 BK215.out
              try go_wp2_with (first|((with_reducible refine gate_callee (f:=98) rfl ?_);refine goesA (some 41) rfl rfl Try.func98 #[.slice A0_0 l0_0.length c0_0] rfl ?_;(with_reducible refine(slices_Clone_int_int.calls _ _ l0_0 t221 _ ?side1 ?side2 A42.out).mono ?_);(case side1=>exact bC HR0_0.out);(case side2=>exact HC0_0.out);rintro e w142 ⟨v222,rfl,ho0,hb⟩;refine⟨_,rfl,?_⟩;have n0_:=am (Kd.R_lower ho0 (below_size (bS3 GE215.out GE216.out GE217.out)));have n1_:=am (bM BK215.out hb);have n2_:=am (bM BK216.out hb);have n3_:=am (bM BK217.out hb);have n4_:=am (below_step (bS3 GE215.out GE216.out GE217.out) hb);clear BK215 BK216 BK217 HB;have HO223:=n0_;have BK215:=n1_;have BK216:=n2_;have BK217:=n3_;have HB:=n4_;clear n0_ n1_ n2_ n3_ n4_;(try clear hb);(try clear hb2);(try clear hk);(try clear hi);(try clear ho0);obtain⟨Ao143,co143,eo143⟩:=Kd.R_slice HO223.out;subst eo143;obtain⟨hcz144_0,hcz144_1,hcz144_2⟩:=cC3 BK215.out;obtain⟨hfz144_0,hfz144_1,hfz144_2⟩:=cF3 BK215.out))
              have n0_:Aside0 (Kd.R (Kd.int .i64) 3 (w142.setCell ⟨gb215,0,none⟩ (.slice Ao143 t221.length co143)) w.heap.size (fun _=>True) (.slice Ao143 t221.length co143) t221):=⟨by(with_reducible repeat (first|apply Kd.R_alloc|apply Kd.R_drewN|apply Kd.R_drew));exact Kd.R_mono (Kd.R_far (p:=⟨gb215,0,none⟩) (Kd.R_types HO223.out BK215.out (b17_)) (fun _ hk=>hk.2) (.slice Ao143 t221.length co143)) (fun _ hk=>trivial)⟩
              have n1_:Aside0 ((w142.setCell ⟨gb215,0,none⟩ (.slice Ao143 t221.length co143)).heap[gb215]?=some (.cells #[.slice Ao143 t221.length co143,.int .i64 a0_1,.bool a0_2] 62 (0,0))):=⟨by(with_reducible repeat (first|refine blk_drewN ?_ _|refine blk_drew ?_|refine blk_alloc ?_ _));refine blk_put (cs:=#[.slice A0_0 l0_0.length c0_0,.int .i64 a0_1,.bool a0_2]) ?_ 0 _ rfl;(with_reducible repeat (first|refine blk_drewN ?_ _|refine blk_drew ?_|refine blk_alloc ?_ _));exact BK215.out⟩
              have n2_:Aside0 ((w142.setCell ⟨gb215,0,none⟩ (.slice Ao143 t221.length co143)).heap[gb216]?=some (.cells #[.int .i64 a1_0,.int .i64 a1_1] 72 (0,0))):=⟨by(with_reducible repeat (first|refine blk_drewN ?_ _|refine blk_drew ?_|refine blk_alloc ?_ _));refine blk_far ?_ NB216_215.out _;(with_reducible repeat (first|refine blk_drewN ?_ _|refine blk_drew ?_|refine blk_alloc ?_ _));exact BK216.out⟩
              have n3_:Aside0 ((w142.setCell ⟨gb215,0,none⟩ (.slice Ao143 t221.length co143)).heap[gb217]?=some (.cells #[.slice none 0 0,.int .i64 0,.bool false] 62 (0,0))):=⟨by(with_reducible repeat (first|refine blk_drewN ?_ _|refine blk_drew ?_|refine blk_alloc ?_ _));refine blk_far ?_ NB217_215.out _;(with_reducible repeat (first|refine blk_drewN ?_ _|refine blk_drew ?_|refine blk_alloc ?_ _));exact BK217.out⟩
              have n4_:Aside0 (Below w.heap.size w (w142.setCell ⟨gb215,0,none⟩ (.slice Ao143 t221.length co143))):=⟨bS3 GE215.out GE216.out GE217.out⟩
              (try clear HO223)
              (try clear BK215)
              (try clear BK216)
              (try clear BK217)
              (try clear HB)
              generalize (w142.setCell ⟨gb215,0,none⟩ (.slice Ao143 t221.length co143))=w145 at n0_ n1_ n2_ n3_ n4_ ⊢
              have HO223:=n0_
              have BK215:=n1_
              have BK216:=n2_
              have BK217:=n3_
              have HB:=n4_
              clear n0_ n1_ n2_ n3_ n4_
              (try (rw[drewN_self w145];generalize hq_:World.drewN w145 _=w145;have n0_:=am (Kd.R_at hq_ HO223.out);have n1_:=am (blk_at hq_ BK215.out);have n2_:=am (blk_at hq_ BK216.out);have n3_:=am (blk_at hq_ BK217.out);have n4_:=am (below_at hq_ HB.out);clear hq_ HO223 BK215 BK216 BK217 HB;have HO223:=n0_;have BK215:=n1_;have BK216:=n2_;have BK217:=n3_;have HB:=n4_;clear n0_ n1_ n2_ n3_ n4_))
              have n0_:=am (Kd.R_drew HO223.out)
              have n1_:=am (blk_drew BK215.out)
              have n2_:=am (blk_drew BK216.out)
              have n3_:=am (blk_drew BK217.out)
              have n4_:=am (below_drew1 HB.out)
              clear HO223 BK215 BK216 BK217 HB
              have HO223:=n0_
              have BK215:=n1_
              have BK216:=n2_
              have BK217:=n3_
              have HB:=n4_
              clear n0_ n1_ n2_ n3_ n4_
              have p45:0≤(a1_0:Int):=bD_
              have q45:(a1_0:Int) < ((t221.length:Int):Int):=bD_
              obtain⟨go45,co45,eo45,gb45,gl45,cl45,HG45⟩:=Kd.R_form HO223.out (by omega)
              (first|cases eo45|(injection eo45 with ea_ en_ ec_;(first|subst ea_|(injection ea_ with ea_;subst ea_));subst ec_;clear en_))
              have GB45:=am gb45
              have GG45:=am HG45
              clear gb45 gl45 HG45
              obtain⟨hx45_0,hf45_0⟩:=Kd.R_celln 0 HO223.out (a1_0:Int) p45 q45
              replace hx45_0:=(show _=some (Value.int .i64 (rd t221 a1_0)) from hx45_0)
              replace p45:=eq_true p45
              replace q45:=eq_true q45
              have p48:0≤(a1_1:Int):=bD_
              have q48:(a1_1:Int) < ((t221.length:Int):Int):=bD_
              obtain⟨hx48_0,hf48_0⟩:=Kd.R_celln 0 HO223.out (a1_1:Int) p48 q48
              replace hx48_0:=(show _=some (Value.int .i64 (rd t221 a1_1)) from hx48_0)
              replace p48:=eq_true p48
              replace q48:=eq_true q48
              refine start_ (n:=12) (S:=fun w'=>w'.cell? ⟨gb215,0,none⟩=some (.slice (some ⟨go45,0,none⟩) t221.length co143)∧w'.cell? ⟨gb215,1,none⟩=some (.int .i64 a0_1)∧w'.cell? ⟨gb215,2,none⟩=some (.bool a0_2)∧w'.cell? ⟨gb216,0,none⟩=some (.int .i64 a1_0)∧w'.cell? ⟨gb216,1,none⟩=some (.int .i64 a1_1)) (ds:=[]) #[false,false,false,false,false,false,false,false,false,false,false,false] (b4_) rfl rfl ⟨(blk_cell BK215.out 0).trans rfl,(blk_cell BK215.out 1).trans rfl,(blk_cell BK215.out 2).trans rfl,(blk_cell BK216.out 0).trans rfl,(blk_cell BK216.out 1).trans rfl⟩ (fun hHeld => ?_);refine with_tabW impl_MeetBoth.tab4 impl_MeetBoth.bits4 (fun HT_ HW_ => ?_)
              generalize w145.drew=w146 at HO223 BK215 BK216 BK217 HB GG45 hf45_0 hf48_0 hx45_0 hx48_0 hHeld ⊢
              refine pure_ (i:=0) (N:=some 43) (v:=?_) (a':=?_) #[true,false,false,false,false,false,false,false,false,false,false,false] rfl rfl (any_of HT_.out (b4_)) (fun _ _ _ h=>h) (Or.inl ⟨by rfl,?_⟩) ?_ ?_
              rotate_left
              ·intro w'
               go_simp
               with_reducible rfl
              rotate_left
              ·simp only[Act.put,zA,zB,zC,i64_w,i32_w]
               rfl
              refine pure_ (i:=2) (N:=some 45) (v:=?_) (a':=?_) #[true,false,true,false,false,false,false,false,false,false,false,false] rfl rfl (any_of HT_.out (b4_)) (fun _ _ _ h=>h) (Or.inl ⟨by rfl,?_⟩) ?_ ?_
              rotate_left
              ·intro w'
               go_simp
               with_reducible rfl
              rotate_left
              ·simp only[Act.put,zA,zB,zC,i64_w,i32_w]
               rfl
              refine pure_ (i:=5) (N:=some 48) (v:=?_) (a':=?_) #[true,false,true,false,false,true,false,false,false,false,false,false] rfl rfl (any_of HT_.out (b4_)) (fun _ _ _ h=>h) (Or.inl ⟨by rfl,?_⟩) ?_ ?_
              rotate_left
              ·intro w'
               go_simp
               with_reducible rfl
              rotate_left
              ·simp only[Act.put,zA,zB,zC,i64_w,i32_w]
               rfl
              refine pure_ (i:=7) (N:=some 50) (v:=?_) (a':=?_) #[true,false,true,false,false,true,false,true,false,false,false,false] rfl rfl (any_of HT_.out (b4_)) (fun _ _ _ h=>h) (Or.inl ⟨by rfl,?_⟩) ?_ ?_
              rotate_left
              ·intro w'
               go_simp
               with_reducible rfl
              rotate_left
              ·simp only[Act.put,zA,zB,zC,i64_w,i32_w]
               rfl
              refine take_ (i:=1) (N:=some 44) (v:=?_) (a':=?_) #[true,true,true,false,false,true,false,true,false,false,false,false] rfl rfl (take_ofW HT_.out HW_.out (b4_)) (fun _ _ _ h=>h) (Or.inl ⟨by rfl,?_⟩) hHeld ?_ ?_
              rotate_left
              ·rintro w' ⟨s0,s1,s2,s3,s4⟩
               go_simp
               with_reducible rfl
              rotate_left
              ·simp only[Act.put,zA,zB,zC,i64_w,i32_w]
               rfl
              refine take_ (i:=3) (N:=some 46) (v:=?_) (a':=?_) #[true,true,true,true,false,true,false,true,false,false,false,false] rfl rfl (take_ofW HT_.out HW_.out (b4_)) (fun _ _ _ h=>h) (Or.inl ⟨by rfl,?_⟩) hHeld ?_ ?_
              rotate_left
              ·rintro w' ⟨s0,s1,s2,s3,s4⟩
               go_simp
               with_reducible rfl
              rotate_left
              ·simp only[Act.put,zA,zB,zC,i64_w,i32_w]
               rfl
              refine pure_ (i:=4) (N:=some 47) (v:=?_) (a':=?_) #[true,true,true,true,true,true,false,true,false,false,false,false] rfl rfl (any_of HT_.out (b4_)) (fun _ _ _ h=>h) (Or.inl ⟨by rfl,?_⟩) ?_ ?_
              rotate_left
              ·intro w'
               go_simp
               with_reducible rfl
              rotate_left
              ·simp only[Act.put,zA,zB,zC,i64_w,i32_w]
               rfl
              refine pure_ (i:=10) (N:=some 6) (v:=?_) (a':=?_) #[true,true,true,true,true,true,false,true,false,false,true,false] rfl rfl (any_of HT_.out (b4_)) (fun _ _ _ h=>h) (Or.inl ⟨by rfl,?_⟩) ?_ ?_
              rotate_left
              ·intro w'
               go_simp
               with_reducible rfl
              rotate_left
              ·simp only[Act.put,zA,zB,zC,i64_w,i32_w]
               rfl
              refine take_ (i:=6) (N:=some 49) (v:=?_) (a':=?_) #[true,true,true,true,true,true,true,true,false,false,true,false] rfl rfl (take_ofW HT_.out HW_.out (b4_)) (fun _ _ _ h=>h) (Or.inl ⟨by rfl,?_⟩) hHeld ?_ ?_
              rotate_left
              ·rintro w' ⟨s0,s1,s2,s3,s4⟩
               go_simp
               with_reducible rfl
              rotate_left
              ·simp only[Act.put,zA,zB,zC,i64_w,i32_w]
               rfl
              refine take_ (i:=8) (N:=some 51) (v:=?_) (a':=?_) #[true,true,true,true,true,true,true,true,true,false,true,false] rfl rfl (take_ofW HT_.out HW_.out (b4_)) (fun _ _ _ h=>h) (Or.inl ⟨by rfl,?_⟩) hHeld ?_ ?_
              rotate_left
              ·rintro w' ⟨s0,s1,s2,s3,s4⟩
               go_simp
               with_reducible rfl
              rotate_left
              ·simp only[Act.put,zA,zB,zC,i64_w,i32_w]
               rfl
              refine pure_ (i:=9) (N:=some 52) (v:=?_) (a':=?_) #[true,true,true,true,true,true,true,true,true,true,true,false] rfl rfl (any_of HT_.out (b4_)) (fun _ _ _ h=>h) (Or.inl ⟨by rfl,?_⟩) ?_ ?_
              rotate_left
              ·intro w'
               go_simp
               with_reducible rfl
              rotate_left
              ·simp only[Act.put,zA,zB,zC,i64_w,i32_w]
               rfl
              refine pure_ (i:=11) (N:=some 7) (v:=?_) (a':=?_) #[true,true,true,true,true,true,true,true,true,true,true,true] rfl rfl (any_of HT_.out (b4_)) (fun _ _ _ h=>h) (Or.inl ⟨by rfl,?_⟩) ?_ ?_
              rotate_left
              ·intro w'
               go_simp
               with_reducible rfl
              rotate_left
              ·simp only[Act.put,zA,zB,zC,i64_w,i32_w]
               rfl
              refine done_ (done_of HT_.out (b4_)) ?_
              have hnb147:=NB216_217.out
              have hnc147:=NB217_216.out
              obtain⟨hcz148_0,hcz148_1⟩:=cC2 BK216.out
              obtain⟨hfz148_0,hfz148_1⟩:=cF2 BK216.out
              obtain⟨hcz149_0,hcz149_1,hcz149_2⟩:=cC3 BK215.out
              obtain⟨hfz149_0,hfz149_1,hfz149_2⟩:=cF3 BK215.out
              have p228:0≤(a1_0:Int):=bD_
              have q228:a1_0 < (t221.length:Int):=bD_
              obtain⟨ad228,e228,hx228_0⟩:=Kd.at_int (Kd.R_reads' HO223.out).2.2 a1_0 p228 q228
              obtain rfl:(⟨go45,0,none⟩:Addr)=ad228:=(by injection e228)
              (first|simp only[add_plain] at hx228_0|simp only[add_at] at hx228_0|simp only[Addr.add,Nat.zero_add] at hx228_0|skip)
              replace p228:=eq_true p228
              replace q228:=eq_true q228
              have p229:0≤(a1_1:Int):=bD_
              have q229:a1_1 < (t221.length:Int):=bD_
              obtain⟨ad229,e229,hx229_0⟩:=Kd.at_int (Kd.R_reads' HO223.out).2.2 a1_1 p229 q229
              obtain rfl:(⟨go45,0,none⟩:Addr)=ad229:=(by injection e229)
              (first|simp only[add_plain] at hx229_0|simp only[add_at] at hx229_0|simp only[Addr.add,Nat.zero_add] at hx229_0|skip)
              replace p229:=eq_true p229
              replace q229:=eq_true q229
              have p235:0≤(a1_1:Int):=bD_
              have q235:a1_1 < (t221.length:Int):=bD_
              obtain⟨ad235,e235,hx235_0⟩:=Kd.at_int (Kd.R_reads' HO223.out).2.2 a1_1 p235 q235
              obtain rfl:(⟨go45,0,none⟩:Addr)=ad235:=(by injection e235)
              (first|simp only[add_plain] at hx235_0|simp only[add_at] at hx235_0|simp only[Addr.add,Nat.zero_add] at hx235_0|skip)
              replace p235:=eq_true p235
              replace q235:=eq_true q235
              have p236:0≤(a1_0:Int):=bD_
              have q236:a1_0 < (t221.length:Int):=bD_
              obtain⟨ad236,e236,hx236_0⟩:=Kd.at_int (Kd.R_reads' HO223.out).2.2 a1_0 p236 q236
              obtain rfl:(⟨go45,0,none⟩:Addr)=ad236:=(by injection e236)
              (first|simp only[add_plain] at hx236_0|simp only[add_at] at hx236_0|simp only[Addr.add,Nat.zero_add] at hx236_0|skip)
              replace p236:=eq_true p236
              replace q236:=eq_true q236
              have p237:0≤(a1_1:Int):=bD_
              have q237:a1_1 < (t221.length:Int):=bD_
              obtain⟨ad237,e237,hx237_0⟩:=Kd.at_int (Kd.R_reads' HO223.out).2.2 a1_1 p237 q237
              obtain rfl:(⟨go45,0,none⟩:Addr)=ad237:=(by injection e237)
              (first|simp only[add_plain] at hx237_0|simp only[add_at] at hx237_0|simp only[Addr.add,Nat.zero_add] at hx237_0|skip)
              replace p237:=eq_true p237
              replace q237:=eq_true q237
              have p137:0≤(a1_0:Int):=bD_
              have q137:(a1_0:Int) < ((t221.length:Int):Int):=bD_
              obtain⟨hx137_0,hf137_0⟩:=Kd.R_celln 0 HO223.out (a1_0:Int) p137 q137
              replace hx137_0:=(show _=some (Value.int .i64 (rd t221 a1_0)) from hx137_0)
              replace p137:=eq_true p137
              replace q137:=eq_true q137
              obtain⟨hy150_,hz150_⟩:=Kd.R_celln 0 HO223.out (a1_0:Int) (bD_) (bD_)
              have HP150:=Kd.R_putg HO223.out (a1_0:Int) (wrap64 (Int.tdiv (rd t221 a1_1) 2))
              try go_wp2_with (first|((with_reducible refine gate_store (t:=3) (p:=120) rfl ?_);refine store_event (t:=3) (p:=120) (v:=?vo_w151) (w1:=(w146.setCell ⟨go45,(a1_0:Int).toNat,none⟩ (.int .i64 (wrap64 (Int.tdiv (rd t221 a1_1) 2))))) ?hg ?ho ?hn ?hr ?_;(case ho=>rfl);(case hg=>rfl);(case hn=>rfl);(case hr=>first|(go_simp;done)|(go_simp;rfl));intro w151 hw;have hg:w146.grownBy w151 (some go45):=(by rw[hw];exact HP150.2);have hp_:Kd.R (Kd.int .i64) 3 w151 w.heap.size (fun _=>True) (.slice (some ⟨go45,0,none⟩) t221.length co143) y238:=(by rw[hw,Ny238.out];exact HP150.1);clear HP150;have n0_:=am (blk_grown (g:=gb215) (o:=.cells #[.slice (some ⟨go45,0,none⟩) t221.length co143,.int .i64 a0_1,.bool a0_2] 62 (0,0)) (bL BK215.out) hg (Kd.R_ne HO223.out BK215.out (b17_)));have n1_:=am (blk_grown (g:=gb216) (o:=.cells #[.int .i64 a1_0,.int .i64 a1_1] 72 (0,0)) (bL BK216.out) hg (Kd.R_ne HO223.out BK216.out (b17_)));have n2_:=am (blk_grown (g:=gb217) (o:=.cells #[.slice none 0 0,.int .i64 0,.bool false] 62 (0,0)) (bL BK217.out) hg (Kd.R_ne HO223.out BK217.out (b17_)));have n3_:=am (hp_);have n4_:=am ((by rw[hw];exact below_set (HB.out) GB45.out:Below w.heap.size w w151));clear BK215 BK216 BK217 HO223 HB;have BK215:=n0_;have BK216:=n1_;have BK217:=n2_;have HO223:=n3_;have HB:=n4_;clear n0_ n1_ n2_ n3_ n4_;clear hg hw hp_))
              (try (rw[drewN_self w151];generalize hq_:World.drewN w151 _=w151;have n0_:=am (Kd.R_at hq_ HO223.out);have n1_:=am (blk_at hq_ BK215.out);have n2_:=am (blk_at hq_ BK216.out);have n3_:=am (blk_at hq_ BK217.out);have n4_:=am (below_at hq_ HB.out);clear hq_ HO223 BK215 BK216 BK217 HB;have HO223:=n0_;have BK215:=n1_;have BK216:=n2_;have BK217:=n3_;have HB:=n4_;clear n0_ n1_ n2_ n3_ n4_))
              have n0_:=am (Kd.R_drew HO223.out)
              have n1_:=am (blk_drew BK215.out)
              have n2_:=am (blk_drew BK216.out)
              have n3_:=am (blk_drew BK217.out)
              have n4_:=am (below_drew1 HB.out)
              clear HO223 BK215 BK216 BK217 HB
              have HO223:=n0_
              have BK215:=n1_
              have BK216:=n2_
              have BK217:=n3_
              have HB:=n4_
              clear n0_ n1_ n2_ n3_ n4_
              have p239:0≤(a1_1:Int):=bD_
              have q239:a1_1 < (y238.length:Int):=(by have h_:(a1_1:Int) < ((t221.length:Int):Int):=bD_;first|(have e_:=(Kd.R_reads' HO223.out).1;omega)|simpa only[Ny238.out,List.length_set] using h_)
              have ql239:((a1_1:Int) < ((t221.length:Int):Int))=True:=eq_true (bD_)
              obtain⟨ad239,e239,hx239_0⟩:=Kd.at_int (Kd.R_reads' HO223.out).2.2 a1_1 p239 q239
              obtain rfl:(⟨go45,0,none⟩:Addr)=ad239:=(by injection e239)
              (first|simp only[add_plain] at hx239_0|simp only[add_at] at hx239_0|simp only[Addr.add,Nat.zero_add] at hx239_0|skip)
              replace p239:=eq_true p239
              replace q239:=eq_true q239
              have p240:0≤(a1_0:Int):=bD_
              have q240:a1_0 < (y238.length:Int):=(by have h_:(a1_0:Int) < ((t221.length:Int):Int):=bD_;first|(have e_:=(Kd.R_reads' HO223.out).1;omega)|simpa only[Ny238.out,List.length_set] using h_)
              have ql240:((a1_0:Int) < ((t221.length:Int):Int))=True:=eq_true (bD_)
              obtain⟨ad240,e240,hx240_0⟩:=Kd.at_int (Kd.R_reads' HO223.out).2.2 a1_0 p240 q240
              obtain rfl:(⟨go45,0,none⟩:Addr)=ad240:=(by injection e240)
              (first|simp only[add_plain] at hx240_0|simp only[add_at] at hx240_0|simp only[Addr.add,Nat.zero_add] at hx240_0|skip)
              replace p240:=eq_true p240
              replace q240:=eq_true q240
              have p138:0≤(a1_1:Int):=bD_
              have q138:(a1_1:Int) < ((t221.length:Int):Int):=bD_
              obtain⟨hx138_0,hf138_0⟩:=Kd.R_celln 0 HO223.out (a1_1:Int) p138 q138
              replace hx138_0:=(show _=some (Value.int .i64 (rd y238 a1_1)) from hx138_0)
              replace p138:=eq_true p138
              replace q138:=eq_true q138
              have HP153:=Kd.R_putn HO223.out (a1_1:Int) (wrap64 ((rd y238 a1_1) - (rd y238 a1_0)))
              rw[← Ny241.out] at HP153
              have HQ153:=am HP153
              clear HP153
              refine start_ (n:=9) (S:=fun w'=>w'.cell? ⟨go45,(a1_1).toNat,none⟩=some (.int .i64 (rd y238 a1_1))∧w'.cell? ⟨go45,(a1_0).toNat,none⟩=some (.int .i64 (rd y238 a1_0))) (ds:=[8]) #[false,false,false,false,false,false,false,false,false] (b4_) rfl rfl ⟨hx239_0,hx240_0⟩ (fun hHeld => ?_);refine with_tabW impl_MeetBoth.tab12 impl_MeetBoth.bits12 (fun HT_ HW_ => ?_)
              generalize w151.drew=w152 at HO223 BK215 BK216 BK217 HB HQ153 hf138_0 hx138_0 hx239_0 hx240_0 hHeld ⊢
              refine pure_ (i:=0) (N:=some 121) (v:=?_) (a':=?_) #[true,false,false,false,false,false,false,false,false] rfl rfl (any_of HT_.out (b4_)) (fun _ _ _ h=>h) (Or.inl ⟨by rfl,?_⟩) ?_ ?_
              rotate_left
              ·intro w'
               go_simp
               with_reducible rfl
              rotate_left
              ·simp only[Act.put,zA,zB,zC,i64_w,i32_w]
               rfl
              refine pure_ (i:=1) (N:=some 122) (v:=?_) (a':=?_) #[true,true,false,false,false,false,false,false,false] rfl rfl (any_of HT_.out (b4_)) (fun _ _ _ h=>h) (Or.inl ⟨by rfl,?_⟩) ?_ ?_
              rotate_left
              ·intro w'
               go_simp
               with_reducible rfl
              rotate_left
              ·simp only[Act.put,zA,zB,zC,i64_w,i32_w]
               rfl
              refine pure_ (i:=3) (N:=some 124) (v:=?_) (a':=?_) #[true,true,false,true,false,false,false,false,false] rfl rfl (any_of HT_.out (b4_)) (fun _ _ _ h=>h) (Or.inl ⟨by rfl,?_⟩) ?_ ?_
              rotate_left
              ·intro w'
               go_simp
               with_reducible rfl
              rotate_left
              ·simp only[Act.put,zA,zB,zC,i64_w,i32_w]
               rfl
              refine pure_ (i:=4) (N:=some 125) (v:=?_) (a':=?_) #[true,true,false,true,true,false,false,false,false] rfl rfl (any_of HT_.out (b4_)) (fun _ _ _ h=>h) (Or.inl ⟨by rfl,?_⟩) ?_ ?_
              rotate_left
              ·intro w'
               go_simp
               with_reducible rfl
              rotate_left
              ·simp only[Act.put,zA,zB,zC,i64_w,i32_w]
               rfl
              refine take_ (i:=2) (N:=some 123) (v:=?_) (a':=?_) #[true,true,true,true,true,false,false,false,false] rfl rfl (take_ofW HT_.out HW_.out (b4_)) (fun _ _ _ h=>h) (Or.inl ⟨by rfl,?_⟩) hHeld ?_ ?_
              rotate_left
              ·rintro w' ⟨s0,s1⟩
               go_simp
               with_reducible rfl
              rotate_left
              ·simp only[Act.put,zA,zB,zC,i64_w,i32_w]
               rfl
              refine take_ (i:=5) (N:=some 126) (v:=?_) (a':=?_) #[true,true,true,true,true,true,false,false,false] rfl rfl (take_ofW HT_.out HW_.out (b4_)) (fun _ _ _ h=>h) (Or.inl ⟨by rfl,?_⟩) hHeld ?_ ?_
              rotate_left
              ·rintro w' ⟨s0,s1⟩
               go_simp
               with_reducible rfl
              rotate_left
              ·simp only[Act.put,zA,zB,zC,i64_w,i32_w]
               rfl
              refine pure_ (i:=6) (N:=some 127) (v:=?_) (a':=?_) #[true,true,true,true,true,true,true,false,false] rfl rfl (any_of HT_.out (b4_)) (fun _ _ _ h=>h) (Or.inl ⟨by rfl,?_⟩) ?_ ?_
              rotate_left
              ·intro w'
               go_simp
               with_reducible rfl
              rotate_left
              ·simp only[Act.put,zA,zB,zC,i64_w,i32_w]
               rfl
              refine pure_ (i:=7) (N:=some 128) (v:=?_) (a':=?_) #[true,true,true,true,true,true,true,true,false] rfl rfl (any_of HT_.out (b4_)) (fun _ _ _ h=>h) (Or.inl ⟨by rfl,?_⟩) ?_ ?_
              rotate_left
              ·intro w'
               go_simp
               with_reducible rfl
              rotate_left
              ·simp only[Act.put,zA,zB,zC,i64_w,i32_w]
               rfl
              refine last_ (i:=8) (N:=none) #[true,true,true,true,true,true,true,true,true] rfl rfl (one_of HT_.out (b4_)) (b17_) (fun K hK => ?_)
              refine skip_ (w1:=?_) (by rfl) rfl ?_ ?_
              rotate_left
              ·go_simp
               rfl
              refine hK.out _ _ ?_
              clear hK K
              refine done_ (done_of HT_.out (b4_)) ?_
              have n0_:Aside0 (Kd.R (Kd.int .i64) 3 (w152.setCell ⟨go45,(a1_1:Int).toNat,none⟩ (.int .i64 (wrap64 ((rd y238 a1_1) - (rd y238 a1_0))))) w.heap.size (fun _=>True) (.slice (some ⟨go45,0,none⟩) t221.length co143) y241):=⟨by(with_reducible repeat (first|apply Kd.R_alloc|apply Kd.R_drewN|apply Kd.R_drew));exact HQ153.out⟩
              have n1_:Aside0 ((w152.setCell ⟨go45,(a1_1:Int).toNat,none⟩ (.int .i64 (wrap64 ((rd y238 a1_1) - (rd y238 a1_0))))).heap[gb215]?=some (.cells #[.slice (some ⟨go45,0,none⟩) t221.length co143,.int .i64 a0_1,.bool a0_2] 62 (0,0))):=⟨by(with_reducible repeat (first|refine blk_drewN ?_ _|refine blk_drew ?_|refine blk_alloc ?_ _));refine blk_far ?_ (by have h_:=Kd.R_ne HO223.out BK215.out (b17_);intro e_;exact h_ (by rw[e_];rfl)) _;(with_reducible repeat (first|refine blk_drewN ?_ _|refine blk_drew ?_|refine blk_alloc ?_ _));exact BK215.out⟩
              have n2_:Aside0 ((w152.setCell ⟨go45,(a1_1:Int).toNat,none⟩ (.int .i64 (wrap64 ((rd y238 a1_1) - (rd y238 a1_0))))).heap[gb216]?=some (.cells #[.int .i64 a1_0,.int .i64 a1_1] 72 (0,0))):=⟨by(with_reducible repeat (first|refine blk_drewN ?_ _|refine blk_drew ?_|refine blk_alloc ?_ _));refine blk_far ?_ (by have h_:=Kd.R_ne HO223.out BK216.out (b17_);intro e_;exact h_ (by rw[e_];rfl)) _;(with_reducible repeat (first|refine blk_drewN ?_ _|refine blk_drew ?_|refine blk_alloc ?_ _));exact BK216.out⟩
              have n3_:Aside0 ((w152.setCell ⟨go45,(a1_1:Int).toNat,none⟩ (.int .i64 (wrap64 ((rd y238 a1_1) - (rd y238 a1_0))))).heap[gb217]?=some (.cells #[.slice none 0 0,.int .i64 0,.bool false] 62 (0,0))):=⟨by(with_reducible repeat (first|refine blk_drewN ?_ _|refine blk_drew ?_|refine blk_alloc ?_ _));refine blk_far ?_ (by have h_:=Kd.R_ne HO223.out BK217.out (b17_);intro e_;exact h_ (by rw[e_];rfl)) _;(with_reducible repeat (first|refine blk_drewN ?_ _|refine blk_drew ?_|refine blk_alloc ?_ _));exact BK217.out⟩
              have n4_:Aside0 (Below w.heap.size w (w152.setCell ⟨go45,(a1_1:Int).toNat,none⟩ (.int .i64 (wrap64 ((rd y238 a1_1) - (rd y238 a1_0)))))):=⟨bS4 GB45.out GE215.out GE216.out GE217.out⟩
              (try clear HO223)
              (try clear BK215)
              (try clear BK216)
              (try clear BK217)
              (try clear HB)
              generalize (w152.setCell ⟨go45,(a1_1:Int).toNat,none⟩ (.int .i64 (wrap64 ((rd y238 a1_1) - (rd y238 a1_0)))))=w154 at n0_ n1_ n2_ n3_ n4_ ⊢
              have HO223:=n0_
              have BK215:=n1_
              have BK216:=n2_
              have BK217:=n3_
              have HB:=n4_
              clear n0_ n1_ n2_ n3_ n4_
              obtain⟨hcz155_0,hcz155_1,hcz155_2⟩:=cC3 BK215.out
              obtain⟨hfz155_0,hfz155_1,hfz155_2⟩:=cF3 BK215.out
              obtain⟨hcz156_0,hcz156_1,hcz156_2⟩:=cC3 BK217.out
              obtain⟨hfz156_0,hfz156_1,hfz156_2⟩:=cF3 BK217.out
              try go_wp2
              refine bodyPost_ret (results_ct rfl _ _ gb217 62 #[.slice (some ⟨go45,0,none⟩) t221.length co143,.int .i64 a0_1,.bool a0_2] (0,0) _ rfl (by(with_reducible repeat (first|refine blk_drewN ?_ _|refine blk_drew ?_|refine blk_alloc ?_ _));apply bU3;(with_reducible repeat (first|refine blk_drewN ?_ _|refine blk_drew ?_|refine blk_alloc ?_ _));exact BK217.out) Try.underlying62 rfl (b4_)) rfl ?_
              exact⟨_,by first|rfl|(simp[errW_none,errW_some]<;>rfl)|(simp[*,errW_none,errW_some]<;>rfl),by(with_reducible repeat (first|apply Kd.R_alloc|apply Kd.R_drewN|apply Kd.R_drew));exact Kd.R_mono (Kd.R_far (p:=⟨gb217,2,none⟩) (Kd.R_far (p:=⟨gb217,1,none⟩) (Kd.R_far (p:=⟨gb217,0,none⟩) (Kd.R_types HO223.out BK217.out (b17_)) (fun _ hk=>hk.2) (.slice (some ⟨go45,0,none⟩) t221.length co143)) (fun _ hk=>hk.2) (.int .i64 a0_1)) (fun _ hk=>hk.2) (.bool a0_2)) (fun _ hk=>trivial),bS3 GE215.out GE216.out GE217.out⟩
             ·rw[if_neg c136] at H
              have c136b0:((rd t221 a1_0) == 0)=false:=beq_eq_false_iff_ne.mpr c136
              have c136b1:((rd t221 a1_0) != 0)=true:=bne_iff_ne.mpr c136
              simp only[Option.some.injEq,Prod.mk.injEq] at H
              obtain⟨rfl,rfl,rfl,rfl⟩:=H
              have hnb157:=NB215_216.out
              have hnc157:=NB216_215.out
              have hnb158:=NB215_217.out
              have hnc158:=NB217_215.out
              obtain⟨hcz159_0,hcz159_1,hcz159_2⟩:=cC3 BK215.out
              obtain⟨hfz159_0,hfz159_1,hfz159_2⟩:=cF3 BK215.out
              try go_wp2_with (first|((with_reducible refine gate_callee (f:=98) rfl ?_);refine goesA (some 41) rfl rfl Try.func98 #[.slice A0_0 l0_0.length c0_0] rfl ?_;(with_reducible refine(slices_Clone_int_int.calls _ _ l0_0 t221 _ ?side1 ?side2 A42.out).mono ?_);(case side1=>exact bC HR0_0.out);(case side2=>exact HC0_0.out);rintro e w160 ⟨v222,rfl,ho0,hb⟩;refine⟨_,rfl,?_⟩;have n0_:=am (Kd.R_lower ho0 (below_size (bS3 GE215.out GE216.out GE217.out)));have n1_:=am (bM BK215.out hb);have n2_:=am (bM BK216.out hb);have n3_:=am (bM BK217.out hb);have n4_:=am (below_step (bS3 GE215.out GE216.out GE217.out) hb);clear BK215 BK216 BK217 HB;have HO223:=n0_;have BK215:=n1_;have BK216:=n2_;have BK217:=n3_;have HB:=n4_;clear n0_ n1_ n2_ n3_ n4_;(try clear hb);(try clear hb2);(try clear hk);(try clear hi);(try clear ho0);obtain⟨Ao161,co161,eo161⟩:=Kd.R_slice HO223.out;subst eo161;obtain⟨hcz162_0,hcz162_1,hcz162_2⟩:=cC3 BK215.out;obtain⟨hfz162_0,hfz162_1,hfz162_2⟩:=cF3 BK215.out))
              have n0_:Aside0 (Kd.R (Kd.int .i64) 3 (w160.setCell ⟨gb215,0,none⟩ (.slice Ao161 t221.length co161)) w.heap.size (fun _=>True) (.slice Ao161 t221.length co161) t221):=⟨by(with_reducible repeat (first|apply Kd.R_alloc|apply Kd.R_drewN|apply Kd.R_drew));exact Kd.R_mono (Kd.R_far (p:=⟨gb215,0,none⟩) (Kd.R_types HO223.out BK215.out (b17_)) (fun _ hk=>hk.2) (.slice Ao161 t221.length co161)) (fun _ hk=>trivial)⟩
              have n1_:Aside0 ((w160.setCell ⟨gb215,0,none⟩ (.slice Ao161 t221.length co161)).heap[gb215]?=some (.cells #[.slice Ao161 t221.length co161,.int .i64 a0_1,.bool a0_2] 62 (0,0))):=⟨by(with_reducible repeat (first|refine blk_drewN ?_ _|refine blk_drew ?_|refine blk_alloc ?_ _));refine blk_put (cs:=#[.slice A0_0 l0_0.length c0_0,.int .i64 a0_1,.bool a0_2]) ?_ 0 _ rfl;(with_reducible repeat (first|refine blk_drewN ?_ _|refine blk_drew ?_|refine blk_alloc ?_ _));exact BK215.out⟩
              have n2_:Aside0 ((w160.setCell ⟨gb215,0,none⟩ (.slice Ao161 t221.length co161)).heap[gb216]?=some (.cells #[.int .i64 a1_0,.int .i64 a1_1] 72 (0,0))):=⟨by(with_reducible repeat (first|refine blk_drewN ?_ _|refine blk_drew ?_|refine blk_alloc ?_ _));refine blk_far ?_ NB216_215.out _;(with_reducible repeat (first|refine blk_drewN ?_ _|refine blk_drew ?_|refine blk_alloc ?_ _));exact BK216.out⟩
              have n3_:Aside0 ((w160.setCell ⟨gb215,0,none⟩ (.slice Ao161 t221.length co161)).heap[gb217]?=some (.cells #[.slice none 0 0,.int .i64 0,.bool false] 62 (0,0))):=⟨by(with_reducible repeat (first|refine blk_drewN ?_ _|refine blk_drew ?_|refine blk_alloc ?_ _));refine blk_far ?_ NB217_215.out _;(with_reducible repeat (first|refine blk_drewN ?_ _|refine blk_drew ?_|refine blk_alloc ?_ _));exact BK217.out⟩
              have n4_:Aside0 (Below w.heap.size w (w160.setCell ⟨gb215,0,none⟩ (.slice Ao161 t221.length co161))):=⟨bS3 GE215.out GE216.out GE217.out⟩
              (try clear HO223)
              (try clear BK215)
              (try clear BK216)
              (try clear BK217)
              (try clear HB)
              generalize (w160.setCell ⟨gb215,0,none⟩ (.slice Ao161 t221.length co161))=w163 at n0_ n1_ n2_ n3_ n4_ ⊢
              have HO223:=n0_
              have BK215:=n1_
              have BK216:=n2_
              have BK217:=n3_
              have HB:=n4_
              clear n0_ n1_ n2_ n3_ n4_
              (try (rw[drewN_self w163];generalize hq_:World.drewN w163 _=w163;have n0_:=am (Kd.R_at hq_ HO223.out);have n1_:=am (blk_at hq_ BK215.out);have n2_:=am (blk_at hq_ BK216.out);have n3_:=am (blk_at hq_ BK217.out);have n4_:=am (below_at hq_ HB.out);clear hq_ HO223 BK215 BK216 BK217 HB;have HO223:=n0_;have BK215:=n1_;have BK216:=n2_;have BK217:=n3_;have HB:=n4_;clear n0_ n1_ n2_ n3_ n4_))
              have n0_:=am (Kd.R_drew HO223.out)
              have n1_:=am (blk_drew BK215.out)
              have n2_:=am (blk_drew BK216.out)
              have n3_:=am (blk_drew BK217.out)
              have n4_:=am (below_drew1 HB.out)
              clear HO223 BK215 BK216 BK217 HB
              have HO223:=n0_
              have BK215:=n1_
              have BK216:=n2_
              have BK217:=n3_
              have HB:=n4_
              clear n0_ n1_ n2_ n3_ n4_
              have p45:0≤(a1_0:Int):=bD_
              have q45:(a1_0:Int) < ((t221.length:Int):Int):=bD_
              obtain⟨go45,co45,eo45,gb45,gl45,cl45,HG45⟩:=Kd.R_form HO223.out (by omega)
              (first|cases eo45|(injection eo45 with ea_ en_ ec_;(first|subst ea_|(injection ea_ with ea_;subst ea_));subst ec_;clear en_))
              have GB45:=am gb45
              have GG45:=am HG45
              clear gb45 gl45 HG45
              obtain⟨hx45_0,hf45_0⟩:=Kd.R_celln 0 HO223.out (a1_0:Int) p45 q45
              replace hx45_0:=(show _=some (Value.int .i64 (rd t221 a1_0)) from hx45_0)
              replace p45:=eq_true p45
              replace q45:=eq_true q45
              have p48:0≤(a1_1:Int):=bD_
              have q48:(a1_1:Int) < ((t221.length:Int):Int):=bD_
              obtain⟨hx48_0,hf48_0⟩:=Kd.R_celln 0 HO223.out (a1_1:Int) p48 q48
              replace hx48_0:=(show _=some (Value.int .i64 (rd t221 a1_1)) from hx48_0)
              replace p48:=eq_true p48
              replace q48:=eq_true q48
              refine start_ (n:=12) (S:=fun w'=>w'.cell? ⟨gb215,0,none⟩=some (.slice (some ⟨go45,0,none⟩) t221.length co161)∧w'.cell? ⟨gb215,1,none⟩=some (.int .i64 a0_1)∧w'.cell? ⟨gb215,2,none⟩=some (.bool a0_2)∧w'.cell? ⟨gb216,0,none⟩=some (.int .i64 a1_0)∧w'.cell? ⟨gb216,1,none⟩=some (.int .i64 a1_1)) (ds:=[]) #[false,false,false,false,false,false,false,false,false,false,false,false] (b4_) rfl rfl ⟨(blk_cell BK215.out 0).trans rfl,(blk_cell BK215.out 1).trans rfl,(blk_cell BK215.out 2).trans rfl,(blk_cell BK216.out 0).trans rfl,(blk_cell BK216.out 1).trans rfl⟩ (fun hHeld => ?_);refine with_tabW impl_MeetBoth.tab4 impl_MeetBoth.bits4 (fun HT_ HW_ => ?_)
              generalize w163.drew=w164 at HO223 BK215 BK216 BK217 HB GG45 hf45_0 hf48_0 hx45_0 hx48_0 hHeld ⊢
              refine pure_ (i:=0) (N:=some 43) (v:=?_) (a':=?_) #[true,false,false,false,false,false,false,false,false,false,false,false] rfl rfl (any_of HT_.out (b4_)) (fun _ _ _ h=>h) (Or.inl ⟨by rfl,?_⟩) ?_ ?_
              rotate_left
              ·intro w'
               go_simp
               with_reducible rfl
              rotate_left
              ·simp only[Act.put,zA,zB,zC,i64_w,i32_w]
               rfl
              refine pure_ (i:=2) (N:=some 45) (v:=?_) (a':=?_) #[true,false,true,false,false,false,false,false,false,false,false,false] rfl rfl (any_of HT_.out (b4_)) (fun _ _ _ h=>h) (Or.inl ⟨by rfl,?_⟩) ?_ ?_
              rotate_left
              ·intro w'
               go_simp
               with_reducible rfl
              rotate_left
              ·simp only[Act.put,zA,zB,zC,i64_w,i32_w]
               rfl
              refine pure_ (i:=5) (N:=some 48) (v:=?_) (a':=?_) #[true,false,true,false,false,true,false,false,false,false,false,false] rfl rfl (any_of HT_.out (b4_)) (fun _ _ _ h=>h) (Or.inl ⟨by rfl,?_⟩) ?_ ?_
              rotate_left
              ·intro w'
               go_simp
               with_reducible rfl
              rotate_left
              ·simp only[Act.put,zA,zB,zC,i64_w,i32_w]
               rfl
              refine pure_ (i:=7) (N:=some 50) (v:=?_) (a':=?_) #[true,false,true,false,false,true,false,true,false,false,false,false] rfl rfl (any_of HT_.out (b4_)) (fun _ _ _ h=>h) (Or.inl ⟨by rfl,?_⟩) ?_ ?_
              rotate_left
              ·intro w'
               go_simp
               with_reducible rfl
              rotate_left
              ·simp only[Act.put,zA,zB,zC,i64_w,i32_w]
               rfl
              refine take_ (i:=1) (N:=some 44) (v:=?_) (a':=?_) #[true,true,true,false,false,true,false,true,false,false,false,false] rfl rfl (take_ofW HT_.out HW_.out (b4_)) (fun _ _ _ h=>h) (Or.inl ⟨by rfl,?_⟩) hHeld ?_ ?_
              rotate_left
              ·rintro w' ⟨s0,s1,s2,s3,s4⟩
               go_simp
               with_reducible rfl
              rotate_left
              ·simp only[Act.put,zA,zB,zC,i64_w,i32_w]
               rfl
              refine take_ (i:=3) (N:=some 46) (v:=?_) (a':=?_) #[true,true,true,true,false,true,false,true,false,false,false,false] rfl rfl (take_ofW HT_.out HW_.out (b4_)) (fun _ _ _ h=>h) (Or.inl ⟨by rfl,?_⟩) hHeld ?_ ?_
              rotate_left
              ·rintro w' ⟨s0,s1,s2,s3,s4⟩
               go_simp
               with_reducible rfl
              rotate_left
              ·simp only[Act.put,zA,zB,zC,i64_w,i32_w]
               rfl
              refine pure_ (i:=4) (N:=some 47) (v:=?_) (a':=?_) #[true,true,true,true,true,true,false,true,false,false,false,false] rfl rfl (any_of HT_.out (b4_)) (fun _ _ _ h=>h) (Or.inl ⟨by rfl,?_⟩) ?_ ?_
              rotate_left
              ·intro w'
               go_simp
               with_reducible rfl
              rotate_left
              ·simp only[Act.put,zA,zB,zC,i64_w,i32_w]
               rfl
              refine pure_ (i:=10) (N:=some 6) (v:=?_) (a':=?_) #[true,true,true,true,true,true,false,true,false,false,true,false] rfl rfl (any_of HT_.out (b4_)) (fun _ _ _ h=>h) (Or.inl ⟨by rfl,?_⟩) ?_ ?_
              rotate_left
              ·intro w'
               go_simp
               with_reducible rfl
              rotate_left
              ·simp only[Act.put,zA,zB,zC,i64_w,i32_w]
               rfl
              refine take_ (i:=6) (N:=some 49) (v:=?_) (a':=?_) #[true,true,true,true,true,true,true,true,false,false,true,false] rfl rfl (take_ofW HT_.out HW_.out (b4_)) (fun _ _ _ h=>h) (Or.inl ⟨by rfl,?_⟩) hHeld ?_ ?_
              rotate_left
              ·rintro w' ⟨s0,s1,s2,s3,s4⟩
               go_simp
               with_reducible rfl
              rotate_left
              ·simp only[Act.put,zA,zB,zC,i64_w,i32_w]
               rfl
              refine take_ (i:=8) (N:=some 51) (v:=?_) (a':=?_) #[true,true,true,true,true,true,true,true,true,false,true,false] rfl rfl (take_ofW HT_.out HW_.out (b4_)) (fun _ _ _ h=>h) (Or.inl ⟨by rfl,?_⟩) hHeld ?_ ?_
              rotate_left
              ·rintro w' ⟨s0,s1,s2,s3,s4⟩
               go_simp
               with_reducible rfl
              rotate_left
              ·simp only[Act.put,zA,zB,zC,i64_w,i32_w]
               rfl
              refine pure_ (i:=9) (N:=some 52) (v:=?_) (a':=?_) #[true,true,true,true,true,true,true,true,true,true,true,false] rfl rfl (any_of HT_.out (b4_)) (fun _ _ _ h=>h) (Or.inl ⟨by rfl,?_⟩) ?_ ?_
              rotate_left
              ·intro w'
               go_simp
               with_reducible rfl
              rotate_left
              ·simp only[Act.put,zA,zB,zC,i64_w,i32_w]
               rfl
              refine pure_ (i:=11) (N:=some 7) (v:=?_) (a':=?_) #[true,true,true,true,true,true,true,true,true,true,true,true] rfl rfl (any_of HT_.out (b4_)) (fun _ _ _ h=>h) (Or.inl ⟨by rfl,?_⟩) ?_ ?_
              rotate_left
              ·intro w'
               go_simp
               with_reducible rfl
              rotate_left
              ·simp only[Act.put,zA,zB,zC,i64_w,i32_w]
               rfl
              refine done_ (done_of HT_.out (b4_)) ?_
              have hnb165:=NB216_217.out
              have hnc165:=NB217_216.out
              obtain⟨hcz166_0,hcz166_1⟩:=cC2 BK216.out
              obtain⟨hfz166_0,hfz166_1⟩:=cF2 BK216.out
              obtain⟨hcz167_0,hcz167_1,hcz167_2⟩:=cC3 BK215.out
              obtain⟨hfz167_0,hfz167_1,hfz167_2⟩:=cF3 BK215.out
              have p228:0≤(a1_0:Int):=bD_
              have q228:a1_0 < (t221.length:Int):=bD_
              obtain⟨ad228,e228,hx228_0⟩:=Kd.at_int (Kd.R_reads' HO223.out).2.2 a1_0 p228 q228
              obtain rfl:(⟨go45,0,none⟩:Addr)=ad228:=(by injection e228)
              (first|simp only[add_plain] at hx228_0|simp only[add_at] at hx228_0|simp only[Addr.add,Nat.zero_add] at hx228_0|skip)
              replace p228:=eq_true p228
              replace q228:=eq_true q228
              have p229:0≤(a1_1:Int):=bD_
              have q229:a1_1 < (t221.length:Int):=bD_
              obtain⟨ad229,e229,hx229_0⟩:=Kd.at_int (Kd.R_reads' HO223.out).2.2 a1_1 p229 q229
              obtain rfl:(⟨go45,0,none⟩:Addr)=ad229:=(by injection e229)
              (first|simp only[add_plain] at hx229_0|simp only[add_at] at hx229_0|simp only[Addr.add,Nat.zero_add] at hx229_0|skip)
              replace p229:=eq_true p229
              replace q229:=eq_true q229
              have p235:0≤(a1_1:Int):=bD_
              have q235:a1_1 < (t221.length:Int):=bD_
              obtain⟨ad235,e235,hx235_0⟩:=Kd.at_int (Kd.R_reads' HO223.out).2.2 a1_1 p235 q235
              obtain rfl:(⟨go45,0,none⟩:Addr)=ad235:=(by injection e235)
              (first|simp only[add_plain] at hx235_0|simp only[add_at] at hx235_0|simp only[Addr.add,Nat.zero_add] at hx235_0|skip)
              replace p235:=eq_true p235
              replace q235:=eq_true q235
              have p236:0≤(a1_0:Int):=bD_
              have q236:a1_0 < (t221.length:Int):=bD_
              obtain⟨ad236,e236,hx236_0⟩:=Kd.at_int (Kd.R_reads' HO223.out).2.2 a1_0 p236 q236
              obtain rfl:(⟨go45,0,none⟩:Addr)=ad236:=(by injection e236)
              (first|simp only[add_plain] at hx236_0|simp only[add_at] at hx236_0|simp only[Addr.add,Nat.zero_add] at hx236_0|skip)
              replace p236:=eq_true p236
              replace q236:=eq_true q236
              obtain⟨hcz168_0,hcz168_1,hcz168_2⟩:=cC3 BK217.out
              obtain⟨hfz168_0,hfz168_1,hfz168_2⟩:=cF3 BK217.out
              try go_wp2
              refine bodyPost_ret (results_ct rfl _ _ gb217 62 #[.slice (some ⟨go45,0,none⟩) t221.length co161,.int .i64 a0_1,.bool a0_2] (0,0) _ rfl (by(with_reducible repeat (first|refine blk_drewN ?_ _|refine blk_drew ?_|refine blk_alloc ?_ _));apply bU3;(with_reducible repeat (first|refine blk_drewN ?_ _|refine blk_drew ?_|refine blk_alloc ?_ _));exact BK217.out) Try.underlying62 rfl (b4_)) rfl ?_
              exact⟨_,by first|rfl|(simp[errW_none,errW_some]<;>rfl)|(simp[*,errW_none,errW_some]<;>rfl),by(with_reducible repeat (first|apply Kd.R_alloc|apply Kd.R_drewN|apply Kd.R_drew));exact Kd.R_mono (Kd.R_far (p:=⟨gb217,2,none⟩) (Kd.R_far (p:=⟨gb217,1,none⟩) (Kd.R_far (p:=⟨gb217,0,none⟩) (Kd.R_types HO223.out BK217.out (b17_)) (fun _ hk=>hk.2) (.slice (some ⟨go45,0,none⟩) t221.length co161)) (fun _ hk=>hk.2) (.int .i64 a0_1)) (fun _ hk=>hk.2) (.bool a0_2)) (fun _ hk=>trivial),bS3 GE215.out GE216.out GE217.out⟩
            ·rw[if_neg c135] at H
             have c135b0:decide (2≤(rd t221 a1_1))=false:=decide_eq_false c135
             clear c135
             simp only[Option.some.injEq,Prod.mk.injEq] at H
             obtain⟨rfl,rfl,rfl,rfl⟩:=H
             have hnb169:=NB215_216.out
             have hnc169:=NB216_215.out
             have hnb170:=NB215_217.out
             have hnc170:=NB217_215.out
             obtain⟨hcz171_0,hcz171_1,hcz171_2⟩:=cC3 BK215.out
             obtain⟨hfz171_0,hfz171_1,hfz171_2⟩:=cF3 BK215.out
             try go_wp2_with (first|((with_reducible refine gate_callee (f:=98) rfl ?_);refine goesA (some 41) rfl rfl Try.func98 #[.slice A0_0 l0_0.length c0_0] rfl ?_;(with_reducible refine(slices_Clone_int_int.calls _ _ l0_0 t221 _ ?side1 ?side2 A42.out).mono ?_);(case side1=>exact bC HR0_0.out);(case side2=>exact HC0_0.out);rintro e w172 ⟨v222,rfl,ho0,hb⟩;refine⟨_,rfl,?_⟩;have n0_:=am (Kd.R_lower ho0 (below_size (bS3 GE215.out GE216.out GE217.out)));have n1_:=am (bM BK215.out hb);have n2_:=am (bM BK216.out hb);have n3_:=am (bM BK217.out hb);have n4_:=am (below_step (bS3 GE215.out GE216.out GE217.out) hb);clear BK215 BK216 BK217 HB;have HO223:=n0_;have BK215:=n1_;have BK216:=n2_;have BK217:=n3_;have HB:=n4_;clear n0_ n1_ n2_ n3_ n4_;(try clear hb);(try clear hb2);(try clear hk);(try clear hi);(try clear ho0);obtain⟨Ao173,co173,eo173⟩:=Kd.R_slice HO223.out;subst eo173;obtain⟨hcz174_0,hcz174_1,hcz174_2⟩:=cC3 BK215.out;obtain⟨hfz174_0,hfz174_1,hfz174_2⟩:=cF3 BK215.out))
             have n0_:Aside0 (Kd.R (Kd.int .i64) 3 (w172.setCell ⟨gb215,0,none⟩ (.slice Ao173 t221.length co173)) w.heap.size (fun _=>True) (.slice Ao173 t221.length co173) t221):=⟨by(with_reducible repeat (first|apply Kd.R_alloc|apply Kd.R_drewN|apply Kd.R_drew));exact Kd.R_mono (Kd.R_far (p:=⟨gb215,0,none⟩) (Kd.R_types HO223.out BK215.out (b17_)) (fun _ hk=>hk.2) (.slice Ao173 t221.length co173)) (fun _ hk=>trivial)⟩
             have n1_:Aside0 ((w172.setCell ⟨gb215,0,none⟩ (.slice Ao173 t221.length co173)).heap[gb215]?=some (.cells #[.slice Ao173 t221.length co173,.int .i64 a0_1,.bool a0_2] 62 (0,0))):=⟨by(with_reducible repeat (first|refine blk_drewN ?_ _|refine blk_drew ?_|refine blk_alloc ?_ _));refine blk_put (cs:=#[.slice A0_0 l0_0.length c0_0,.int .i64 a0_1,.bool a0_2]) ?_ 0 _ rfl;(with_reducible repeat (first|refine blk_drewN ?_ _|refine blk_drew ?_|refine blk_alloc ?_ _));exact BK215.out⟩
             have n2_:Aside0 ((w172.setCell ⟨gb215,0,none⟩ (.slice Ao173 t221.length co173)).heap[gb216]?=some (.cells #[.int .i64 a1_0,.int .i64 a1_1] 72 (0,0))):=⟨by(with_reducible repeat (first|refine blk_drewN ?_ _|refine blk_drew ?_|refine blk_alloc ?_ _));refine blk_far ?_ NB216_215.out _;(with_reducible repeat (first|refine blk_drewN ?_ _|refine blk_drew ?_|refine blk_alloc ?_ _));exact BK216.out⟩
             have n3_:Aside0 ((w172.setCell ⟨gb215,0,none⟩ (.slice Ao173 t221.length co173)).heap[gb217]?=some (.cells #[.slice none 0 0,.int .i64 0,.bool false] 62 (0,0))):=⟨by(with_reducible repeat (first|refine blk_drewN ?_ _|refine blk_drew ?_|refine blk_alloc ?_ _));refine blk_far ?_ NB217_215.out _;(with_reducible repeat (first|refine blk_drewN ?_ _|refine blk_drew ?_|refine blk_alloc ?_ _));exact BK217.out⟩
             have n4_:Aside0 (Below w.heap.size w (w172.setCell ⟨gb215,0,none⟩ (.slice Ao173 t221.length co173))):=⟨bS3 GE215.out GE216.out GE217.out⟩
             (try clear HO223)
             (try clear BK215)
             (try clear BK216)
             (try clear BK217)
             (try clear HB)
             generalize (w172.setCell ⟨gb215,0,none⟩ (.slice Ao173 t221.length co173))=w175 at n0_ n1_ n2_ n3_ n4_ ⊢
             have HO223:=n0_
             have BK215:=n1_
             have BK216:=n2_
             have BK217:=n3_
             have HB:=n4_
             clear n0_ n1_ n2_ n3_ n4_
             (try (rw[drewN_self w175];generalize hq_:World.drewN w175 _=w175;have n0_:=am (Kd.R_at hq_ HO223.out);have n1_:=am (blk_at hq_ BK215.out);have n2_:=am (blk_at hq_ BK216.out);have n3_:=am (blk_at hq_ BK217.out);have n4_:=am (below_at hq_ HB.out);clear hq_ HO223 BK215 BK216 BK217 HB;have HO223:=n0_;have BK215:=n1_;have BK216:=n2_;have BK217:=n3_;have HB:=n4_;clear n0_ n1_ n2_ n3_ n4_))
             have n0_:=am (Kd.R_drew HO223.out)
             have n1_:=am (blk_drew BK215.out)
             have n2_:=am (blk_drew BK216.out)
             have n3_:=am (blk_drew BK217.out)
             have n4_:=am (below_drew1 HB.out)
             clear HO223 BK215 BK216 BK217 HB
             have HO223:=n0_
             have BK215:=n1_
             have BK216:=n2_
             have BK217:=n3_
             have HB:=n4_
             clear n0_ n1_ n2_ n3_ n4_
             have p45:0≤(a1_0:Int):=bD_
             have q45:(a1_0:Int) < ((t221.length:Int):Int):=bD_
             obtain⟨go45,co45,eo45,gb45,gl45,cl45,HG45⟩:=Kd.R_form HO223.out (by omega)
             (first|cases eo45|(injection eo45 with ea_ en_ ec_;(first|subst ea_|(injection ea_ with ea_;subst ea_));subst ec_;clear en_))
             have GB45:=am gb45
             have GG45:=am HG45
             clear gb45 gl45 HG45
             obtain⟨hx45_0,hf45_0⟩:=Kd.R_celln 0 HO223.out (a1_0:Int) p45 q45
             replace hx45_0:=(show _=some (Value.int .i64 (rd t221 a1_0)) from hx45_0)
             replace p45:=eq_true p45
             replace q45:=eq_true q45
             have p48:0≤(a1_1:Int):=bD_
             have q48:(a1_1:Int) < ((t221.length:Int):Int):=bD_
             obtain⟨hx48_0,hf48_0⟩:=Kd.R_celln 0 HO223.out (a1_1:Int) p48 q48
             replace hx48_0:=(show _=some (Value.int .i64 (rd t221 a1_1)) from hx48_0)
             replace p48:=eq_true p48
             replace q48:=eq_true q48
             refine start_ (n:=12) (S:=fun w'=>w'.cell? ⟨gb215,0,none⟩=some (.slice (some ⟨go45,0,none⟩) t221.length co173)∧w'.cell? ⟨gb215,1,none⟩=some (.int .i64 a0_1)∧w'.cell? ⟨gb215,2,none⟩=some (.bool a0_2)∧w'.cell? ⟨gb216,0,none⟩=some (.int .i64 a1_0)∧w'.cell? ⟨gb216,1,none⟩=some (.int .i64 a1_1)) (ds:=[]) #[false,false,false,false,false,false,false,false,false,false,false,false] (b4_) rfl rfl ⟨(blk_cell BK215.out 0).trans rfl,(blk_cell BK215.out 1).trans rfl,(blk_cell BK215.out 2).trans rfl,(blk_cell BK216.out 0).trans rfl,(blk_cell BK216.out 1).trans rfl⟩ (fun hHeld => ?_);refine with_tabW impl_MeetBoth.tab4 impl_MeetBoth.bits4 (fun HT_ HW_ => ?_)
             generalize w175.drew=w176 at HO223 BK215 BK216 BK217 HB GG45 hf45_0 hf48_0 hx45_0 hx48_0 hHeld ⊢
             refine pure_ (i:=0) (N:=some 43) (v:=?_) (a':=?_) #[true,false,false,false,false,false,false,false,false,false,false,false] rfl rfl (any_of HT_.out (b4_)) (fun _ _ _ h=>h) (Or.inl ⟨by rfl,?_⟩) ?_ ?_
             rotate_left
             ·intro w'
              go_simp
              with_reducible rfl
             rotate_left
             ·simp only[Act.put,zA,zB,zC,i64_w,i32_w]
              rfl
             refine pure_ (i:=2) (N:=some 45) (v:=?_) (a':=?_) #[true,false,true,false,false,false,false,false,false,false,false,false] rfl rfl (any_of HT_.out (b4_)) (fun _ _ _ h=>h) (Or.inl ⟨by rfl,?_⟩) ?_ ?_
             rotate_left
             ·intro w'
              go_simp
              with_reducible rfl
             rotate_left
             ·simp only[Act.put,zA,zB,zC,i64_w,i32_w]
              rfl
             refine pure_ (i:=5) (N:=some 48) (v:=?_) (a':=?_) #[true,false,true,false,false,true,false,false,false,false,false,false] rfl rfl (any_of HT_.out (b4_)) (fun _ _ _ h=>h) (Or.inl ⟨by rfl,?_⟩) ?_ ?_
             rotate_left
             ·intro w'
              go_simp
              with_reducible rfl
             rotate_left
             ·simp only[Act.put,zA,zB,zC,i64_w,i32_w]
              rfl
             refine pure_ (i:=7) (N:=some 50) (v:=?_) (a':=?_) #[true,false,true,false,false,true,false,true,false,false,false,false] rfl rfl (any_of HT_.out (b4_)) (fun _ _ _ h=>h) (Or.inl ⟨by rfl,?_⟩) ?_ ?_
             rotate_left
             ·intro w'
              go_simp
              with_reducible rfl
             rotate_left
             ·simp only[Act.put,zA,zB,zC,i64_w,i32_w]
              rfl
             refine take_ (i:=1) (N:=some 44) (v:=?_) (a':=?_) #[true,true,true,false,false,true,false,true,false,false,false,false] rfl rfl (take_ofW HT_.out HW_.out (b4_)) (fun _ _ _ h=>h) (Or.inl ⟨by rfl,?_⟩) hHeld ?_ ?_
             rotate_left
             ·rintro w' ⟨s0,s1,s2,s3,s4⟩
              go_simp
              with_reducible rfl
             rotate_left
             ·simp only[Act.put,zA,zB,zC,i64_w,i32_w]
              rfl
             refine take_ (i:=3) (N:=some 46) (v:=?_) (a':=?_) #[true,true,true,true,false,true,false,true,false,false,false,false] rfl rfl (take_ofW HT_.out HW_.out (b4_)) (fun _ _ _ h=>h) (Or.inl ⟨by rfl,?_⟩) hHeld ?_ ?_
             rotate_left
             ·rintro w' ⟨s0,s1,s2,s3,s4⟩
              go_simp
              with_reducible rfl
             rotate_left
             ·simp only[Act.put,zA,zB,zC,i64_w,i32_w]
              rfl
             refine pure_ (i:=4) (N:=some 47) (v:=?_) (a':=?_) #[true,true,true,true,true,true,false,true,false,false,false,false] rfl rfl (any_of HT_.out (b4_)) (fun _ _ _ h=>h) (Or.inl ⟨by rfl,?_⟩) ?_ ?_
             rotate_left
             ·intro w'
              go_simp
              with_reducible rfl
             rotate_left
             ·simp only[Act.put,zA,zB,zC,i64_w,i32_w]
              rfl
             refine pure_ (i:=10) (N:=some 6) (v:=?_) (a':=?_) #[true,true,true,true,true,true,false,true,false,false,true,false] rfl rfl (any_of HT_.out (b4_)) (fun _ _ _ h=>h) (Or.inl ⟨by rfl,?_⟩) ?_ ?_
             rotate_left
             ·intro w'
              go_simp
              with_reducible rfl
             rotate_left
             ·simp only[Act.put,zA,zB,zC,i64_w,i32_w]
              rfl
             refine take_ (i:=6) (N:=some 49) (v:=?_) (a':=?_) #[true,true,true,true,true,true,true,true,false,false,true,false] rfl rfl (take_ofW HT_.out HW_.out (b4_)) (fun _ _ _ h=>h) (Or.inl ⟨by rfl,?_⟩) hHeld ?_ ?_
             rotate_left
             ·rintro w' ⟨s0,s1,s2,s3,s4⟩
              go_simp
              with_reducible rfl
             rotate_left
             ·simp only[Act.put,zA,zB,zC,i64_w,i32_w]
              rfl
             refine take_ (i:=8) (N:=some 51) (v:=?_) (a':=?_) #[true,true,true,true,true,true,true,true,true,false,true,false] rfl rfl (take_ofW HT_.out HW_.out (b4_)) (fun _ _ _ h=>h) (Or.inl ⟨by rfl,?_⟩) hHeld ?_ ?_
             rotate_left
             ·rintro w' ⟨s0,s1,s2,s3,s4⟩
              go_simp
              with_reducible rfl
             rotate_left
             ·simp only[Act.put,zA,zB,zC,i64_w,i32_w]
              rfl
             refine pure_ (i:=9) (N:=some 52) (v:=?_) (a':=?_) #[true,true,true,true,true,true,true,true,true,true,true,false] rfl rfl (any_of HT_.out (b4_)) (fun _ _ _ h=>h) (Or.inl ⟨by rfl,?_⟩) ?_ ?_
             rotate_left
             ·intro w'
              go_simp
              with_reducible rfl
             rotate_left
             ·simp only[Act.put,zA,zB,zC,i64_w,i32_w]
              rfl
             refine pure_ (i:=11) (N:=some 7) (v:=?_) (a':=?_) #[true,true,true,true,true,true,true,true,true,true,true,true] rfl rfl (any_of HT_.out (b4_)) (fun _ _ _ h=>h) (Or.inl ⟨by rfl,?_⟩) ?_ ?_
             rotate_left
             ·intro w'
              go_simp
              with_reducible rfl
             rotate_left
             ·simp only[Act.put,zA,zB,zC,i64_w,i32_w]
              rfl
             refine done_ (done_of HT_.out (b4_)) ?_
             have hnb177:=NB216_217.out
             have hnc177:=NB217_216.out
             obtain⟨hcz178_0,hcz178_1⟩:=cC2 BK216.out
             obtain⟨hfz178_0,hfz178_1⟩:=cF2 BK216.out
             obtain⟨hcz179_0,hcz179_1,hcz179_2⟩:=cC3 BK215.out
             obtain⟨hfz179_0,hfz179_1,hfz179_2⟩:=cF3 BK215.out
             have p228:0≤(a1_0:Int):=bD_
             have q228:a1_0 < (t221.length:Int):=bD_
             obtain⟨ad228,e228,hx228_0⟩:=Kd.at_int (Kd.R_reads' HO223.out).2.2 a1_0 p228 q228
             obtain rfl:(⟨go45,0,none⟩:Addr)=ad228:=(by injection e228)
             (first|simp only[add_plain] at hx228_0|simp only[add_at] at hx228_0|simp only[Addr.add,Nat.zero_add] at hx228_0|skip)
             replace p228:=eq_true p228
             replace q228:=eq_true q228
             have p229:0≤(a1_1:Int):=bD_
             have q229:a1_1 < (t221.length:Int):=bD_
             obtain⟨ad229,e229,hx229_0⟩:=Kd.at_int (Kd.R_reads' HO223.out).2.2 a1_1 p229 q229
             obtain rfl:(⟨go45,0,none⟩:Addr)=ad229:=(by injection e229)
             (first|simp only[add_plain] at hx229_0|simp only[add_at] at hx229_0|simp only[Addr.add,Nat.zero_add] at hx229_0|skip)
             replace p229:=eq_true p229
             replace q229:=eq_true q229
             have p235:0≤(a1_1:Int):=bD_
             have q235:a1_1 < (t221.length:Int):=bD_
             obtain⟨ad235,e235,hx235_0⟩:=Kd.at_int (Kd.R_reads' HO223.out).2.2 a1_1 p235 q235
             obtain rfl:(⟨go45,0,none⟩:Addr)=ad235:=(by injection e235)
             (first|simp only[add_plain] at hx235_0|simp only[add_at] at hx235_0|simp only[Addr.add,Nat.zero_add] at hx235_0|skip)
             replace p235:=eq_true p235
             replace q235:=eq_true q235
             obtain⟨hcz180_0,hcz180_1,hcz180_2⟩:=cC3 BK217.out
             obtain⟨hfz180_0,hfz180_1,hfz180_2⟩:=cF3 BK217.out
             try go_wp2
             refine bodyPost_ret (results_ct rfl _ _ gb217 62 #[.slice (some ⟨go45,0,none⟩) t221.length co173,.int .i64 a0_1,.bool a0_2] (0,0) _ rfl (by(with_reducible repeat (first|refine blk_drewN ?_ _|refine blk_drew ?_|refine blk_alloc ?_ _));apply bU3;(with_reducible repeat (first|refine blk_drewN ?_ _|refine blk_drew ?_|refine blk_alloc ?_ _));exact BK217.out) Try.underlying62 rfl (b4_)) rfl ?_
             exact⟨_,by first|rfl|(simp[errW_none,errW_some]<;>rfl)|(simp[*,errW_none,errW_some]<;>rfl),by(with_reducible repeat (first|apply Kd.R_alloc|apply Kd.R_drewN|apply Kd.R_drew));exact Kd.R_mono (Kd.R_far (p:=⟨gb217,2,none⟩) (Kd.R_far (p:=⟨gb217,1,none⟩) (Kd.R_far (p:=⟨gb217,0,none⟩) (Kd.R_types HO223.out BK217.out (b17_)) (fun _ hk=>hk.2) (.slice (some ⟨go45,0,none⟩) t221.length co173)) (fun _ hk=>hk.2) (.int .i64 a0_1)) (fun _ hk=>hk.2) (.bool a0_2)) (fun _ hk=>trivial),bS3 GE215.out GE216.out GE217.out⟩
          ·rw[if_neg c113] at H
           have c113b0:decide (2≤(rd t221 a1_0))=false:=decide_eq_false c113
           clear c113
           by_cases c181:(rd t221 a1_1) ≥ 2
           ·rw[if_pos c181] at H
            have c181b0:decide (2≤(rd t221 a1_1))=true:=decide_eq_true c181
            clear c181
            by_cases c182:(rd t221 a1_0)=0
            ·rw[if_pos c182] at H
             have c182b0:((rd t221 a1_0) == 0)=true:=beq_iff_eq.mpr c182
             have c182b1:((rd t221 a1_0) != 0)=false:=bne_eq_false_iff_eq.mpr c182
             clear c182
             obtain⟨y245,hy245⟩ : ∃ y_:List Int,y_=(t221.set (a1_0:Int).toNat (wrap64 (Int.tdiv (rd t221 a1_1) 2))):=⟨_,rfl⟩
             replace H:(some ((y245.set (a1_1:Int).toNat (wrap64 ((rd y245 a1_1) - (rd y245 a1_0)))),a0_1,a0_2,true))=some (r1,r2,r3,r4):=by first|(rw[hy245];with_reducible exact H)|(have H2_:=(Option.bind_some _ _).symm.trans H;rw[hy245];with_reducible exact H2_)|(have H2_:=(Option.bind_some _ _).symm.trans H;with_reducible exact H2_)|with_reducible exact H|(rw[hy245];exact H)|exact H
             have Ny245:=am hy245
             clear hy245
             obtain⟨y248,hy248⟩ : ∃ y_:List Int,y_=(y245.set (a1_1:Int).toNat (wrap64 ((rd y245 a1_1) - (rd y245 a1_0)))):=⟨_,rfl⟩
             replace H:(some (y248,a0_1,a0_2,true))=some (r1,r2,r3,r4):=by first|(rw[hy248];with_reducible exact H)|(have H2_:=(Option.bind_some _ _).symm.trans H;rw[hy248];with_reducible exact H2_)|(have H2_:=(Option.bind_some _ _).symm.trans H;with_reducible exact H2_)|with_reducible exact H|(rw[hy248];exact H)|exact H
             have Ny248:=am hy248
             clear hy248
             simp only[Option.some.injEq,Prod.mk.injEq] at H
             obtain⟨rfl,rfl,rfl,rfl⟩:=H
             have hnb185:=NB215_216.out
             have hnc185:=NB216_215.out
             have hnb186:=NB215_217.out
             have hnc186:=NB217_215.out
             obtain⟨hcz187_0,hcz187_1,hcz187_2⟩:=cC3 BK215.out
             obtain⟨hfz187_0,hfz187_1,hfz187_2⟩:=cF3 BK215.out
             try go_wp2_with (first|((with_reducible refine gate_callee (f:=98) rfl ?_);refine goesA (some 41) rfl rfl Try.func98 #[.slice A0_0 l0_0.length c0_0] rfl ?_;(with_reducible refine(slices_Clone_int_int.calls _ _ l0_0 t221 _ ?side1 ?side2 A42.out).mono ?_);(case side1=>exact bC HR0_0.out);(case side2=>exact HC0_0.out);rintro e w188 ⟨v222,rfl,ho0,hb⟩;refine⟨_,rfl,?_⟩;have n0_:=am (Kd.R_lower ho0 (below_size (bS3 GE215.out GE216.out GE217.out)));have n1_:=am (bM BK215.out hb);have n2_:=am (bM BK216.out hb);have n3_:=am (bM BK217.out hb);have n4_:=am (below_step (bS3 GE215.out GE216.out GE217.out) hb);clear BK215 BK216 BK217 HB;have HO223:=n0_;have BK215:=n1_;have BK216:=n2_;have BK217:=n3_;have HB:=n4_;clear n0_ n1_ n2_ n3_ n4_;(try clear hb);(try clear hb2);(try clear hk);(try clear hi);(try clear ho0);obtain⟨Ao189,co189,eo189⟩:=Kd.R_slice HO223.out;subst eo189;obtain⟨hcz190_0,hcz190_1,hcz190_2⟩:=cC3 BK215.out;obtain⟨hfz190_0,hfz190_1,hfz190_2⟩:=cF3 BK215.out))
             have n0_:Aside0 (Kd.R (Kd.int .i64) 3 (w188.setCell ⟨gb215,0,none⟩ (.slice Ao189 t221.length co189)) w.heap.size (fun _=>True) (.slice Ao189 t221.length co189) t221):=⟨by(with_reducible repeat (first|apply Kd.R_alloc|apply Kd.R_drewN|apply Kd.R_drew));exact Kd.R_mono (Kd.R_far (p:=⟨gb215,0,none⟩) (Kd.R_types HO223.out BK215.out (b17_)) (fun _ hk=>hk.2) (.slice Ao189 t221.length co189)) (fun _ hk=>trivial)⟩
             have n1_:Aside0 ((w188.setCell ⟨gb215,0,none⟩ (.slice Ao189 t221.length co189)).heap[gb215]?=some (.cells #[.slice Ao189 t221.length co189,.int .i64 a0_1,.bool a0_2] 62 (0,0))):=⟨by(with_reducible repeat (first|refine blk_drewN ?_ _|refine blk_drew ?_|refine blk_alloc ?_ _));refine blk_put (cs:=#[.slice A0_0 l0_0.length c0_0,.int .i64 a0_1,.bool a0_2]) ?_ 0 _ rfl;(with_reducible repeat (first|refine blk_drewN ?_ _|refine blk_drew ?_|refine blk_alloc ?_ _));exact BK215.out⟩
             have n2_:Aside0 ((w188.setCell ⟨gb215,0,none⟩ (.slice Ao189 t221.length co189)).heap[gb216]?=some (.cells #[.int .i64 a1_0,.int .i64 a1_1] 72 (0,0))):=⟨by(with_reducible repeat (first|refine blk_drewN ?_ _|refine blk_drew ?_|refine blk_alloc ?_ _));refine blk_far ?_ NB216_215.out _;(with_reducible repeat (first|refine blk_drewN ?_ _|refine blk_drew ?_|refine blk_alloc ?_ _));exact BK216.out⟩
             have n3_:Aside0 ((w188.setCell ⟨gb215,0,none⟩ (.slice Ao189 t221.length co189)).heap[gb217]?=some (.cells #[.slice none 0 0,.int .i64 0,.bool false] 62 (0,0))):=⟨by(with_reducible repeat (first|refine blk_drewN ?_ _|refine blk_drew ?_|refine blk_alloc ?_ _));refine blk_far ?_ NB217_215.out _;(with_reducible repeat (first|refine blk_drewN ?_ _|refine blk_drew ?_|refine blk_alloc ?_ _));exact BK217.out⟩
             have n4_:Aside0 (Below w.heap.size w (w188.setCell ⟨gb215,0,none⟩ (.slice Ao189 t221.length co189))):=⟨bS3 GE215.out GE216.out GE217.out⟩
             (try clear HO223)
             (try clear BK215)
             (try clear BK216)
             (try clear BK217)
             (try clear HB)
             generalize (w188.setCell ⟨gb215,0,none⟩ (.slice Ao189 t221.length co189))=w191 at n0_ n1_ n2_ n3_ n4_ ⊢
             have HO223:=n0_
             have BK215:=n1_
             have BK216:=n2_
             have BK217:=n3_
             have HB:=n4_
             clear n0_ n1_ n2_ n3_ n4_
             (try (rw[drewN_self w191];generalize hq_:World.drewN w191 _=w191;have n0_:=am (Kd.R_at hq_ HO223.out);have n1_:=am (blk_at hq_ BK215.out);have n2_:=am (blk_at hq_ BK216.out);have n3_:=am (blk_at hq_ BK217.out);have n4_:=am (below_at hq_ HB.out);clear hq_ HO223 BK215 BK216 BK217 HB;have HO223:=n0_;have BK215:=n1_;have BK216:=n2_;have BK217:=n3_;have HB:=n4_;clear n0_ n1_ n2_ n3_ n4_))
             have n0_:=am (Kd.R_drew HO223.out)
             have n1_:=am (blk_drew BK215.out)
             have n2_:=am (blk_drew BK216.out)
             have n3_:=am (blk_drew BK217.out)
             have n4_:=am (below_drew1 HB.out)
             clear HO223 BK215 BK216 BK217 HB
             have HO223:=n0_
             have BK215:=n1_
             have BK216:=n2_
             have BK217:=n3_
             have HB:=n4_
             clear n0_ n1_ n2_ n3_ n4_
             have p45:0≤(a1_0:Int):=bD_
             have q45:(a1_0:Int) < ((t221.length:Int):Int):=bD_
             obtain⟨go45,co45,eo45,gb45,gl45,cl45,HG45⟩:=Kd.R_form HO223.out (by omega)
             (first|cases eo45|(injection eo45 with ea_ en_ ec_;(first|subst ea_|(injection ea_ with ea_;subst ea_));subst ec_;clear en_))
             have GB45:=am gb45
             have GG45:=am HG45
             clear gb45 gl45 HG45
             obtain⟨hx45_0,hf45_0⟩:=Kd.R_celln 0 HO223.out (a1_0:Int) p45 q45
             replace hx45_0:=(show _=some (Value.int .i64 (rd t221 a1_0)) from hx45_0)
             replace p45:=eq_true p45
             replace q45:=eq_true q45
             have p48:0≤(a1_1:Int):=bD_
             have q48:(a1_1:Int) < ((t221.length:Int):Int):=bD_
             obtain⟨hx48_0,hf48_0⟩:=Kd.R_celln 0 HO223.out (a1_1:Int) p48 q48
             replace hx48_0:=(show _=some (Value.int .i64 (rd t221 a1_1)) from hx48_0)
             replace p48:=eq_true p48
             replace q48:=eq_true q48
             refine start_ (n:=12) (S:=fun w'=>w'.cell? ⟨gb215,0,none⟩=some (.slice (some ⟨go45,0,none⟩) t221.length co189)∧w'.cell? ⟨gb215,1,none⟩=some (.int .i64 a0_1)∧w'.cell? ⟨gb215,2,none⟩=some (.bool a0_2)∧w'.cell? ⟨gb216,0,none⟩=some (.int .i64 a1_0)∧w'.cell? ⟨gb216,1,none⟩=some (.int .i64 a1_1)) (ds:=[]) #[false,false,false,false,false,false,false,false,false,false,false,false] (b4_) rfl rfl ⟨(blk_cell BK215.out 0).trans rfl,(blk_cell BK215.out 1).trans rfl,(blk_cell BK215.out 2).trans rfl,(blk_cell BK216.out 0).trans rfl,(blk_cell BK216.out 1).trans rfl⟩ (fun hHeld => ?_);refine with_tabW impl_MeetBoth.tab4 impl_MeetBoth.bits4 (fun HT_ HW_ => ?_)
             generalize w191.drew=w192 at HO223 BK215 BK216 BK217 HB GG45 hf45_0 hf48_0 hx45_0 hx48_0 hHeld ⊢
             refine pure_ (i:=0) (N:=some 43) (v:=?_) (a':=?_) #[true,false,false,false,false,false,false,false,false,false,false,false] rfl rfl (any_of HT_.out (b4_)) (fun _ _ _ h=>h) (Or.inl ⟨by rfl,?_⟩) ?_ ?_
             rotate_left
             ·intro w'
              go_simp
              with_reducible rfl
             rotate_left
             ·simp only[Act.put,zA,zB,zC,i64_w,i32_w]
              rfl
             refine pure_ (i:=2) (N:=some 45) (v:=?_) (a':=?_) #[true,false,true,false,false,false,false,false,false,false,false,false] rfl rfl (any_of HT_.out (b4_)) (fun _ _ _ h=>h) (Or.inl ⟨by rfl,?_⟩) ?_ ?_
             rotate_left
             ·intro w'
              go_simp
              with_reducible rfl
             rotate_left
             ·simp only[Act.put,zA,zB,zC,i64_w,i32_w]
              rfl
             refine pure_ (i:=5) (N:=some 48) (v:=?_) (a':=?_) #[true,false,true,false,false,true,false,false,false,false,false,false] rfl rfl (any_of HT_.out (b4_)) (fun _ _ _ h=>h) (Or.inl ⟨by rfl,?_⟩) ?_ ?_
             rotate_left
             ·intro w'
              go_simp
              with_reducible rfl
             rotate_left
             ·simp only[Act.put,zA,zB,zC,i64_w,i32_w]
              rfl
             refine pure_ (i:=7) (N:=some 50) (v:=?_) (a':=?_) #[true,false,true,false,false,true,false,true,false,false,false,false] rfl rfl (any_of HT_.out (b4_)) (fun _ _ _ h=>h) (Or.inl ⟨by rfl,?_⟩) ?_ ?_
             rotate_left
             ·intro w'
              go_simp
              with_reducible rfl
             rotate_left
             ·simp only[Act.put,zA,zB,zC,i64_w,i32_w]
              rfl
             refine take_ (i:=1) (N:=some 44) (v:=?_) (a':=?_) #[true,true,true,false,false,true,false,true,false,false,false,false] rfl rfl (take_ofW HT_.out HW_.out (b4_)) (fun _ _ _ h=>h) (Or.inl ⟨by rfl,?_⟩) hHeld ?_ ?_
             rotate_left
             ·rintro w' ⟨s0,s1,s2,s3,s4⟩
              go_simp
              with_reducible rfl
             rotate_left
             ·simp only[Act.put,zA,zB,zC,i64_w,i32_w]
              rfl
             refine take_ (i:=3) (N:=some 46) (v:=?_) (a':=?_) #[true,true,true,true,false,true,false,true,false,false,false,false] rfl rfl (take_ofW HT_.out HW_.out (b4_)) (fun _ _ _ h=>h) (Or.inl ⟨by rfl,?_⟩) hHeld ?_ ?_
             rotate_left
             ·rintro w' ⟨s0,s1,s2,s3,s4⟩
              go_simp
              with_reducible rfl
             rotate_left
             ·simp only[Act.put,zA,zB,zC,i64_w,i32_w]
              rfl
             refine pure_ (i:=4) (N:=some 47) (v:=?_) (a':=?_) #[true,true,true,true,true,true,false,true,false,false,false,false] rfl rfl (any_of HT_.out (b4_)) (fun _ _ _ h=>h) (Or.inl ⟨by rfl,?_⟩) ?_ ?_
             rotate_left
             ·intro w'
              go_simp
              with_reducible rfl
             rotate_left
             ·simp only[Act.put,zA,zB,zC,i64_w,i32_w]
              rfl
             refine pure_ (i:=10) (N:=some 6) (v:=?_) (a':=?_) #[true,true,true,true,true,true,false,true,false,false,true,false] rfl rfl (any_of HT_.out (b4_)) (fun _ _ _ h=>h) (Or.inl ⟨by rfl,?_⟩) ?_ ?_
             rotate_left
             ·intro w'
              go_simp
              with_reducible rfl
             rotate_left
             ·simp only[Act.put,zA,zB,zC,i64_w,i32_w]
              rfl
             refine take_ (i:=6) (N:=some 49) (v:=?_) (a':=?_) #[true,true,true,true,true,true,true,true,false,false,true,false] rfl rfl (take_ofW HT_.out HW_.out (b4_)) (fun _ _ _ h=>h) (Or.inl ⟨by rfl,?_⟩) hHeld ?_ ?_
             rotate_left
             ·rintro w' ⟨s0,s1,s2,s3,s4⟩
              go_simp
              with_reducible rfl
             rotate_left
             ·simp only[Act.put,zA,zB,zC,i64_w,i32_w]
              rfl
             refine take_ (i:=8) (N:=some 51) (v:=?_) (a':=?_) #[true,true,true,true,true,true,true,true,true,false,true,false] rfl rfl (take_ofW HT_.out HW_.out (b4_)) (fun _ _ _ h=>h) (Or.inl ⟨by rfl,?_⟩) hHeld ?_ ?_
             rotate_left
             ·rintro w' ⟨s0,s1,s2,s3,s4⟩
              go_simp
              with_reducible rfl
             rotate_left
             ·simp only[Act.put,zA,zB,zC,i64_w,i32_w]
              rfl
             refine pure_ (i:=9) (N:=some 52) (v:=?_) (a':=?_) #[true,true,true,true,true,true,true,true,true,true,true,false] rfl rfl (any_of HT_.out (b4_)) (fun _ _ _ h=>h) (Or.inl ⟨by rfl,?_⟩) ?_ ?_
             rotate_left
             ·intro w'
              go_simp
              with_reducible rfl
             rotate_left
             ·simp only[Act.put,zA,zB,zC,i64_w,i32_w]
              rfl
             refine pure_ (i:=11) (N:=some 7) (v:=?_) (a':=?_) #[true,true,true,true,true,true,true,true,true,true,true,true] rfl rfl (any_of HT_.out (b4_)) (fun _ _ _ h=>h) (Or.inl ⟨by rfl,?_⟩) ?_ ?_
             rotate_left
             ·intro w'
              go_simp
              with_reducible rfl
             rotate_left
             ·simp only[Act.put,zA,zB,zC,i64_w,i32_w]
              rfl
             refine done_ (done_of HT_.out (b4_)) ?_
             have hnb193:=NB216_217.out
             have hnc193:=NB217_216.out
             obtain⟨hcz194_0,hcz194_1⟩:=cC2 BK216.out
             obtain⟨hfz194_0,hfz194_1⟩:=cF2 BK216.out
             obtain⟨hcz195_0,hcz195_1,hcz195_2⟩:=cC3 BK215.out
             obtain⟨hfz195_0,hfz195_1,hfz195_2⟩:=cF3 BK215.out
             have p228:0≤(a1_0:Int):=bD_
             have q228:a1_0 < (t221.length:Int):=bD_
             obtain⟨ad228,e228,hx228_0⟩:=Kd.at_int (Kd.R_reads' HO223.out).2.2 a1_0 p228 q228
             obtain rfl:(⟨go45,0,none⟩:Addr)=ad228:=(by injection e228)
             (first|simp only[add_plain] at hx228_0|simp only[add_at] at hx228_0|simp only[Addr.add,Nat.zero_add] at hx228_0|skip)
             replace p228:=eq_true p228
             replace q228:=eq_true q228
             have p242:0≤(a1_1:Int):=bD_
             have q242:a1_1 < (t221.length:Int):=bD_
             obtain⟨ad242,e242,hx242_0⟩:=Kd.at_int (Kd.R_reads' HO223.out).2.2 a1_1 p242 q242
             obtain rfl:(⟨go45,0,none⟩:Addr)=ad242:=(by injection e242)
             (first|simp only[add_plain] at hx242_0|simp only[add_at] at hx242_0|simp only[Addr.add,Nat.zero_add] at hx242_0|skip)
             replace p242:=eq_true p242
             replace q242:=eq_true q242
             have p243:0≤(a1_0:Int):=bD_
             have q243:a1_0 < (t221.length:Int):=bD_
             obtain⟨ad243,e243,hx243_0⟩:=Kd.at_int (Kd.R_reads' HO223.out).2.2 a1_0 p243 q243
             obtain rfl:(⟨go45,0,none⟩:Addr)=ad243:=(by injection e243)
             (first|simp only[add_plain] at hx243_0|simp only[add_at] at hx243_0|simp only[Addr.add,Nat.zero_add] at hx243_0|skip)
             replace p243:=eq_true p243
             replace q243:=eq_true q243
             have p244:0≤(a1_1:Int):=bD_
             have q244:a1_1 < (t221.length:Int):=bD_
             obtain⟨ad244,e244,hx244_0⟩:=Kd.at_int (Kd.R_reads' HO223.out).2.2 a1_1 p244 q244
             obtain rfl:(⟨go45,0,none⟩:Addr)=ad244:=(by injection e244)
             (first|simp only[add_plain] at hx244_0|simp only[add_at] at hx244_0|simp only[Addr.add,Nat.zero_add] at hx244_0|skip)
             replace p244:=eq_true p244
             replace q244:=eq_true q244
             have p183:0≤(a1_0:Int):=bD_
             have q183:(a1_0:Int) < ((t221.length:Int):Int):=bD_
             obtain⟨hx183_0,hf183_0⟩:=Kd.R_celln 0 HO223.out (a1_0:Int) p183 q183
             replace hx183_0:=(show _=some (Value.int .i64 (rd t221 a1_0)) from hx183_0)
             replace p183:=eq_true p183
             replace q183:=eq_true q183
             obtain⟨hy196_,hz196_⟩:=Kd.R_celln 0 HO223.out (a1_0:Int) (bD_) (bD_)
             have HP196:=Kd.R_putg HO223.out (a1_0:Int) (wrap64 (Int.tdiv (rd t221 a1_1) 2))
             try go_wp2_with (first|((with_reducible refine gate_store (t:=3) (p:=120) rfl ?_);refine store_event (t:=3) (p:=120) (v:=?vo_w197) (w1:=(w192.setCell ⟨go45,(a1_0:Int).toNat,none⟩ (.int .i64 (wrap64 (Int.tdiv (rd t221 a1_1) 2))))) ?hg ?ho ?hn ?hr ?_;(case ho=>rfl);(case hg=>rfl);(case hn=>rfl);(case hr=>first|(go_simp;done)|(go_simp;rfl));intro w197 hw;have hg:w192.grownBy w197 (some go45):=(by rw[hw];exact HP196.2);have hp_:Kd.R (Kd.int .i64) 3 w197 w.heap.size (fun _=>True) (.slice (some ⟨go45,0,none⟩) t221.length co189) y245:=(by rw[hw,Ny245.out];exact HP196.1);clear HP196;have n0_:=am (blk_grown (g:=gb215) (o:=.cells #[.slice (some ⟨go45,0,none⟩) t221.length co189,.int .i64 a0_1,.bool a0_2] 62 (0,0)) (bL BK215.out) hg (Kd.R_ne HO223.out BK215.out (b17_)));have n1_:=am (blk_grown (g:=gb216) (o:=.cells #[.int .i64 a1_0,.int .i64 a1_1] 72 (0,0)) (bL BK216.out) hg (Kd.R_ne HO223.out BK216.out (b17_)));have n2_:=am (blk_grown (g:=gb217) (o:=.cells #[.slice none 0 0,.int .i64 0,.bool false] 62 (0,0)) (bL BK217.out) hg (Kd.R_ne HO223.out BK217.out (b17_)));have n3_:=am (hp_);have n4_:=am ((by rw[hw];exact below_set (HB.out) GB45.out:Below w.heap.size w w197));clear BK215 BK216 BK217 HO223 HB;have BK215:=n0_;have BK216:=n1_;have BK217:=n2_;have HO223:=n3_;have HB:=n4_;clear n0_ n1_ n2_ n3_ n4_;clear hg hw hp_))
             (try (rw[drewN_self w197];generalize hq_:World.drewN w197 _=w197;have n0_:=am (Kd.R_at hq_ HO223.out);have n1_:=am (blk_at hq_ BK215.out);have n2_:=am (blk_at hq_ BK216.out);have n3_:=am (blk_at hq_ BK217.out);have n4_:=am (below_at hq_ HB.out);clear hq_ HO223 BK215 BK216 BK217 HB;have HO223:=n0_;have BK215:=n1_;have BK216:=n2_;have BK217:=n3_;have HB:=n4_;clear n0_ n1_ n2_ n3_ n4_))
             have n0_:=am (Kd.R_drew HO223.out)
             have n1_:=am (blk_drew BK215.out)
             have n2_:=am (blk_drew BK216.out)
             have n3_:=am (blk_drew BK217.out)
             have n4_:=am (below_drew1 HB.out)
             clear HO223 BK215 BK216 BK217 HB
             have HO223:=n0_
             have BK215:=n1_
             have BK216:=n2_
             have BK217:=n3_
             have HB:=n4_
             clear n0_ n1_ n2_ n3_ n4_
             have p246:0≤(a1_1:Int):=bD_
             have q246:a1_1 < (y245.length:Int):=(by have h_:(a1_1:Int) < ((t221.length:Int):Int):=bD_;first|(have e_:=(Kd.R_reads' HO223.out).1;omega)|simpa only[Ny245.out,List.length_set] using h_)
             have ql246:((a1_1:Int) < ((t221.length:Int):Int))=True:=eq_true (bD_)
             obtain⟨ad246,e246,hx246_0⟩:=Kd.at_int (Kd.R_reads' HO223.out).2.2 a1_1 p246 q246
             obtain rfl:(⟨go45,0,none⟩:Addr)=ad246:=(by injection e246)
             (first|simp only[add_plain] at hx246_0|simp only[add_at] at hx246_0|simp only[Addr.add,Nat.zero_add] at hx246_0|skip)
             replace p246:=eq_true p246
             replace q246:=eq_true q246
             have p247:0≤(a1_0:Int):=bD_
             have q247:a1_0 < (y245.length:Int):=(by have h_:(a1_0:Int) < ((t221.length:Int):Int):=bD_;first|(have e_:=(Kd.R_reads' HO223.out).1;omega)|simpa only[Ny245.out,List.length_set] using h_)
             have ql247:((a1_0:Int) < ((t221.length:Int):Int))=True:=eq_true (bD_)
             obtain⟨ad247,e247,hx247_0⟩:=Kd.at_int (Kd.R_reads' HO223.out).2.2 a1_0 p247 q247
             obtain rfl:(⟨go45,0,none⟩:Addr)=ad247:=(by injection e247)
             (first|simp only[add_plain] at hx247_0|simp only[add_at] at hx247_0|simp only[Addr.add,Nat.zero_add] at hx247_0|skip)
             replace p247:=eq_true p247
             replace q247:=eq_true q247
             have p184:0≤(a1_1:Int):=bD_
             have q184:(a1_1:Int) < ((t221.length:Int):Int):=bD_
             obtain⟨hx184_0,hf184_0⟩:=Kd.R_celln 0 HO223.out (a1_1:Int) p184 q184
             replace hx184_0:=(show _=some (Value.int .i64 (rd y245 a1_1)) from hx184_0)
             replace p184:=eq_true p184
             replace q184:=eq_true q184
             have HP199:=Kd.R_putn HO223.out (a1_1:Int) (wrap64 ((rd y245 a1_1) - (rd y245 a1_0)))
             rw[← Ny248.out] at HP199
             have HQ199:=am HP199
             clear HP199
             refine start_ (n:=9) (S:=fun w'=>w'.cell? ⟨go45,(a1_1).toNat,none⟩=some (.int .i64 (rd y245 a1_1))∧w'.cell? ⟨go45,(a1_0).toNat,none⟩=some (.int .i64 (rd y245 a1_0))) (ds:=[8]) #[false,false,false,false,false,false,false,false,false] (b4_) rfl rfl ⟨hx246_0,hx247_0⟩ (fun hHeld => ?_);refine with_tabW impl_MeetBoth.tab12 impl_MeetBoth.bits12 (fun HT_ HW_ => ?_)
             generalize w197.drew=w198 at HO223 BK215 BK216 BK217 HB HQ199 hf184_0 hx184_0 hx246_0 hx247_0 hHeld ⊢
             refine pure_ (i:=0) (N:=some 121) (v:=?_) (a':=?_) #[true,false,false,false,false,false,false,false,false] rfl rfl (any_of HT_.out (b4_)) (fun _ _ _ h=>h) (Or.inl ⟨by rfl,?_⟩) ?_ ?_
             rotate_left
             ·intro w'
              go_simp
              with_reducible rfl
             rotate_left
             ·simp only[Act.put,zA,zB,zC,i64_w,i32_w]
              rfl
             refine pure_ (i:=1) (N:=some 122) (v:=?_) (a':=?_) #[true,true,false,false,false,false,false,false,false] rfl rfl (any_of HT_.out (b4_)) (fun _ _ _ h=>h) (Or.inl ⟨by rfl,?_⟩) ?_ ?_
             rotate_left
             ·intro w'
              go_simp
              with_reducible rfl
             rotate_left
             ·simp only[Act.put,zA,zB,zC,i64_w,i32_w]
              rfl
             refine pure_ (i:=3) (N:=some 124) (v:=?_) (a':=?_) #[true,true,false,true,false,false,false,false,false] rfl rfl (any_of HT_.out (b4_)) (fun _ _ _ h=>h) (Or.inl ⟨by rfl,?_⟩) ?_ ?_
             rotate_left
             ·intro w'
              go_simp
              with_reducible rfl
             rotate_left
             ·simp only[Act.put,zA,zB,zC,i64_w,i32_w]
              rfl
             refine pure_ (i:=4) (N:=some 125) (v:=?_) (a':=?_) #[true,true,false,true,true,false,false,false,false] rfl rfl (any_of HT_.out (b4_)) (fun _ _ _ h=>h) (Or.inl ⟨by rfl,?_⟩) ?_ ?_
             rotate_left
             ·intro w'
              go_simp
              with_reducible rfl
             rotate_left
             ·simp only[Act.put,zA,zB,zC,i64_w,i32_w]
              rfl
             refine take_ (i:=2) (N:=some 123) (v:=?_) (a':=?_) #[true,true,true,true,true,false,false,false,false] rfl rfl (take_ofW HT_.out HW_.out (b4_)) (fun _ _ _ h=>h) (Or.inl ⟨by rfl,?_⟩) hHeld ?_ ?_
             rotate_left
             ·rintro w' ⟨s0,s1⟩
              go_simp
              with_reducible rfl
             rotate_left
             ·simp only[Act.put,zA,zB,zC,i64_w,i32_w]
              rfl
             refine take_ (i:=5) (N:=some 126) (v:=?_) (a':=?_) #[true,true,true,true,true,true,false,false,false] rfl rfl (take_ofW HT_.out HW_.out (b4_)) (fun _ _ _ h=>h) (Or.inl ⟨by rfl,?_⟩) hHeld ?_ ?_
             rotate_left
             ·rintro w' ⟨s0,s1⟩
              go_simp
              with_reducible rfl
             rotate_left
             ·simp only[Act.put,zA,zB,zC,i64_w,i32_w]
              rfl
             refine pure_ (i:=6) (N:=some 127) (v:=?_) (a':=?_) #[true,true,true,true,true,true,true,false,false] rfl rfl (any_of HT_.out (b4_)) (fun _ _ _ h=>h) (Or.inl ⟨by rfl,?_⟩) ?_ ?_
             rotate_left
             ·intro w'
              go_simp
              with_reducible rfl
             rotate_left
             ·simp only[Act.put,zA,zB,zC,i64_w,i32_w]
              rfl
             refine pure_ (i:=7) (N:=some 128) (v:=?_) (a':=?_) #[true,true,true,true,true,true,true,true,false] rfl rfl (any_of HT_.out (b4_)) (fun _ _ _ h=>h) (Or.inl ⟨by rfl,?_⟩) ?_ ?_
             rotate_left
             ·intro w'
              go_simp
              with_reducible rfl
             rotate_left
             ·simp only[Act.put,zA,zB,zC,i64_w,i32_w]
              rfl
             refine last_ (i:=8) (N:=none) #[true,true,true,true,true,true,true,true,true] rfl rfl (one_of HT_.out (b4_)) (b17_) (fun K hK => ?_)
             refine skip_ (w1:=?_) (by rfl) rfl ?_ ?_
             rotate_left
             ·go_simp
              rfl
             refine hK.out _ _ ?_
             clear hK K
             refine done_ (done_of HT_.out (b4_)) ?_
             have n0_:Aside0 (Kd.R (Kd.int .i64) 3 (w198.setCell ⟨go45,(a1_1:Int).toNat,none⟩ (.int .i64 (wrap64 ((rd y245 a1_1) - (rd y245 a1_0))))) w.heap.size (fun _=>True) (.slice (some ⟨go45,0,none⟩) t221.length co189) y248):=⟨by(with_reducible repeat (first|apply Kd.R_alloc|apply Kd.R_drewN|apply Kd.R_drew));exact HQ199.out⟩
             have n1_:Aside0 ((w198.setCell ⟨go45,(a1_1:Int).toNat,none⟩ (.int .i64 (wrap64 ((rd y245 a1_1) - (rd y245 a1_0))))).heap[gb215]?=some (.cells #[.slice (some ⟨go45,0,none⟩) t221.length co189,.int .i64 a0_1,.bool a0_2] 62 (0,0))):=⟨by(with_reducible repeat (first|refine blk_drewN ?_ _|refine blk_drew ?_|refine blk_alloc ?_ _));refine blk_far ?_ (by have h_:=Kd.R_ne HO223.out BK215.out (b17_);intro e_;exact h_ (by rw[e_];rfl)) _;(with_reducible repeat (first|refine blk_drewN ?_ _|refine blk_drew ?_|refine blk_alloc ?_ _));exact BK215.out⟩
             have n2_:Aside0 ((w198.setCell ⟨go45,(a1_1:Int).toNat,none⟩ (.int .i64 (wrap64 ((rd y245 a1_1) - (rd y245 a1_0))))).heap[gb216]?=some (.cells #[.int .i64 a1_0,.int .i64 a1_1] 72 (0,0))):=⟨by(with_reducible repeat (first|refine blk_drewN ?_ _|refine blk_drew ?_|refine blk_alloc ?_ _));refine blk_far ?_ (by have h_:=Kd.R_ne HO223.out BK216.out (b17_);intro e_;exact h_ (by rw[e_];rfl)) _;(with_reducible repeat (first|refine blk_drewN ?_ _|refine blk_drew ?_|refine blk_alloc ?_ _));exact BK216.out⟩
             have n3_:Aside0 ((w198.setCell ⟨go45,(a1_1:Int).toNat,none⟩ (.int .i64 (wrap64 ((rd y245 a1_1) - (rd y245 a1_0))))).heap[gb217]?=some (.cells #[.slice none 0 0,.int .i64 0,.bool false] 62 (0,0))):=⟨by(with_reducible repeat (first|refine blk_drewN ?_ _|refine blk_drew ?_|refine blk_alloc ?_ _));refine blk_far ?_ (by have h_:=Kd.R_ne HO223.out BK217.out (b17_);intro e_;exact h_ (by rw[e_];rfl)) _;(with_reducible repeat (first|refine blk_drewN ?_ _|refine blk_drew ?_|refine blk_alloc ?_ _));exact BK217.out⟩
             have n4_:Aside0 (Below w.heap.size w (w198.setCell ⟨go45,(a1_1:Int).toNat,none⟩ (.int .i64 (wrap64 ((rd y245 a1_1) - (rd y245 a1_0)))))):=⟨bS4 GB45.out GE215.out GE216.out GE217.out⟩
             (try clear HO223)
             (try clear BK215)
             (try clear BK216)
             (try clear BK217)
             (try clear HB)
             generalize (w198.setCell ⟨go45,(a1_1:Int).toNat,none⟩ (.int .i64 (wrap64 ((rd y245 a1_1) - (rd y245 a1_0)))))=w200 at n0_ n1_ n2_ n3_ n4_ ⊢
             have HO223:=n0_
             have BK215:=n1_
             have BK216:=n2_
             have BK217:=n3_
             have HB:=n4_
             clear n0_ n1_ n2_ n3_ n4_
             obtain⟨hcz201_0,hcz201_1,hcz201_2⟩:=cC3 BK215.out
             obtain⟨hfz201_0,hfz201_1,hfz201_2⟩:=cF3 BK215.out
             obtain⟨hcz202_0,hcz202_1,hcz202_2⟩:=cC3 BK217.out
             obtain⟨hfz202_0,hfz202_1,hfz202_2⟩:=cF3 BK217.out
             try go_wp2
             refine bodyPost_ret (results_ct rfl _ _ gb217 62 #[.slice (some ⟨go45,0,none⟩) t221.length co189,.int .i64 a0_1,.bool a0_2] (0,0) _ rfl (by(with_reducible repeat (first|refine blk_drewN ?_ _|refine blk_drew ?_|refine blk_alloc ?_ _));apply bU3;(with_reducible repeat (first|refine blk_drewN ?_ _|refine blk_drew ?_|refine blk_alloc ?_ _));exact BK217.out) Try.underlying62 rfl (b4_)) rfl ?_
             exact⟨_,by first|rfl|(simp[errW_none,errW_some]<;>rfl)|(simp[*,errW_none,errW_some]<;>rfl),by(with_reducible repeat (first|apply Kd.R_alloc|apply Kd.R_drewN|apply Kd.R_drew));exact Kd.R_mono (Kd.R_far (p:=⟨gb217,2,none⟩) (Kd.R_far (p:=⟨gb217,1,none⟩) (Kd.R_far (p:=⟨gb217,0,none⟩) (Kd.R_types HO223.out BK217.out (b17_)) (fun _ hk=>hk.2) (.slice (some ⟨go45,0,none⟩) t221.length co189)) (fun _ hk=>hk.2) (.int .i64 a0_1)) (fun _ hk=>hk.2) (.bool a0_2)) (fun _ hk=>trivial),bS3 GE215.out GE216.out GE217.out⟩
            ·rw[if_neg c182] at H
             have c182b0:((rd t221 a1_0) == 0)=false:=beq_eq_false_iff_ne.mpr c182
             have c182b1:((rd t221 a1_0) != 0)=true:=bne_iff_ne.mpr c182
             simp only[Option.some.injEq,Prod.mk.injEq] at H
             obtain⟨rfl,rfl,rfl,rfl⟩:=H
             have hnb203:=NB215_216.out
             have hnc203:=NB216_215.out
             have hnb204:=NB215_217.out
             have hnc204:=NB217_215.out
             obtain⟨hcz205_0,hcz205_1,hcz205_2⟩:=cC3 BK215.out
             obtain⟨hfz205_0,hfz205_1,hfz205_2⟩:=cF3 BK215.out
             try go_wp2_with (first|((with_reducible refine gate_callee (f:=98) rfl ?_);refine goesA (some 41) rfl rfl Try.func98 #[.slice A0_0 l0_0.length c0_0] rfl ?_;(with_reducible refine(slices_Clone_int_int.calls _ _ l0_0 t221 _ ?side1 ?side2 A42.out).mono ?_);(case side1=>exact bC HR0_0.out);(case side2=>exact HC0_0.out);rintro e w206 ⟨v222,rfl,ho0,hb⟩;refine⟨_,rfl,?_⟩;have n0_:=am (Kd.R_lower ho0 (below_size (bS3 GE215.out GE216.out GE217.out)));have n1_:=am (bM BK215.out hb);have n2_:=am (bM BK216.out hb);have n3_:=am (bM BK217.out hb);have n4_:=am (below_step (bS3 GE215.out GE216.out GE217.out) hb);clear BK215 BK216 BK217 HB;have HO223:=n0_;have BK215:=n1_;have BK216:=n2_;have BK217:=n3_;have HB:=n4_;clear n0_ n1_ n2_ n3_ n4_;(try clear hb);(try clear hb2);(try clear hk);(try clear hi);(try clear ho0);obtain⟨Ao207,co207,eo207⟩:=Kd.R_slice HO223.out;subst eo207;obtain⟨hcz208_0,hcz208_1,hcz208_2⟩:=cC3 BK215.out;obtain⟨hfz208_0,hfz208_1,hfz208_2⟩:=cF3 BK215.out))
             have n0_:Aside0 (Kd.R (Kd.int .i64) 3 (w206.setCell ⟨gb215,0,none⟩ (.slice Ao207 t221.length co207)) w.heap.size (fun _=>True) (.slice Ao207 t221.length co207) t221):=⟨by(with_reducible repeat (first|apply Kd.R_alloc|apply Kd.R_drewN|apply Kd.R_drew));exact Kd.R_mono (Kd.R_far (p:=⟨gb215,0,none⟩) (Kd.R_types HO223.out BK215.out (b17_)) (fun _ hk=>hk.2) (.slice Ao207 t221.length co207)) (fun _ hk=>trivial)⟩
             have n1_:Aside0 ((w206.setCell ⟨gb215,0,none⟩ (.slice Ao207 t221.length co207)).heap[gb215]?=some (.cells #[.slice Ao207 t221.length co207,.int .i64 a0_1,.bool a0_2] 62 (0,0))):=⟨by(with_reducible repeat (first|refine blk_drewN ?_ _|refine blk_drew ?_|refine blk_alloc ?_ _));refine blk_put (cs:=#[.slice A0_0 l0_0.length c0_0,.int .i64 a0_1,.bool a0_2]) ?_ 0 _ rfl;(with_reducible repeat (first|refine blk_drewN ?_ _|refine blk_drew ?_|refine blk_alloc ?_ _));exact BK215.out⟩
             have n2_:Aside0 ((w206.setCell ⟨gb215,0,none⟩ (.slice Ao207 t221.length co207)).heap[gb216]?=some (.cells #[.int .i64 a1_0,.int .i64 a1_1] 72 (0,0))):=⟨by(with_reducible repeat (first|refine blk_drewN ?_ _|refine blk_drew ?_|refine blk_alloc ?_ _));refine blk_far ?_ NB216_215.out _;(with_reducible repeat (first|refine blk_drewN ?_ _|refine blk_drew ?_|refine blk_alloc ?_ _));exact BK216.out⟩
             have n3_:Aside0 ((w206.setCell ⟨gb215,0,none⟩ (.slice Ao207 t221.length co207)).heap[gb217]?=some (.cells #[.slice none 0 0,.int .i64 0,.bool false] 62 (0,0))):=⟨by(with_reducible repeat (first|refine blk_drewN ?_ _|refine blk_drew ?_|refine blk_alloc ?_ _));refine blk_far ?_ NB217_215.out _;(with_reducible repeat (first|refine blk_drewN ?_ _|refine blk_drew ?_|refine blk_alloc ?_ _));exact BK217.out⟩
             have n4_:Aside0 (Below w.heap.size w (w206.setCell ⟨gb215,0,none⟩ (.slice Ao207 t221.length co207))):=⟨bS3 GE215.out GE216.out GE217.out⟩
             (try clear HO223)
             (try clear BK215)
             (try clear BK216)
             (try clear BK217)
             (try clear HB)
             generalize (w206.setCell ⟨gb215,0,none⟩ (.slice Ao207 t221.length co207))=w209 at n0_ n1_ n2_ n3_ n4_ ⊢
             have HO223:=n0_
             have BK215:=n1_
             have BK216:=n2_
             have BK217:=n3_
             have HB:=n4_
             clear n0_ n1_ n2_ n3_ n4_
             (try (rw[drewN_self w209];generalize hq_:World.drewN w209 _=w209;have n0_:=am (Kd.R_at hq_ HO223.out);have n1_:=am (blk_at hq_ BK215.out);have n2_:=am (blk_at hq_ BK216.out);have n3_:=am (blk_at hq_ BK217.out);have n4_:=am (below_at hq_ HB.out);clear hq_ HO223 BK215 BK216 BK217 HB;have HO223:=n0_;have BK215:=n1_;have BK216:=n2_;have BK217:=n3_;have HB:=n4_;clear n0_ n1_ n2_ n3_ n4_))
             have n0_:=am (Kd.R_drew HO223.out)
             have n1_:=am (blk_drew BK215.out)
             have n2_:=am (blk_drew BK216.out)
             have n3_:=am (blk_drew BK217.out)
             have n4_:=am (below_drew1 HB.out)
             clear HO223 BK215 BK216 BK217 HB
             have HO223:=n0_
             have BK215:=n1_
             have BK216:=n2_
             have BK217:=n3_
             have HB:=n4_
             clear n0_ n1_ n2_ n3_ n4_
             have p45:0≤(a1_0:Int):=bD_
             have q45:(a1_0:Int) < ((t221.length:Int):Int):=bD_
             obtain⟨go45,co45,eo45,gb45,gl45,cl45,HG45⟩:=Kd.R_form HO223.out (by omega)
             (first|cases eo45|(injection eo45 with ea_ en_ ec_;(first|subst ea_|(injection ea_ with ea_;subst ea_));subst ec_;clear en_))
             have GB45:=am gb45
             have GG45:=am HG45
             clear gb45 gl45 HG45
             obtain⟨hx45_0,hf45_0⟩:=Kd.R_celln 0 HO223.out (a1_0:Int) p45 q45
             replace hx45_0:=(show _=some (Value.int .i64 (rd t221 a1_0)) from hx45_0)
             replace p45:=eq_true p45
             replace q45:=eq_true q45
             have p48:0≤(a1_1:Int):=bD_
             have q48:(a1_1:Int) < ((t221.length:Int):Int):=bD_
             obtain⟨hx48_0,hf48_0⟩:=Kd.R_celln 0 HO223.out (a1_1:Int) p48 q48
             replace hx48_0:=(show _=some (Value.int .i64 (rd t221 a1_1)) from hx48_0)
             replace p48:=eq_true p48
             replace q48:=eq_true q48
             refine start_ (n:=12) (S:=fun w'=>w'.cell? ⟨gb215,0,none⟩=some (.slice (some ⟨go45,0,none⟩) t221.length co207)∧w'.cell? ⟨gb215,1,none⟩=some (.int .i64 a0_1)∧w'.cell? ⟨gb215,2,none⟩=some (.bool a0_2)∧w'.cell? ⟨gb216,0,none⟩=some (.int .i64 a1_0)∧w'.cell? ⟨gb216,1,none⟩=some (.int .i64 a1_1)) (ds:=[]) #[false,false,false,false,false,false,false,false,false,false,false,false] (b4_) rfl rfl ⟨(blk_cell BK215.out 0).trans rfl,(blk_cell BK215.out 1).trans rfl,(blk_cell BK215.out 2).trans rfl,(blk_cell BK216.out 0).trans rfl,(blk_cell BK216.out 1).trans rfl⟩ (fun hHeld => ?_);refine with_tabW impl_MeetBoth.tab4 impl_MeetBoth.bits4 (fun HT_ HW_ => ?_)
             generalize w209.drew=w210 at HO223 BK215 BK216 BK217 HB GG45 hf45_0 hf48_0 hx45_0 hx48_0 hHeld ⊢
             refine pure_ (i:=0) (N:=some 43) (v:=?_) (a':=?_) #[true,false,false,false,false,false,false,false,false,false,false,false] rfl rfl (any_of HT_.out (b4_)) (fun _ _ _ h=>h) (Or.inl ⟨by rfl,?_⟩) ?_ ?_
             rotate_left
             ·intro w'
              go_simp
              with_reducible rfl
             rotate_left
             ·simp only[Act.put,zA,zB,zC,i64_w,i32_w]
              rfl
             refine pure_ (i:=2) (N:=some 45) (v:=?_) (a':=?_) #[true,false,true,false,false,false,false,false,false,false,false,false] rfl rfl (any_of HT_.out (b4_)) (fun _ _ _ h=>h) (Or.inl ⟨by rfl,?_⟩) ?_ ?_
             rotate_left
             ·intro w'
              go_simp
              with_reducible rfl
             rotate_left
             ·simp only[Act.put,zA,zB,zC,i64_w,i32_w]
              rfl
             refine pure_ (i:=5) (N:=some 48) (v:=?_) (a':=?_) #[true,false,true,false,false,true,false,false,false,false,false,false] rfl rfl (any_of HT_.out (b4_)) (fun _ _ _ h=>h) (Or.inl ⟨by rfl,?_⟩) ?_ ?_
             rotate_left
             ·intro w'
              go_simp
              with_reducible rfl
             rotate_left
             ·simp only[Act.put,zA,zB,zC,i64_w,i32_w]
              rfl
             refine pure_ (i:=7) (N:=some 50) (v:=?_) (a':=?_) #[true,false,true,false,false,true,false,true,false,false,false,false] rfl rfl (any_of HT_.out (b4_)) (fun _ _ _ h=>h) (Or.inl ⟨by rfl,?_⟩) ?_ ?_
             rotate_left
             ·intro w'
              go_simp
              with_reducible rfl
             rotate_left
             ·simp only[Act.put,zA,zB,zC,i64_w,i32_w]
              rfl
             refine take_ (i:=1) (N:=some 44) (v:=?_) (a':=?_) #[true,true,true,false,false,true,false,true,false,false,false,false] rfl rfl (take_ofW HT_.out HW_.out (b4_)) (fun _ _ _ h=>h) (Or.inl ⟨by rfl,?_⟩) hHeld ?_ ?_
             rotate_left
             ·rintro w' ⟨s0,s1,s2,s3,s4⟩
              go_simp
              with_reducible rfl
             rotate_left
             ·simp only[Act.put,zA,zB,zC,i64_w,i32_w]
              rfl
             refine take_ (i:=3) (N:=some 46) (v:=?_) (a':=?_) #[true,true,true,true,false,true,false,true,false,false,false,false] rfl rfl (take_ofW HT_.out HW_.out (b4_)) (fun _ _ _ h=>h) (Or.inl ⟨by rfl,?_⟩) hHeld ?_ ?_
             rotate_left
             ·rintro w' ⟨s0,s1,s2,s3,s4⟩
              go_simp
              with_reducible rfl
             rotate_left
             ·simp only[Act.put,zA,zB,zC,i64_w,i32_w]
              rfl
             refine pure_ (i:=4) (N:=some 47) (v:=?_) (a':=?_) #[true,true,true,true,true,true,false,true,false,false,false,false] rfl rfl (any_of HT_.out (b4_)) (fun _ _ _ h=>h) (Or.inl ⟨by rfl,?_⟩) ?_ ?_
             rotate_left
             ·intro w'
              go_simp
              with_reducible rfl
             rotate_left
             ·simp only[Act.put,zA,zB,zC,i64_w,i32_w]
              rfl
             refine pure_ (i:=10) (N:=some 6) (v:=?_) (a':=?_) #[true,true,true,true,true,true,false,true,false,false,true,false] rfl rfl (any_of HT_.out (b4_)) (fun _ _ _ h=>h) (Or.inl ⟨by rfl,?_⟩) ?_ ?_
             rotate_left
             ·intro w'
              go_simp
              with_reducible rfl
             rotate_left
             ·simp only[Act.put,zA,zB,zC,i64_w,i32_w]
              rfl
             refine take_ (i:=6) (N:=some 49) (v:=?_) (a':=?_) #[true,true,true,true,true,true,true,true,false,false,true,false] rfl rfl (take_ofW HT_.out HW_.out (b4_)) (fun _ _ _ h=>h) (Or.inl ⟨by rfl,?_⟩) hHeld ?_ ?_
             rotate_left
             ·rintro w' ⟨s0,s1,s2,s3,s4⟩
              go_simp
              with_reducible rfl
             rotate_left
             ·simp only[Act.put,zA,zB,zC,i64_w,i32_w]
              rfl
             refine take_ (i:=8) (N:=some 51) (v:=?_) (a':=?_) #[true,true,true,true,true,true,true,true,true,false,true,false] rfl rfl (take_ofW HT_.out HW_.out (b4_)) (fun _ _ _ h=>h) (Or.inl ⟨by rfl,?_⟩) hHeld ?_ ?_
             rotate_left
             ·rintro w' ⟨s0,s1,s2,s3,s4⟩
              go_simp
              with_reducible rfl
             rotate_left
             ·simp only[Act.put,zA,zB,zC,i64_w,i32_w]
              rfl
             refine pure_ (i:=9) (N:=some 52) (v:=?_) (a':=?_) #[true,true,true,true,true,true,true,true,true,true,true,false] rfl rfl (any_of HT_.out (b4_)) (fun _ _ _ h=>h) (Or.inl ⟨by rfl,?_⟩) ?_ ?_
             rotate_left
             ·intro w'
              go_simp
              with_reducible rfl
             rotate_left
             ·simp only[Act.put,zA,zB,zC,i64_w,i32_w]
              rfl
             refine pure_ (i:=11) (N:=some 7) (v:=?_) (a':=?_) #[true,true,true,true,true,true,true,true,true,true,true,true] rfl rfl (any_of HT_.out (b4_)) (fun _ _ _ h=>h) (Or.inl ⟨by rfl,?_⟩) ?_ ?_
             rotate_left
             ·intro w'
              go_simp
              with_reducible rfl
             rotate_left
             ·simp only[Act.put,zA,zB,zC,i64_w,i32_w]
              rfl
             refine done_ (done_of HT_.out (b4_)) ?_
             have hnb211:=NB216_217.out
             have hnc211:=NB217_216.out
             obtain⟨hcz212_0,hcz212_1⟩:=cC2 BK216.out
             obtain⟨hfz212_0,hfz212_1⟩:=cF2 BK216.out
             obtain⟨hcz213_0,hcz213_1,hcz213_2⟩:=cC3 BK215.out
             obtain⟨hfz213_0,hfz213_1,hfz213_2⟩:=cF3 BK215.out
             have p228:0≤(a1_0:Int):=bD_
             have q228:a1_0 < (t221.length:Int):=bD_
             obtain⟨ad228,e228,hx228_0⟩:=Kd.at_int (Kd.R_reads' HO223.out).2.2 a1_0 p228 q228
             obtain rfl:(⟨go45,0,none⟩:Addr)=ad228:=(by injection e228)
             (first|simp only[add_plain] at hx228_0|simp only[add_at] at hx228_0|simp only[Addr.add,Nat.zero_add] at hx228_0|skip)
             replace p228:=eq_true p228
             replace q228:=eq_true q228
             have p242:0≤(a1_1:Int):=bD_
             have q242:a1_1 < (t221.length:Int):=bD_
             obtain⟨ad242,e242,hx242_0⟩:=Kd.at_int (Kd.R_reads' HO223.out).2.2 a1_1 p242 q242
             obtain rfl:(⟨go45,0,none⟩:Addr)=ad242:=(by injection e242)
             (first|simp only[add_plain] at hx242_0|simp only[add_at] at hx242_0|simp only[Addr.add,Nat.zero_add] at hx242_0|skip)
             replace p242:=eq_true p242
             replace q242:=eq_true q242
             have p243:0≤(a1_0:Int):=bD_
             have q243:a1_0 < (t221.length:Int):=bD_
             obtain⟨ad243,e243,hx243_0⟩:=Kd.at_int (Kd.R_reads' HO223.out).2.2 a1_0 p243 q243
             obtain rfl:(⟨go45,0,none⟩:Addr)=ad243:=(by injection e243)
             (first|simp only[add_plain] at hx243_0|simp only[add_at] at hx243_0|simp only[Addr.add,Nat.zero_add] at hx243_0|skip)
             replace p243:=eq_true p243
             replace q243:=eq_true q243
             obtain⟨hcz214_0,hcz214_1,hcz214_2⟩:=cC3 BK217.out
             obtain⟨hfz214_0,hfz214_1,hfz214_2⟩:=cF3 BK217.out
             try go_wp2
             refine bodyPost_ret (results_ct rfl _ _ gb217 62 #[.slice (some ⟨go45,0,none⟩) t221.length co207,.int .i64 a0_1,.bool a0_2] (0,0) _ rfl (by(with_reducible repeat (first|refine blk_drewN ?_ _|refine blk_drew ?_|refine blk_alloc ?_ _));apply bU3;(with_reducible repeat (first|refine blk_drewN ?_ _|refine blk_drew ?_|refine blk_alloc ?_ _));exact BK217.out) Try.underlying62 rfl (b4_)) rfl ?_
             exact⟨_,by first|rfl|(simp[errW_none,errW_some]<;>rfl)|(simp[*,errW_none,errW_some]<;>rfl),by(with_reducible repeat (first|apply Kd.R_alloc|apply Kd.R_drewN|apply Kd.R_drew));exact Kd.R_mono (Kd.R_far (p:=⟨gb217,2,none⟩) (Kd.R_far (p:=⟨gb217,1,none⟩) (Kd.R_far (p:=⟨gb217,0,none⟩) (Kd.R_types HO223.out BK217.out (b17_)) (fun _ hk=>hk.2) (.slice (some ⟨go45,0,none⟩) t221.length co207)) (fun _ hk=>hk.2) (.int .i64 a0_1)) (fun _ hk=>hk.2) (.bool a0_2)) (fun _ hk=>trivial),bS3 GE215.out GE216.out GE217.out⟩
           ·rw[if_neg c181] at H
            have c181b0:decide (2≤(rd t221 a1_1))=false:=decide_eq_false c181
            clear c181
            simp only[Option.some.injEq,Prod.mk.injEq] at H
            obtain⟨rfl,rfl,rfl,rfl⟩:=H
            have hnb215:=NB215_216.out
            have hnc215:=NB216_215.out
            have hnb216:=NB215_217.out
            have hnc216:=NB217_215.out
            obtain⟨hcz217_0,hcz217_1,hcz217_2⟩:=cC3 BK215.out
            obtain⟨hfz217_0,hfz217_1,hfz217_2⟩:=cF3 BK215.out
            try go_wp2_with (first|((with_reducible refine gate_callee (f:=98) rfl ?_);refine goesA (some 41) rfl rfl Try.func98 #[.slice A0_0 l0_0.length c0_0] rfl ?_;(with_reducible refine(slices_Clone_int_int.calls _ _ l0_0 t221 _ ?side1 ?side2 A42.out).mono ?_);(case side1=>exact bC HR0_0.out);(case side2=>exact HC0_0.out);rintro e w218 ⟨v222,rfl,ho0,hb⟩;refine⟨_,rfl,?_⟩;have n0_:=am (Kd.R_lower ho0 (below_size (bS3 GE215.out GE216.out GE217.out)));have n1_:=am (bM BK215.out hb);have n2_:=am (bM BK216.out hb);have n3_:=am (bM BK217.out hb);have n4_:=am (below_step (bS3 GE215.out GE216.out GE217.out) hb);clear BK215 BK216 BK217 HB;have HO223:=n0_;have BK215:=n1_;have BK216:=n2_;have BK217:=n3_;have HB:=n4_;clear n0_ n1_ n2_ n3_ n4_;(try clear hb);(try clear hb2);(try clear hk);(try clear hi);(try clear ho0);obtain⟨Ao219,co219,eo219⟩:=Kd.R_slice HO223.out;subst eo219;obtain⟨hcz220_0,hcz220_1,hcz220_2⟩:=cC3 BK215.out;obtain⟨hfz220_0,hfz220_1,hfz220_2⟩:=cF3 BK215.out))
            have n0_:Aside0 (Kd.R (Kd.int .i64) 3 (w218.setCell ⟨gb215,0,none⟩ (.slice Ao219 t221.length co219)) w.heap.size (fun _=>True) (.slice Ao219 t221.length co219) t221):=⟨by(with_reducible repeat (first|apply Kd.R_alloc|apply Kd.R_drewN|apply Kd.R_drew));exact Kd.R_mono (Kd.R_far (p:=⟨gb215,0,none⟩) (Kd.R_types HO223.out BK215.out (b17_)) (fun _ hk=>hk.2) (.slice Ao219 t221.length co219)) (fun _ hk=>trivial)⟩
            have n1_:Aside0 ((w218.setCell ⟨gb215,0,none⟩ (.slice Ao219 t221.length co219)).heap[gb215]?=some (.cells #[.slice Ao219 t221.length co219,.int .i64 a0_1,.bool a0_2] 62 (0,0))):=⟨by(with_reducible repeat (first|refine blk_drewN ?_ _|refine blk_drew ?_|refine blk_alloc ?_ _));refine blk_put (cs:=#[.slice A0_0 l0_0.length c0_0,.int .i64 a0_1,.bool a0_2]) ?_ 0 _ rfl;(with_reducible repeat (first|refine blk_drewN ?_ _|refine blk_drew ?_|refine blk_alloc ?_ _));exact BK215.out⟩
            have n2_:Aside0 ((w218.setCell ⟨gb215,0,none⟩ (.slice Ao219 t221.length co219)).heap[gb216]?=some (.cells #[.int .i64 a1_0,.int .i64 a1_1] 72 (0,0))):=⟨by(with_reducible repeat (first|refine blk_drewN ?_ _|refine blk_drew ?_|refine blk_alloc ?_ _));refine blk_far ?_ NB216_215.out _;(with_reducible repeat (first|refine blk_drewN ?_ _|refine blk_drew ?_|refine blk_alloc ?_ _));exact BK216.out⟩
            have n3_:Aside0 ((w218.setCell ⟨gb215,0,none⟩ (.slice Ao219 t221.length co219)).heap[gb217]?=some (.cells #[.slice none 0 0,.int .i64 0,.bool false] 62 (0,0))):=⟨by(with_reducible repeat (first|refine blk_drewN ?_ _|refine blk_drew ?_|refine blk_alloc ?_ _));refine blk_far ?_ NB217_215.out _;(with_reducible repeat (first|refine blk_drewN ?_ _|refine blk_drew ?_|refine blk_alloc ?_ _));exact BK217.out⟩
            have n4_:Aside0 (Below w.heap.size w (w218.setCell ⟨gb215,0,none⟩ (.slice Ao219 t221.length co219))):=⟨bS3 GE215.out GE216.out GE217.out⟩
            (try clear HO223)
            (try clear BK215)
            (try clear BK216)
            (try clear BK217)
            (try clear HB)
            generalize (w218.setCell ⟨gb215,0,none⟩ (.slice Ao219 t221.length co219))=w221 at n0_ n1_ n2_ n3_ n4_ ⊢
            have HO223:=n0_
            have BK215:=n1_
            have BK216:=n2_
            have BK217:=n3_
            have HB:=n4_
            clear n0_ n1_ n2_ n3_ n4_
            (try (rw[drewN_self w221];generalize hq_:World.drewN w221 _=w221;have n0_:=am (Kd.R_at hq_ HO223.out);have n1_:=am (blk_at hq_ BK215.out);have n2_:=am (blk_at hq_ BK216.out);have n3_:=am (blk_at hq_ BK217.out);have n4_:=am (below_at hq_ HB.out);clear hq_ HO223 BK215 BK216 BK217 HB;have HO223:=n0_;have BK215:=n1_;have BK216:=n2_;have BK217:=n3_;have HB:=n4_;clear n0_ n1_ n2_ n3_ n4_))
            have n0_:=am (Kd.R_drew HO223.out)
            have n1_:=am (blk_drew BK215.out)
            have n2_:=am (blk_drew BK216.out)
            have n3_:=am (blk_drew BK217.out)
            have n4_:=am (below_drew1 HB.out)
            clear HO223 BK215 BK216 BK217 HB
            have HO223:=n0_
            have BK215:=n1_
            have BK216:=n2_
            have BK217:=n3_
            have HB:=n4_
            clear n0_ n1_ n2_ n3_ n4_
            have p45:0≤(a1_0:Int):=bD_
            have q45:(a1_0:Int) < ((t221.length:Int):Int):=bD_
            obtain⟨go45,co45,eo45,gb45,gl45,cl45,HG45⟩:=Kd.R_form HO223.out (by omega)
            (first|cases eo45|(injection eo45 with ea_ en_ ec_;(first|subst ea_|(injection ea_ with ea_;subst ea_));subst ec_;clear en_))
            have GB45:=am gb45
            have GG45:=am HG45
            clear gb45 gl45 HG45
            obtain⟨hx45_0,hf45_0⟩:=Kd.R_celln 0 HO223.out (a1_0:Int) p45 q45
            replace hx45_0:=(show _=some (Value.int .i64 (rd t221 a1_0)) from hx45_0)
            replace p45:=eq_true p45
            replace q45:=eq_true q45
            have p48:0≤(a1_1:Int):=bD_
            have q48:(a1_1:Int) < ((t221.length:Int):Int):=bD_
            obtain⟨hx48_0,hf48_0⟩:=Kd.R_celln 0 HO223.out (a1_1:Int) p48 q48
            replace hx48_0:=(show _=some (Value.int .i64 (rd t221 a1_1)) from hx48_0)
            replace p48:=eq_true p48
            replace q48:=eq_true q48
            refine start_ (n:=12) (S:=fun w'=>w'.cell? ⟨gb215,0,none⟩=some (.slice (some ⟨go45,0,none⟩) t221.length co219)∧w'.cell? ⟨gb215,1,none⟩=some (.int .i64 a0_1)∧w'.cell? ⟨gb215,2,none⟩=some (.bool a0_2)∧w'.cell? ⟨gb216,0,none⟩=some (.int .i64 a1_0)∧w'.cell? ⟨gb216,1,none⟩=some (.int .i64 a1_1)) (ds:=[]) #[false,false,false,false,false,false,false,false,false,false,false,false] (b4_) rfl rfl ⟨(blk_cell BK215.out 0).trans rfl,(blk_cell BK215.out 1).trans rfl,(blk_cell BK215.out 2).trans rfl,(blk_cell BK216.out 0).trans rfl,(blk_cell BK216.out 1).trans rfl⟩ (fun hHeld => ?_);refine with_tabW impl_MeetBoth.tab4 impl_MeetBoth.bits4 (fun HT_ HW_ => ?_)
            generalize w221.drew=w222 at HO223 BK215 BK216 BK217 HB GG45 hf45_0 hf48_0 hx45_0 hx48_0 hHeld ⊢
            refine pure_ (i:=0) (N:=some 43) (v:=?_) (a':=?_) #[true,false,false,false,false,false,false,false,false,false,false,false] rfl rfl (any_of HT_.out (b4_)) (fun _ _ _ h=>h) (Or.inl ⟨by rfl,?_⟩) ?_ ?_
            rotate_left
            ·intro w'
             go_simp
             with_reducible rfl
            rotate_left
            ·simp only[Act.put,zA,zB,zC,i64_w,i32_w]
             rfl
            refine pure_ (i:=2) (N:=some 45) (v:=?_) (a':=?_) #[true,false,true,false,false,false,false,false,false,false,false,false] rfl rfl (any_of HT_.out (b4_)) (fun _ _ _ h=>h) (Or.inl ⟨by rfl,?_⟩) ?_ ?_
            rotate_left
            ·intro w'
             go_simp
             with_reducible rfl
            rotate_left
            ·simp only[Act.put,zA,zB,zC,i64_w,i32_w]
             rfl
            refine pure_ (i:=5) (N:=some 48) (v:=?_) (a':=?_) #[true,false,true,false,false,true,false,false,false,false,false,false] rfl rfl (any_of HT_.out (b4_)) (fun _ _ _ h=>h) (Or.inl ⟨by rfl,?_⟩) ?_ ?_
            rotate_left
            ·intro w'
             go_simp
             with_reducible rfl
            rotate_left
            ·simp only[Act.put,zA,zB,zC,i64_w,i32_w]
             rfl
            refine pure_ (i:=7) (N:=some 50) (v:=?_) (a':=?_) #[true,false,true,false,false,true,false,true,false,false,false,false] rfl rfl (any_of HT_.out (b4_)) (fun _ _ _ h=>h) (Or.inl ⟨by rfl,?_⟩) ?_ ?_
            rotate_left
            ·intro w'
             go_simp
             with_reducible rfl
            rotate_left
            ·simp only[Act.put,zA,zB,zC,i64_w,i32_w]
             rfl
            refine take_ (i:=1) (N:=some 44) (v:=?_) (a':=?_) #[true,true,true,false,false,true,false,true,false,false,false,false] rfl rfl (take_ofW HT_.out HW_.out (b4_)) (fun _ _ _ h=>h) (Or.inl ⟨by rfl,?_⟩) hHeld ?_ ?_
            rotate_left
            ·rintro w' ⟨s0,s1,s2,s3,s4⟩
             go_simp
             with_reducible rfl
            rotate_left
            ·simp only[Act.put,zA,zB,zC,i64_w,i32_w]
             rfl
            refine take_ (i:=3) (N:=some 46) (v:=?_) (a':=?_) #[true,true,true,true,false,true,false,true,false,false,false,false] rfl rfl (take_ofW HT_.out HW_.out (b4_)) (fun _ _ _ h=>h) (Or.inl ⟨by rfl,?_⟩) hHeld ?_ ?_
            rotate_left
            ·rintro w' ⟨s0,s1,s2,s3,s4⟩
             go_simp
             with_reducible rfl
            rotate_left
            ·simp only[Act.put,zA,zB,zC,i64_w,i32_w]
             rfl
            refine pure_ (i:=4) (N:=some 47) (v:=?_) (a':=?_) #[true,true,true,true,true,true,false,true,false,false,false,false] rfl rfl (any_of HT_.out (b4_)) (fun _ _ _ h=>h) (Or.inl ⟨by rfl,?_⟩) ?_ ?_
            rotate_left
            ·intro w'
             go_simp
             with_reducible rfl
            rotate_left
            ·simp only[Act.put,zA,zB,zC,i64_w,i32_w]
             rfl
            refine pure_ (i:=10) (N:=some 6) (v:=?_) (a':=?_) #[true,true,true,true,true,true,false,true,false,false,true,false] rfl rfl (any_of HT_.out (b4_)) (fun _ _ _ h=>h) (Or.inl ⟨by rfl,?_⟩) ?_ ?_
            rotate_left
            ·intro w'
             go_simp
             with_reducible rfl
            rotate_left
            ·simp only[Act.put,zA,zB,zC,i64_w,i32_w]
             rfl
            refine take_ (i:=6) (N:=some 49) (v:=?_) (a':=?_) #[true,true,true,true,true,true,true,true,false,false,true,false] rfl rfl (take_ofW HT_.out HW_.out (b4_)) (fun _ _ _ h=>h) (Or.inl ⟨by rfl,?_⟩) hHeld ?_ ?_
            rotate_left
            ·rintro w' ⟨s0,s1,s2,s3,s4⟩
             go_simp
             with_reducible rfl
            rotate_left
            ·simp only[Act.put,zA,zB,zC,i64_w,i32_w]
             rfl
            refine take_ (i:=8) (N:=some 51) (v:=?_) (a':=?_) #[true,true,true,true,true,true,true,true,true,false,true,false] rfl rfl (take_ofW HT_.out HW_.out (b4_)) (fun _ _ _ h=>h) (Or.inl ⟨by rfl,?_⟩) hHeld ?_ ?_
            rotate_left
            ·rintro w' ⟨s0,s1,s2,s3,s4⟩
             go_simp
             with_reducible rfl
            rotate_left
            ·simp only[Act.put,zA,zB,zC,i64_w,i32_w]
             rfl
            refine pure_ (i:=9) (N:=some 52) (v:=?_) (a':=?_) #[true,true,true,true,true,true,true,true,true,true,true,false] rfl rfl (any_of HT_.out (b4_)) (fun _ _ _ h=>h) (Or.inl ⟨by rfl,?_⟩) ?_ ?_
            rotate_left
            ·intro w'
             go_simp
             with_reducible rfl
            rotate_left
            ·simp only[Act.put,zA,zB,zC,i64_w,i32_w]
             rfl
            refine pure_ (i:=11) (N:=some 7) (v:=?_) (a':=?_) #[true,true,true,true,true,true,true,true,true,true,true,true] rfl rfl (any_of HT_.out (b4_)) (fun _ _ _ h=>h) (Or.inl ⟨by rfl,?_⟩) ?_ ?_
            rotate_left
            ·intro w'
             go_simp
             with_reducible rfl
            rotate_left
            ·simp only[Act.put,zA,zB,zC,i64_w,i32_w]
             rfl
            refine done_ (done_of HT_.out (b4_)) ?_
            have hnb223:=NB216_217.out
            have hnc223:=NB217_216.out
            obtain⟨hcz224_0,hcz224_1⟩:=cC2 BK216.out
            obtain⟨hfz224_0,hfz224_1⟩:=cF2 BK216.out
            obtain⟨hcz225_0,hcz225_1,hcz225_2⟩:=cC3 BK215.out
            obtain⟨hfz225_0,hfz225_1,hfz225_2⟩:=cF3 BK215.out
            have p228:0≤(a1_0:Int):=bD_
            have q228:a1_0 < (t221.length:Int):=bD_
            obtain⟨ad228,e228,hx228_0⟩:=Kd.at_int (Kd.R_reads' HO223.out).2.2 a1_0 p228 q228
            obtain rfl:(⟨go45,0,none⟩:Addr)=ad228:=(by injection e228)
            (first|simp only[add_plain] at hx228_0|simp only[add_at] at hx228_0|simp only[Addr.add,Nat.zero_add] at hx228_0|skip)
            replace p228:=eq_true p228
            replace q228:=eq_true q228
            have p242:0≤(a1_1:Int):=bD_
            have q242:a1_1 < (t221.length:Int):=bD_
            obtain⟨ad242,e242,hx242_0⟩:=Kd.at_int (Kd.R_reads' HO223.out).2.2 a1_1 p242 q242
            obtain rfl:(⟨go45,0,none⟩:Addr)=ad242:=(by injection e242)
            (first|simp only[add_plain] at hx242_0|simp only[add_at] at hx242_0|simp only[Addr.add,Nat.zero_add] at hx242_0|skip)
            replace p242:=eq_true p242
            replace q242:=eq_true q242
            obtain⟨hcz226_0,hcz226_1,hcz226_2⟩:=cC3 BK217.out
            obtain⟨hfz226_0,hfz226_1,hfz226_2⟩:=cF3 BK217.out
            try go_wp2
            refine bodyPost_ret (results_ct rfl _ _ gb217 62 #[.slice (some ⟨go45,0,none⟩) t221.length co219,.int .i64 a0_1,.bool a0_2] (0,0) _ rfl (by(with_reducible repeat (first|refine blk_drewN ?_ _|refine blk_drew ?_|refine blk_alloc ?_ _));apply bU3;(with_reducible repeat (first|refine blk_drewN ?_ _|refine blk_drew ?_|refine blk_alloc ?_ _));exact BK217.out) Try.underlying62 rfl (b4_)) rfl ?_
            exact⟨_,by first|rfl|(simp[errW_none,errW_some]<;>rfl)|(simp[*,errW_none,errW_some]<;>rfl),by(with_reducible repeat (first|apply Kd.R_alloc|apply Kd.R_drewN|apply Kd.R_drew));exact Kd.R_mono (Kd.R_far (p:=⟨gb217,2,none⟩) (Kd.R_far (p:=⟨gb217,1,none⟩) (Kd.R_far (p:=⟨gb217,0,none⟩) (Kd.R_types HO223.out BK217.out (b17_)) (fun _ hk=>hk.2) (.slice (some ⟨go45,0,none⟩) t221.length co219)) (fun _ hk=>hk.2) (.int .i64 a0_1)) (fun _ hk=>hk.2) (.bool a0_2)) (fun _ hk=>trivial),bS3 GE215.out GE216.out GE217.out⟩
       ·rw[if_neg c47] at H
        exact absurd H (by simp)
      ·rw[if_neg c46] at H
       exact absurd H (by simp)
     ·rw[if_neg c44] at H
      exact absurd H (by simp)
    ·rw[if_neg c43] at H
     exact absurd H (by simp)

end Go.Proofs.Yteneeohaoplpbaa.XFnSpray
