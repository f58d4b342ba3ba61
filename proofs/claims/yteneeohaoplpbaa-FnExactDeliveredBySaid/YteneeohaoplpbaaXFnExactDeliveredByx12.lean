-- Written by this session's own program (wip/xprint.py) out of the translation; Lean checks it.
import Derived.Test.YteneeohaoplpbaaXFnExactDeliveredByx0
import Derived.Test.YteneeohaoplpbaaXFnExactDeliveredByx6
import Derived.Test.YteneeohaoplpbaaXFnExactDeliveredByx11
namespace Go.Proofs.Yteneeohaoplpbaa.XFnExactDeliveredBy
open Go.RowKit Go.Proofs.YteneeohaoplpbaaW.PrintWords Go.Proofs.YteneeohaoplpbaaW.PrintLast Go.Proofs.YteneeohaoplpbaaW.PrintMore
attribute [local go_sem] max2_int min2_int max_two min_two max_three min_three max_four min_four   -- for this text's walks alone
set_option linter.unusedVariables false
set_option linter.unusedSimpArgs false

/-! ### impl_DeliveredBy: function 60 -/
mutual
def impl_DeliveredBy.j0:Nat→Int→List (S157)→Bool→Option (List Int × Bool)
 | 0,_,_,_=>none
 | k+1,x3,x10,x28=>if x28=true then (some (([]:List Int),false)) else (impl_DeliveredBy.l0 k x3 (([]:List Int)) x10 (x10.length:Int) 0)
def impl_DeliveredBy.l0:Nat→Int→List Int→List (S157)→Int→Int→Option (List Int × Bool)
 | 0,_,_,_,_,_=>none
 | k+1,x3,x12,x30,x31,x32=>if x32 < x31 then (if 0≤x32 then (if x32 < (x30.length:Int) then (if ((rd_T157 x30 x32).f1)≤x3 then (if x12.length < 17592186044416 then (impl_DeliveredBy.l0 k x3 (x12++[(rd_T157 x30 x32).f0]) x30 x31 (wrap64 (x32+1))) else (none)) else (impl_DeliveredBy.l0 k x3 x12 x30 x31 (wrap64 (x32+1)))) else (none)) else (none)) else (some (x12,true))
end
def impl_DeliveredBy.f (k:Nat) (l0:List (S104)) (a1_0:Int) (a1_1:Int) (a1_2:Bool) (a1_3:Int) (a1_4:Int) (a1_5:Int) (a1_6:Int) (a1_7:Int) (a1_8:Int) (a1_9:ByteArray) (l2:List Int) (a3:Int):Option (List Int × Bool):=(impl_ReachAll.f k l0 a1_0 a1_1 a1_2 a1_3 a1_4 a1_5 a1_6 a1_7 a1_8 a1_9 l2).bind fun bt324=>(if bt324.2=true then ((impl_within.f a3 0 2000).bind fun t328=>(impl_DeliveredBy.j0 k a3 bt324.1 (!t328))) else (impl_DeliveredBy.j0 k a3 bt324.1 true))
theorem impl_DeliveredBy.mono_l : ∀ k,(∀ y0 y1 y2,LeO (impl_DeliveredBy.j0 k y0 y1 y2) (impl_DeliveredBy.j0 (k+1) y0 y1 y2))∧(∀ y0 y1 y2 y3 y4,LeO (impl_DeliveredBy.l0 k y0 y1 y2 y3 y4) (impl_DeliveredBy.l0 (k+1) y0 y1 y2 y3 y4))
 | 0=>⟨fun _ _ _ r h=>by simp[impl_DeliveredBy.j0] at h,fun _ _ _ _ _ r h=>by simp[impl_DeliveredBy.l0] at h⟩
 | k+1=>by
  obtain⟨ih0,ih1⟩:=impl_DeliveredBy.mono_l k
  refine⟨?_,?_⟩
  ·intro y0 y1 y2
   unfold impl_DeliveredBy.j0
   repeat' first
   | (with_reducible exact ih0 _ _ _)
   | (with_reducible exact ih1 _ _ _ _ _)
   | (with_reducible exact impl_ReachAll.mono _ _ _ _ _ _ _ _ _ _ _ _ _)
   | (with_reducible exact LeO.refl _)
   | (with_reducible exact LeO.none _)
   | (with_reducible refine LeO.ite ?_ ?_)
   | (with_reducible refine LeO.bind ?_ (fun _ => ?_))
   | exact ih0 _ _ _
   | exact ih1 _ _ _ _ _
   | exact impl_ReachAll.mono _ _ _ _ _ _ _ _ _ _ _ _ _
   | exact LeO.none _
   | refine LeO.ite ?_ ?_
   | refine LeO.bind ?_ (fun _ => ?_)
  ·intro y0 y1 y2 y3 y4
   unfold impl_DeliveredBy.l0
   repeat' first
   | (with_reducible exact ih0 _ _ _)
   | (with_reducible exact ih1 _ _ _ _ _)
   | (with_reducible exact impl_ReachAll.mono _ _ _ _ _ _ _ _ _ _ _ _ _)
   | (with_reducible exact LeO.refl _)
   | (with_reducible exact LeO.none _)
   | (with_reducible refine LeO.ite ?_ ?_)
   | (with_reducible refine LeO.bind ?_ (fun _ => ?_))
   | exact ih0 _ _ _
   | exact ih1 _ _ _ _ _
   | exact impl_ReachAll.mono _ _ _ _ _ _ _ _ _ _ _ _ _
   | exact LeO.none _
   | refine LeO.ite ?_ ?_
   | refine LeO.bind ?_ (fun _ => ?_)
theorem impl_DeliveredBy.mono : ∀ a0 a1 a2 a3 a4 a5 a6 a7 a8 a9 a10 a11 a12 k,LeO (impl_DeliveredBy.f k a0 a1 a2 a3 a4 a5 a6 a7 a8 a9 a10 a11 a12) (impl_DeliveredBy.f (k+1) a0 a1 a2 a3 a4 a5 a6 a7 a8 a9 a10 a11 a12):=by
 intro a0 a1 a2 a3 a4 a5 a6 a7 a8 a9 a10 a11 a12 k
 obtain⟨ih0,ih1⟩:=impl_DeliveredBy.mono_l k
 unfold impl_DeliveredBy.f
 repeat' first
  | (with_reducible exact ih0 _ _ _)
  | (with_reducible exact ih1 _ _ _ _ _)
  | (with_reducible exact impl_ReachAll.mono _ _ _ _ _ _ _ _ _ _ _ _ _)
  | (with_reducible exact LeO.refl _)
  | (with_reducible exact LeO.none _)
  | (with_reducible refine LeO.ite ?_ ?_)
  | (with_reducible refine LeO.bind ?_ (fun _ => ?_))
  | exact ih0 _ _ _
  | exact ih1 _ _ _ _ _
  | exact impl_ReachAll.mono _ _ _ _ _ _ _ _ _ _ _ _ _
  | exact LeO.none _
  | refine LeO.ite ?_ ?_
  | refine LeO.bind ?_ (fun _ => ?_)
set_option maxHeartbeats 8000000 in
set_option maxRecDepth 100000 in
theorem impl_DeliveredBy.calls (k:Nat) (A0:Option Addr) (c0:Nat) (l0:List (S104)) (a1_0:Int) (a1_1:Int) (a1_2:Bool) (a1_3:Int) (a1_4:Int) (a1_5:Int) (a1_6:Int) (a1_7:Int) (a1_8:Int) (a1_9:ByteArray) (A2:Option Addr) (c2:Nat) (l2:List Int) (a3:Int) (r1:List Int) (r2:Bool) (w:World) (hr0:Kd.C k104 w A0 l0.length l0) (hc0:l0.length≤c0) (hr2:Kd.C (Kd.int .i64) w A2 l2.length l2) (hc2:l2.length≤c2) (h:impl_DeliveredBy.f k l0 a1_0 a1_1 a1_2 a1_3 a1_4 a1_5 a1_6 a1_7 a1_8 a1_9 l2 a3=some (r1,r2)) :
  Calls Try.prog 60 #[.slice A0 l0.length c0,.agg #[.int .i64 a1_0,.int .i64 a1_1,.bool a1_2,.int .i64 a1_3,.int .i64 a1_4,.int .i64 a1_5,.int .i64 a1_6,.int .i64 a1_7,.int .i64 a1_8,.string a1_9],.slice A2 l2.length c2,.int .i64 a3] w fun e w' => ∃ v0_:Value,e=.returned (.tuple #[v0_,.bool r2])∧Kd.R (Kd.int .i64) 3 w' w.heap.size (fun _=>True) v0_ r1∧Below w.heap.size w w':=by
 have hu86:=Try.underlying86
 have hu157:=Try.underlying157
 have HR0:=Aside0.mk hr0
 have HC0:=Aside0.mk hc0
 clear hr0 hc0
 have HR2:=Aside0.mk hr2
 have HC2:=Aside0.mk hc2
 clear hr2 hc2
 have HB:=Aside0.mk (Below.refl w.heap.size w)
 have H:((impl_ReachAll.f k l0 a1_0 a1_1 a1_2 a1_3 a1_4 a1_5 a1_6 a1_7 a1_8 a1_9 l2).bind fun bt324=>(if bt324.2=true then ((impl_within.f a3 0 2000).bind fun t328=>(impl_DeliveredBy.j0 k a3 bt324.1 (!t328))) else (impl_DeliveredBy.j0 k a3 bt324.1 true)))=some (r1,r2):=h
 clear h
 replace H:=Option.bind_eq_some_iff.mp H
 obtain⟨⟨t324,t327⟩,A50,H⟩:=H
 replace H:(if t327=true then ((impl_within.f a3 0 2000).bind fun t328=>(impl_DeliveredBy.j0 k a3 t324 (!t328))) else (impl_DeliveredBy.j0 k a3 t324 true))=some (r1,r2):=H
 have A5:=Aside0.mk A50
 clear A50
 have HC6:=Aside0.mk H
 clear H
 go_enter Try.func60,Try.ntmps60
 go_upto_region 2 with (first|((with_reducible refine gate_dst (N:=5) rfl ?_);refine box_event ?hg (N:=5) ?hd (cs:=#[.int .i64 a1_0,.int .i64 a1_1,.bool a1_2,.int .i64 a1_3,.int .i64 a1_4,.int .i64 a1_5,.int .i64 a1_6,.int .i64 a1_7,.int .i64 a1_8,.string a1_9]) (t:=86) ?hr ?_;(case hd=>rfl);(case hg=>rfl);(case hr=>first|(go_simp;done)|(go_simp;rfl));intro gb323 hg w7 hbox hb;have n0_:=Aside0.mk (below_step (bB) hb);have n1_:=Aside0.mk (hbox);have n2_:=Aside0.mk ((bG:w.heap.size≤gb323));have n3_:=Aside0.mk ((bG:w.heap.size≤gb323));clear HB;have HB:=n0_;have BK323:=n1_;have GW323:=n2_;have GE323:=n3_;clear n0_ n1_ n2_ n3_;clear hb hbox hg;have hcz8_0:w7.cell? ⟨gb323,0,none⟩=some (.int .i64 a1_0):=(blk_cell BK323.out 0).trans rfl;have hcz8_1:w7.cell? ⟨gb323,1,none⟩=some (.int .i64 a1_1):=(blk_cell BK323.out 1).trans rfl;have hcz8_2:w7.cell? ⟨gb323,2,none⟩=some (.bool a1_2):=(blk_cell BK323.out 2).trans rfl;have hcz8_3:w7.cell? ⟨gb323,3,none⟩=some (.int .i64 a1_3):=(blk_cell BK323.out 3).trans rfl;have hcz8_4:w7.cell? ⟨gb323,4,none⟩=some (.int .i64 a1_4):=(blk_cell BK323.out 4).trans rfl;have hcz8_5:w7.cell? ⟨gb323,5,none⟩=some (.int .i64 a1_5):=(blk_cell BK323.out 5).trans rfl;have hcz8_6:w7.cell? ⟨gb323,6,none⟩=some (.int .i64 a1_6):=(blk_cell BK323.out 6).trans rfl;have hcz8_7:w7.cell? ⟨gb323,7,none⟩=some (.int .i64 a1_7):=(blk_cell BK323.out 7).trans rfl;have hcz8_8:w7.cell? ⟨gb323,8,none⟩=some (.int .i64 a1_8):=(blk_cell BK323.out 8).trans rfl;have hcz8_9:w7.cell? ⟨gb323,9,none⟩=some (.string a1_9):=(blk_cell BK323.out 9).trans rfl;have hfz8_0:=blk_frozen BK323.out 0;have hfz8_1:=blk_frozen BK323.out 1;have hfz8_2:=blk_frozen BK323.out 2;have hfz8_3:=blk_frozen BK323.out 3;have hfz8_4:=blk_frozen BK323.out 4;have hfz8_5:=blk_frozen BK323.out 5;have hfz8_6:=blk_frozen BK323.out 6;have hfz8_7:=blk_frozen BK323.out 7;have hfz8_8:=blk_frozen BK323.out 8;have hfz8_9:=blk_frozen BK323.out 9)|((with_reducible refine gate_callee (f:=67) rfl ?_);refine goesA (some 19) rfl rfl Try.func67 #[.slice A0 l0.length c0,.agg #[.int .i64 a1_0,.int .i64 a1_1,.bool a1_2,.int .i64 a1_3,.int .i64 a1_4,.int .i64 a1_5,.int .i64 a1_6,.int .i64 a1_7,.int .i64 a1_8,.string a1_9],.slice A2 l2.length c2] rfl ?_;(with_reducible refine(impl_ReachAll.calls k _ _ l0 a1_0 a1_1 a1_2 a1_3 a1_4 a1_5 a1_6 a1_7 a1_8 a1_9 _ _ l2 t324 t327 _ ?side1 ?side2 ?side3 ?side4 A5.out).mono ?_);(case side1=>exact bC HR0.out);(case side2=>exact HC0.out);(case side3=>exact bC HR2.out);(case side4=>exact HC2.out);rintro e w9 ⟨v325,rfl,ho0,hb⟩;refine⟨_,rfl,?_⟩;have n0_:=Aside0.mk (Kd.S_lower ho0 (below_size (bS GE323.out)));have n1_:=Aside0.mk (blk_below (g:=gb323) (o:=.cells #[.int .i64 a1_0,.int .i64 a1_1,.bool a1_2,.int .i64 a1_3,.int .i64 a1_4,.int .i64 a1_5,.int .i64 a1_6,.int .i64 a1_7,.int .i64 a1_8,.string a1_9] 86 (0,0)) (bL BK323.out) hb);have n2_:=Aside0.mk (below_step (bS GE323.out) hb);clear BK323 HB;have HO326:=n0_;have BK323:=n1_;have HB:=n2_;clear n0_ n1_ n2_;(try clear hb);(try clear hb2);(try clear hk);(try clear hi);(try clear ho0)))
 (try simp only[Act.put,List.setIfInBounds_toArray,List.set_cons_zero,List.set_cons_succ])
 go_cut [28] (fun v28 wc => ∃ (kq:Nat) (x28_5:Bool),v28=.bool x28_5∧Aside0 (impl_DeliveredBy.j0 kq a3 t324 x28_5=some (r1,r2))∧Aside0 (kq≤k)∧Aside0 (Kd.S k157 157 wc w.heap.size (fun _=>True) v325 t324)∧Aside0 (wc.heap[gb323]?=some (.cells #[.int .i64 a1_0,.int .i64 a1_1,.bool a1_2,.int .i64 a1_3,.int .i64 a1_4,.int .i64 a1_5,.int .i64 a1_6,.int .i64 a1_7,.int .i64 a1_8,.string a1_9] 86 (0,0)))∧Aside0 (Below w.heap.size w wc))
 case first =>
  have H:=HC6.out
  clear HC6
  by_cases c10:t327=true
  ·subst c10
   have H1:((impl_within.f a3 0 2000).bind fun t328=>(impl_DeliveredBy.j0 k a3 t324 (!t328)))=some (r1,r2):=by rw[if_pos rfl] at H;exact H
   clear H
   have H:=H1
   clear H1
   replace H:=Option.bind_eq_some_iff.mp H
   obtain⟨t328,A110,H⟩:=H
   replace H:(impl_DeliveredBy.j0 k a3 t324 (!t328))=some (r1,r2):=H
   have A11:=Aside0.mk A110
   clear A110
   have H':=Aside0.mk H
   clear H
   go_wp2_with (first|(go_at_call 79;(with_reducible refine(impl_within.calls a3 0 2000 t328 _ A11.out).mono ?_);rintro e w' ⟨rfl,⟨nd,rfl⟩⟩))
   go_meet
   case rel=>exact⟨_,(!t328),(bR),H',⟨by first|omega|exact Nat.le_refl _⟩,⟨by(with_reducible repeat (first|apply Kd.S_alloc|apply Kd.S_drewN|apply Kd.S_drew));exact HO326.out⟩,⟨by(with_reducible repeat (first|refine blk_drewN ?_ _|refine blk_drew ?_|refine blk_alloc ?_ _));exact BK323.out⟩,⟨bS GE323.out⟩⟩
  ·replace c10:=Bool.eq_false_iff.mpr c10
   subst c10
   have H1:(impl_DeliveredBy.j0 k a3 t324 true)=some (r1,r2):=by rw[if_neg (show ¬ (false=true) by decide)] at H;exact H
   clear H
   have H:=H1
   clear H1
   have H':=Aside0.mk H
   clear H
   go_wp2
   go_meet
   case rel=>exact⟨_,(true),(bR),H',⟨by first|omega|exact Nat.le_refl _⟩,⟨by(with_reducible repeat (first|apply Kd.S_alloc|apply Kd.S_drewN|apply Kd.S_drew));exact HO326.out⟩,⟨by(with_reducible repeat (first|refine blk_drewN ?_ _|refine blk_drew ?_|refine blk_alloc ?_ _));exact BK323.out⟩,⟨bS GE323.out⟩⟩
 case rest =>
  clear HC6
  try clear c1
  try clear c2
  try clear p2
  try clear c6
  try clear c10
  try clear hcz8_0
  try clear hcz8_1
  try clear hcz8_2
  try clear hcz8_3
  try clear hcz8_4
  try clear hcz8_5
  try clear hcz8_6
  try clear hcz8_7
  try clear hcz8_8
  try clear hcz8_9
  try clear hfz8_0
  try clear hfz8_1
  try clear hfz8_2
  try clear hfz8_3
  try clear hfz8_4
  try clear hfz8_5
  try clear hfz8_6
  try clear hfz8_7
  try clear hfz8_8
  try clear hfz8_9
  obtain⟨kq,x28_5,rfl,HA,HJ5,HO_10,BK323,HB⟩:=hcut
  cases kq with
  | zero=>exact absurd HA.out (by simp[impl_DeliveredBy.j0])
  | succ kj5 =>
   have H:=HA.out
   clear HA
   simp only[impl_DeliveredBy.j0] at H
   by_cases c12:x28_5=true
   ·subst c12
    have H1:(some (([]:List Int),false))=some (r1,r2):=by rw[if_pos rfl] at H;exact H
    clear H
    have H:=H1
    clear H1
    simp only[Option.some.injEq,Prod.mk.injEq] at H
    obtain⟨rfl,rfl⟩:=H
    go_wp2
    go_ret2
    exact⟨_,by first|rfl|(simp[errW_none,errW_some]<;>rfl)|(simp[*,errW_none,errW_some]<;>rfl),by first|exact Kd.R_nil _ _ _ _ _|exact Kd.N_nil _ _ _ _ _|exact Kd.V_nil _ _ _ _ _|exact Kd.Q_nil _ _ _ _ _|exact Kd.S_nil _ _ _ _ _,bS GE323.out⟩
   ·replace c12:=Bool.eq_false_iff.mpr c12
    subst c12
    have H1:(impl_DeliveredBy.l0 kj5 a3 (([]:List Int)) t324 (t324.length:Int) 0)=some (r1,r2):=by rw[if_neg (show ¬ (false=true) by decide)] at H;exact H
    clear H
    have H:=H1
    clear H1
    obtain⟨y329,hy329⟩ : ∃ y_:List Int,y_=(([]:List Int)):=⟨_,rfl⟩
    replace H:(impl_DeliveredBy.l0 kj5 a3 y329 t324 (t324.length:Int) 0)=some (r1,r2):=by first|(rw[hy329];with_reducible exact H)|(have H2_:=(Option.bind_some _ _).symm.trans H;rw[hy329];with_reducible exact H2_)|(have H2_:=(Option.bind_some _ _).symm.trans H;with_reducible exact H2_)|with_reducible exact H|(rw[hy329];exact H)|exact H
    have Ny329:=Aside0.mk hy329
    clear hy329
    have H':=Aside0.mk H
    clear H
    go_wp2_with (first|((with_reducible refine gate_dst (N:=29) rfl ?_);refine Kd.R_lit (Kd.int .i64) _ 3 ?hg (N:=29) ?hd (xs:=([]:List Int)) (inner:=[]) (ok:=fun _=>True) (okp:=fun _=>True) ?hr ?hp (fun _ hk=>hk) trivial (Below.refl _ _) (Nat.le_refl _) (by simp) ?_;(case hd=>rfl);(case hg=>rfl);(case hr=>first|(go_simp;done)|(go_simp;rfl));(case hp=>exact(Reps.none _ _));intro v330 w13 ho14 hb hg_ hnew_;clear hg_ hnew_;(first|rw[← Ny329.out] at ho14|(simp only[Int.reduceToNat] at ho14;rw[← Ny329.out] at ho14));have n0_:=Aside0.mk (Kd.S_elder' (by(with_reducible repeat (first|apply Kd.S_alloc|apply Kd.S_drewN|apply Kd.S_drew));exact HO_10.out) (Kd.R_base ho14) hb);have n1_:=Aside0.mk (Kd.R_lower ho14 (below_size (bS GE323.out)));have n2_:=Aside0.mk (blk_below (g:=gb323) (o:=.cells #[.int .i64 a1_0,.int .i64 a1_1,.bool a1_2,.int .i64 a1_3,.int .i64 a1_4,.int .i64 a1_5,.int .i64 a1_6,.int .i64 a1_7,.int .i64 a1_8,.string a1_9] 86 (0,0)) (bL BK323.out) hb);have n3_:=Aside0.mk (below_step (bS GE323.out) hb);clear HO_10 BK323 HB;have HO_10:=n0_;have HO331:=n1_;have BK323:=n2_;have HB:=n3_;clear n0_ n1_ n2_ n3_;clear hb ho14;obtain⟨Ao15,co15,eo15⟩:=Kd.S_slice HO_10.out;subst eo15))
    go_loopg [12,32] kj5 (fun kq v12 v32 w' => ∃ (x12_2:List Int) (x32_2:Int),v32=.int .i64 x32_2∧Aside0 (impl_DeliveredBy.l0 kq a3 x12_2 t324 (t324.length:Int) x32_2=some (r1,r2))∧Aside0 (kq≤kj5)∧Aside0 (Kd.R (Kd.int .i64) 3 w' w.heap.size (fun _=>True) v12 x12_2)∧Aside0 (Kd.S k157 157 w' w.heap.size (fun k_=>some k_≠(v12:Value).ownBlock) (.slice Ao15 t324.length co15) t324)∧Aside0 (w'.heap[gb323]?=some (.cells #[.int .i64 a1_0,.int .i64 a1_1,.bool a1_2,.int .i64 a1_3,.int .i64 a1_4,.int .i64 a1_5,.int .i64 a1_6,.int .i64 a1_7,.int .i64 a1_8,.string a1_9] 86 (0,0)))∧Aside0 (Below w.heap.size w w'))
    case atStart=>exact⟨(y329),(0),(bR),H',⟨Nat.le_refl _⟩,⟨by(with_reducible repeat (first|apply Kd.R_alloc|apply Kd.R_drewN|apply Kd.R_drew));exact HO331.out⟩,⟨by(with_reducible repeat (first|apply Kd.S_alloc|apply Kd.S_drewN|apply Kd.S_drew));exact Kd.S_mono HO_10.out (fun _ hk=>hk.2)⟩,⟨by(with_reducible repeat (first|refine blk_drewN ?_ _|refine blk_drew ?_|refine blk_alloc ?_ _));exact BK323.out⟩,⟨bS GE323.out⟩⟩
    case round =>
     clear H'
     try clear c1
     try clear c2
     try clear p2
     try clear c6
     try clear c10
     try clear c12
     try clear hcz8_0
     try clear hcz8_1
     try clear hcz8_2
     try clear hcz8_3
     try clear hcz8_4
     try clear hcz8_5
     try clear hcz8_6
     try clear hcz8_7
     try clear hcz8_8
     try clear hcz8_9
     try clear hfz8_0
     try clear hfz8_1
     try clear hfz8_2
     try clear hfz8_3
     try clear hfz8_4
     try clear hfz8_5
     try clear hfz8_6
     try clear hfz8_7
     try clear hfz8_8
     try clear hfz8_9
     try clear p2
     obtain⟨x12_2,x32_2,rfl,HA,HK2,HO_12,HO_30,BK323,HB⟩:=hrel
     cases gk with
     | zero=>exact absurd HA.out (by simp[impl_DeliveredBy.l0])
     | succ k2 =>
      have H:=HA.out
      clear HA
      simp only[impl_DeliveredBy.l0] at H
      by_cases c16:x32_2 < (t324.length:Int)
      ·rw[if_pos c16] at H
       have c16b0:decide (x32_2 < (t324.length:Int))=true:=decide_eq_true c16
       clear c16
       by_cases c17:0≤x32_2
       ·rw[if_pos c17] at H
        have c17b0:decide (0≤x32_2)=true:=decide_eq_true c17
        clear c17
        by_cases c18:x32_2 < (t324.length:Int)
        ·rw[if_pos c18] at H
         have c18b0:decide (x32_2 < (t324.length:Int))=true:=decide_eq_true c18
         clear c18
         by_cases c19:((rd_T157 t324 x32_2).f1)≤a3
         ·rw[if_pos c19] at H
          have c19b0:decide (((rd_T157 t324 x32_2).f1)≤a3)=true:=decide_eq_true c19
          clear c19
          by_cases c20:x12_2.length < 17592186044416
          ·rw[if_pos c20] at H
           have LMc20:=Aside0.mk c20
           clear c20
           obtain⟨y334,hy334⟩ : ∃ y_:List Int,y_=(x12_2++[(rd_T157 t324 x32_2).f0]):=⟨_,rfl⟩
           replace H:(impl_DeliveredBy.l0 k2 a3 y334 t324 (t324.length:Int) (wrap64 (x32_2+1)))=some (r1,r2):=by first|(rw[hy334];with_reducible exact H)|(have H2_:=(Option.bind_some _ _).symm.trans H;rw[hy334];with_reducible exact H2_)|(have H2_:=(Option.bind_some _ _).symm.trans H;with_reducible exact H2_)|with_reducible exact H|(rw[hy334];exact H)|exact H
           have Ny334:=Aside0.mk hy334
           clear hy334
           have H':=Aside0.mk H
           clear H
           have p332:0≤(x32_2:Int):=of_decide_eq_true (bD)
           have q332:x32_2 < (t324.length:Int):=of_decide_eq_true (bD)
           obtain⟨ad332,A332_2,c332_2,e332,hx332_0,hx332_1,hx332_2,hl332_2,hi332_2⟩:=at_T157 (Kd.S_reads' HO_30.out).2.2 x32_2 p332 q332
           cases e332
           obtain⟨ce332,hce332,hMe332,hcc332⟩:=Kd.S_get HO_30.out z157 x32_2 p332 (by first|exact q332|exact of_decide_eq_true (bD)|(have e_:=(Kd.S_reads' HO_30.out).1;omega))
           obtain⟨ve332_2,rfl,ge332_2⟩:=k157_openM hMe332
           have hv332_2:=hcc332 2 _ rfl
           rw[add_field _ _ 2 (by omega)] at hv332_2
           replace hv332_2:=Option.some.inj (hv332_2.symm.trans hx332_2)
           rw[hv332_2] at ge332_2
           have HL332_2:=Aside0.mk (show Kd.R (Kd.int .i64) 3 _ _ _ _ ((rd_T157 t324 x32_2).f2) from ge332_2)
           clear hv332_2 ge332_2 hcc332 hce332
           have HR332_2:=Aside0.mk hi332_2
           have HC332_2:=Aside0.mk hl332_2
           clear hi332_2 hl332_2
           replace p332:=eq_true p332
           replace q332:=eq_true q332
           go_wp2_with (first|((with_reducible refine gate_dst (N:=14) rfl ?_);refine box_event ?hg (N:=14) ?hd (cs:=#[.int .i64 0,.int .i64 0,.slice none 0 0]) (t:=157) ?hr ?_;(case hd=>rfl);(case hg=>rfl);(case hr=>first|(go_simp;done)|(go_simp;rfl));intro gb333 hg w21 hbox hb;have n0_:=Aside0.mk (Kd.R_below (bK HO_12.out) hb);have n1_:=Aside0.mk (Kd.S_below (Kd.S_elderB (by(with_reducible repeat (first|apply Kd.S_alloc|apply Kd.S_drewN|apply Kd.S_drew));exact HO_30.out) gb333 (Nat.le_of_eq hg.symm)) hb);have n2_:=Aside0.mk (Kd.R_below (bK HL332_2.out) hb);have n3_:=Aside0.mk (blk_below (g:=gb323) (o:=.cells #[.int .i64 a1_0,.int .i64 a1_1,.bool a1_2,.int .i64 a1_3,.int .i64 a1_4,.int .i64 a1_5,.int .i64 a1_6,.int .i64 a1_7,.int .i64 a1_8,.string a1_9] 86 (0,0)) (bL BK323.out) hb);have n4_:=Aside0.mk (Kd.C_below (by repeat (first|(with_reducible exact HR332_2.out)|(with_reducible refine Kd.C_alloc ?_ _)|(with_reducible refine Kd.C_drewN ?_ _)|(with_reducible refine Kd.C_drew ?_)|exact HR332_2.out)) hb);have n5_:=Aside0.mk (below_step (bS GE323.out) hb);have n6_:=Aside0.mk (hbox);have n7_:=Aside0.mk ((by rw[hg];exact(below_size (bS GE323.out)):w.heap.size≤gb333));have n8_:=Aside0.mk ((by rw[hg];exact(below_size (bS GE323.out)):w.heap.size≤gb333));have n9_:=Aside0.mk ((by rw[hg];exact Nat.ne_of_lt (blk_lt (g:=gb323) (o:=.cells #[.int .i64 a1_0,.int .i64 a1_1,.bool a1_2,.int .i64 a1_3,.int .i64 a1_4,.int .i64 a1_5,.int .i64 a1_6,.int .i64 a1_7,.int .i64 a1_8,.string a1_9] 86 (0,0)) (bL BK323.out)):gb323≠gb333));have n10_:=Aside0.mk ((by rw[hg];exact Nat.ne_of_gt (blk_lt (g:=gb323) (o:=.cells #[.int .i64 a1_0,.int .i64 a1_1,.bool a1_2,.int .i64 a1_3,.int .i64 a1_4,.int .i64 a1_5,.int .i64 a1_6,.int .i64 a1_7,.int .i64 a1_8,.string a1_9] 86 (0,0)) (bL BK323.out)):gb333≠gb323));clear HO_12 HO_30 HL332_2 BK323 HR332_2 HB;have HO_12:=n0_;have HO_30:=n1_;have HL332_2:=n2_;have BK323:=n3_;have HR332_2:=n4_;have HB:=n5_;have BK333:=n6_;have GW333:=n7_;have GE333:=n8_;have NB323_333:=n9_;have NB333_323:=n10_;clear n0_ n1_ n2_ n3_ n4_ n5_ n6_ n7_ n8_ n9_ n10_;clear hb hbox hg;have hnb22:=NB333_323.out;have hnc22:=NB323_333.out;have hcz23_0:w21.cell? ⟨gb333,0,none⟩=some (.int .i64 0):=(blk_cell BK333.out 0).trans rfl;have hcz23_1:w21.cell? ⟨gb333,1,none⟩=some (.int .i64 0):=(blk_cell BK333.out 1).trans rfl;have hcz23_2:w21.cell? ⟨gb333,2,none⟩=some (.slice none 0 0):=(blk_cell BK333.out 2).trans rfl;have hfz23_0:=blk_frozen BK333.out 0;have hfz23_1:=blk_frozen BK333.out 1;have hfz23_2:=blk_frozen BK333.out 2)|((with_reducible refine gate_builtin (b:=.append) (xs:=#[.tmp 40,.tmp 43]) rfl ?_);at_builtin;refine Kd.R_append (Kd.int .i64) (w0:=w) w.heap.size rfl (.tmp 40) (.tmp 43) 37 3 (.int .i64 0) 8 rfl Try.underlying37 info3 rfl (by decide) (by omega) u12 x12_2 ((rd_T157 t324 x32_2).f0) [.int .i64 ((rd_T157 t324 x32_2).f0)] (fun _=>True) (fun _=>False) rfl (by first|(go_simp;done)|(go_simp;rfl)) ?aP (fun _ hk=>hk.elim) ?aF ?aO ?aB ?aS ?aL ?_;(case aP=>exact rfl);(case aB=>exact(by repeat (first|(with_reducible first|exact HB.out|apply below_alloc|apply pw_below_drewN|apply below_drew1|refine below_set ?_ GE323.out|refine below_set ?_ GE333.out)|exact HB.out)));(case aF=>exact(fun _ _=>trivial));(case aO=>exact(by(with_reducible repeat (first|apply Kd.R_alloc|apply Kd.R_drewN|apply Kd.R_drew));exact Kd.R_mono (Kd.R_far (p:=⟨gb333,2,none⟩) (Kd.R_far (p:=⟨gb333,1,none⟩) (Kd.R_far (p:=⟨gb333,0,none⟩) (Kd.R_types HO_12.out BK333.out (by decide)) (fun _ hk=>hk.2) (.int .i64 ((rd_T157 t324 x32_2).f0))) (fun _ hk=>hk.2) (.int .i64 ((rd_T157 t324 x32_2).f1))) (fun _ hk=>hk.2) (.slice A332_2 ((rd_T157 t324 x32_2).f2).length c332_2)) (fun _ hk=>trivial)));(case aS=>exact(below_size (by repeat (first|(with_reducible first|exact HB.out|apply below_alloc|apply pw_below_drewN|apply below_drew1|refine below_set ?_ GE323.out|refine below_set ?_ GE333.out)|exact HB.out))));(case aL=>have:=LMc20.out;omega);intro v335 w24 ho hb hg hat;rw[← Ny334.out] at ho;have n0_:=Aside0.mk (Kd.S_after (ok:=(fun k_=>k_≠gb333)) (by(with_reducible repeat (first|apply Kd.S_alloc|apply Kd.S_drewN|apply Kd.S_drew));exact Kd.S_mono (Kd.S_far (p:=⟨gb333,2,none⟩) (Kd.S_far (p:=⟨gb333,1,none⟩) (Kd.S_far (p:=⟨gb333,0,none⟩) (Kd.S_mono HO_30.out (fun k_ hk=>(⟨hk,hk.2⟩:_∧k_≠gb333))) (fun _ hk=>hk.2) (.int .i64 ((rd_T157 t324 x32_2).f0))) (fun _ hk=>hk.2) (.int .i64 ((rd_T157 t324 x32_2).f1))) (fun _ hk=>hk.2) (.slice A332_2 ((rd_T157 t324 x32_2).f2).length c332_2)) (fun _ hk=>⟨hk.1.2,hk.1.1⟩)) hg hat);have n1_:=Aside0.mk (blk_grown (g:=gb323) (o:=.cells #[.int .i64 a1_0,.int .i64 a1_1,.bool a1_2,.int .i64 a1_3,.int .i64 a1_4,.int .i64 a1_5,.int .i64 a1_6,.int .i64 a1_7,.int .i64 a1_8,.string a1_9] 86 (0,0)) (by(with_reducible repeat (first|refine blk_drewN ?_ _|refine blk_drew ?_|refine blk_alloc ?_ _));refine blk_far ?_ NB323_333.out _;(with_reducible repeat (first|refine blk_drewN ?_ _|refine blk_drew ?_|refine blk_alloc ?_ _));refine blk_far ?_ NB323_333.out _;(with_reducible repeat (first|refine blk_drewN ?_ _|refine blk_drew ?_|refine blk_alloc ?_ _));refine blk_far ?_ NB323_333.out _;(with_reducible repeat (first|refine blk_drewN ?_ _|refine blk_drew ?_|refine blk_alloc ?_ _));exact BK323.out) hg (Kd.R_ne HO_12.out BK323.out (by decide)));have n2_:=Aside0.mk (Kd.R_after (ok:=(fun k_=>some k_≠(.slice (some ad332) t324.length co15:Value).ownBlock)) (by(with_reducible repeat (first|apply Kd.R_alloc|apply Kd.R_drewN|apply Kd.R_drew));exact Kd.R_mono (Kd.R_far (p:=⟨gb333,2,none⟩) (Kd.R_far (p:=⟨gb333,1,none⟩) (Kd.R_far (p:=⟨gb333,0,none⟩) (Kd.R_types HL332_2.out BK333.out (by decide)) (fun _ hk=>hk.2) (.int .i64 ((rd_T157 t324 x32_2).f0))) (fun _ hk=>hk.2) (.int .i64 ((rd_T157 t324 x32_2).f1))) (fun _ hk=>hk.2) (.slice A332_2 ((rd_T157 t324 x32_2).f2).length c332_2)) (fun _ hk=>⟨hk.1.2,hk.1.1⟩)) hg hat);have n3_:=Aside0.mk (blk_grown (g:=gb333) (o:=.cells #[.int .i64 ((rd_T157 t324 x32_2).f0),.int .i64 ((rd_T157 t324 x32_2).f1),.slice A332_2 ((rd_T157 t324 x32_2).f2).length c332_2] 157 (0,0)) (by(with_reducible repeat (first|refine blk_drewN ?_ _|refine blk_drew ?_|refine blk_alloc ?_ _));refine blk_put (cs:=#[.int .i64 ((rd_T157 t324 x32_2).f0),.int .i64 ((rd_T157 t324 x32_2).f1),.slice none 0 0]) ?_ 2 _ rfl;(with_reducible repeat (first|refine blk_drewN ?_ _|refine blk_drew ?_|refine blk_alloc ?_ _));refine blk_put (cs:=#[.int .i64 ((rd_T157 t324 x32_2).f0),.int .i64 0,.slice none 0 0]) ?_ 1 _ rfl;(with_reducible repeat (first|refine blk_drewN ?_ _|refine blk_drew ?_|refine blk_alloc ?_ _));refine blk_put (cs:=#[.int .i64 0,.int .i64 0,.slice none 0 0]) ?_ 0 _ rfl;(with_reducible repeat (first|refine blk_drewN ?_ _|refine blk_drew ?_|refine blk_alloc ?_ _));exact BK333.out) hg (Kd.R_ne HO_12.out BK333.out (by decide)));have n4_:=Aside0.mk (hb);have n5_:=Aside0.mk (ho);clear HO_30 BK323 HL332_2 BK333 HB HO_12;have HO_30:=n0_;have BK323:=n1_;have HL332_2:=n2_;have BK333:=n3_;have HB:=n4_;have HO336:=n5_;clear n0_ n1_ n2_ n3_ n4_ n5_;clear ho hb hg hat))
           go_roundg k2
           case measure=>have:=HJ5.out;have:=HK2.out;omega
           case rel=>exact⟨(y334),(wrap64 (x32_2+1)),(bR),H',⟨by have:=HJ5.out;have:=HK2.out;omega⟩,⟨by(with_reducible repeat (first|apply Kd.R_alloc|apply Kd.R_drewN|apply Kd.R_drew));exact HO336.out⟩,⟨by(with_reducible repeat (first|apply Kd.S_alloc|apply Kd.S_drewN|apply Kd.S_drew));exact Kd.S_mono HO_30.out (fun _ hk=>hk.2)⟩,⟨by(with_reducible repeat (first|refine blk_drewN ?_ _|refine blk_drew ?_|refine blk_alloc ?_ _));exact BK323.out⟩,⟨by repeat (first|(with_reducible first|exact HB.out|apply below_alloc|apply pw_below_drewN|apply below_drew1|refine below_set ?_ GE323.out|refine below_set ?_ GE333.out)|exact HB.out)⟩⟩
          ·rw[if_neg c20] at H
           exact absurd H (by simp)
         ·rw[if_neg c19] at H
          have c19b0:decide (((rd_T157 t324 x32_2).f1)≤a3)=false:=decide_eq_false c19
          clear c19
          have H':=Aside0.mk H
          clear H
          have p332:0≤(x32_2:Int):=of_decide_eq_true (bD)
          have q332:x32_2 < (t324.length:Int):=of_decide_eq_true (bD)
          obtain⟨ad332,A332_2,c332_2,e332,hx332_0,hx332_1,hx332_2,hl332_2,hi332_2⟩:=at_T157 (Kd.S_reads' HO_30.out).2.2 x32_2 p332 q332
          cases e332
          obtain⟨ce332,hce332,hMe332,hcc332⟩:=Kd.S_get HO_30.out z157 x32_2 p332 (by first|exact q332|exact of_decide_eq_true (bD)|(have e_:=(Kd.S_reads' HO_30.out).1;omega))
          obtain⟨ve332_2,rfl,ge332_2⟩:=k157_openM hMe332
          have hv332_2:=hcc332 2 _ rfl
          rw[add_field _ _ 2 (by omega)] at hv332_2
          replace hv332_2:=Option.some.inj (hv332_2.symm.trans hx332_2)
          rw[hv332_2] at ge332_2
          have HL332_2:=Aside0.mk (show Kd.R (Kd.int .i64) 3 _ _ _ _ ((rd_T157 t324 x32_2).f2) from ge332_2)
          clear hv332_2 ge332_2 hcc332 hce332
          have HR332_2:=Aside0.mk hi332_2
          have HC332_2:=Aside0.mk hl332_2
          clear hi332_2 hl332_2
          replace p332:=eq_true p332
          replace q332:=eq_true q332
          go_wp2_with (first|((with_reducible refine gate_dst (N:=14) rfl ?_);refine box_event ?hg (N:=14) ?hd (cs:=#[.int .i64 0,.int .i64 0,.slice none 0 0]) (t:=157) ?hr ?_;(case hd=>rfl);(case hg=>rfl);(case hr=>first|(go_simp;done)|(go_simp;rfl));intro gb333 hg w25 hbox hb;have n0_:=Aside0.mk (Kd.R_below (bK HO_12.out) hb);have n1_:=Aside0.mk (Kd.S_below (Kd.S_elderB (by(with_reducible repeat (first|apply Kd.S_alloc|apply Kd.S_drewN|apply Kd.S_drew));exact HO_30.out) gb333 (Nat.le_of_eq hg.symm)) hb);have n2_:=Aside0.mk (Kd.R_below (bK HL332_2.out) hb);have n3_:=Aside0.mk (blk_below (g:=gb323) (o:=.cells #[.int .i64 a1_0,.int .i64 a1_1,.bool a1_2,.int .i64 a1_3,.int .i64 a1_4,.int .i64 a1_5,.int .i64 a1_6,.int .i64 a1_7,.int .i64 a1_8,.string a1_9] 86 (0,0)) (bL BK323.out) hb);have n4_:=Aside0.mk (Kd.C_below (by repeat (first|(with_reducible exact HR332_2.out)|(with_reducible refine Kd.C_alloc ?_ _)|(with_reducible refine Kd.C_drewN ?_ _)|(with_reducible refine Kd.C_drew ?_)|exact HR332_2.out)) hb);have n5_:=Aside0.mk (below_step (bS GE323.out) hb);have n6_:=Aside0.mk (hbox);have n7_:=Aside0.mk ((by rw[hg];exact(below_size (bS GE323.out)):w.heap.size≤gb333));have n8_:=Aside0.mk ((by rw[hg];exact(below_size (bS GE323.out)):w.heap.size≤gb333));have n9_:=Aside0.mk ((by rw[hg];exact Nat.ne_of_lt (blk_lt (g:=gb323) (o:=.cells #[.int .i64 a1_0,.int .i64 a1_1,.bool a1_2,.int .i64 a1_3,.int .i64 a1_4,.int .i64 a1_5,.int .i64 a1_6,.int .i64 a1_7,.int .i64 a1_8,.string a1_9] 86 (0,0)) (bL BK323.out)):gb323≠gb333));have n10_:=Aside0.mk ((by rw[hg];exact Nat.ne_of_gt (blk_lt (g:=gb323) (o:=.cells #[.int .i64 a1_0,.int .i64 a1_1,.bool a1_2,.int .i64 a1_3,.int .i64 a1_4,.int .i64 a1_5,.int .i64 a1_6,.int .i64 a1_7,.int .i64 a1_8,.string a1_9] 86 (0,0)) (bL BK323.out)):gb333≠gb323));clear HO_12 HO_30 HL332_2 BK323 HR332_2 HB;have HO_12:=n0_;have HO_30:=n1_;have HL332_2:=n2_;have BK323:=n3_;have HR332_2:=n4_;have HB:=n5_;have BK333:=n6_;have GW333:=n7_;have GE333:=n8_;have NB323_333:=n9_;have NB333_323:=n10_;clear n0_ n1_ n2_ n3_ n4_ n5_ n6_ n7_ n8_ n9_ n10_;clear hb hbox hg;have hnb26:=NB333_323.out;have hnc26:=NB323_333.out;have hcz27_0:w25.cell? ⟨gb333,0,none⟩=some (.int .i64 0):=(blk_cell BK333.out 0).trans rfl;have hcz27_1:w25.cell? ⟨gb333,1,none⟩=some (.int .i64 0):=(blk_cell BK333.out 1).trans rfl;have hcz27_2:w25.cell? ⟨gb333,2,none⟩=some (.slice none 0 0):=(blk_cell BK333.out 2).trans rfl;have hfz27_0:=blk_frozen BK333.out 0;have hfz27_1:=blk_frozen BK333.out 1;have hfz27_2:=blk_frozen BK333.out 2))
          go_roundg k2
          case measure=>have:=HJ5.out;have:=HK2.out;omega
          case rel=>exact⟨(x12_2),(wrap64 (x32_2+1)),(bR),H',⟨by have:=HJ5.out;have:=HK2.out;omega⟩,⟨by(with_reducible repeat (first|apply Kd.R_alloc|apply Kd.R_drewN|apply Kd.R_drew));exact Kd.R_mono (Kd.R_far (p:=⟨gb333,2,none⟩) (Kd.R_far (p:=⟨gb333,1,none⟩) (Kd.R_far (p:=⟨gb333,0,none⟩) (Kd.R_types HO_12.out BK333.out (by decide)) (fun _ hk=>hk.2) (.int .i64 ((rd_T157 t324 x32_2).f0))) (fun _ hk=>hk.2) (.int .i64 ((rd_T157 t324 x32_2).f1))) (fun _ hk=>hk.2) (.slice A332_2 ((rd_T157 t324 x32_2).f2).length c332_2)) (fun _ hk=>trivial)⟩,⟨by(with_reducible repeat (first|apply Kd.S_alloc|apply Kd.S_drewN|apply Kd.S_drew));exact Kd.S_mono (Kd.S_far (p:=⟨gb333,2,none⟩) (Kd.S_far (p:=⟨gb333,1,none⟩) (Kd.S_far (p:=⟨gb333,0,none⟩) (Kd.S_mono HO_30.out (fun k_ hk=>(⟨hk,hk.2⟩:_∧k_≠gb333))) (fun _ hk=>hk.2) (.int .i64 ((rd_T157 t324 x32_2).f0))) (fun _ hk=>hk.2) (.int .i64 ((rd_T157 t324 x32_2).f1))) (fun _ hk=>hk.2) (.slice A332_2 ((rd_T157 t324 x32_2).f2).length c332_2)) (fun _ hk=>hk.1.1)⟩,⟨by(with_reducible repeat (first|refine blk_drewN ?_ _|refine blk_drew ?_|refine blk_alloc ?_ _));refine blk_far ?_ NB323_333.out _;(with_reducible repeat (first|refine blk_drewN ?_ _|refine blk_drew ?_|refine blk_alloc ?_ _));refine blk_far ?_ NB323_333.out _;(with_reducible repeat (first|refine blk_drewN ?_ _|refine blk_drew ?_|refine blk_alloc ?_ _));refine blk_far ?_ NB323_333.out _;(with_reducible repeat (first|refine blk_drewN ?_ _|refine blk_drew ?_|refine blk_alloc ?_ _));exact BK323.out⟩,⟨by repeat (first|(with_reducible first|exact HB.out|apply below_alloc|apply pw_below_drewN|apply below_drew1|refine below_set ?_ GE323.out|refine below_set ?_ GE333.out)|exact HB.out)⟩⟩
        ·rw[if_neg c18] at H
         exact absurd H (by simp)
       ·rw[if_neg c17] at H
        exact absurd H (by simp)
      ·rw[if_neg c16] at H
       have c16b0:decide (x32_2 < (t324.length:Int))=false:=decide_eq_false c16
       clear c16
       simp only[Option.some.injEq,Prod.mk.injEq] at H
       obtain⟨rfl,rfl⟩:=H
       go_wp2
       go_ret2
       exact⟨_,by first|rfl|(simp[errW_none,errW_some]<;>rfl)|(simp[*,errW_none,errW_some]<;>rfl),by(with_reducible repeat (first|apply Kd.R_alloc|apply Kd.R_drewN|apply Kd.R_drew));exact HO_12.out,bS GE323.out⟩

end Go.Proofs.Yteneeohaoplpbaa.XFnExactDeliveredBy
