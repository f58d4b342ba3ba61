-- Written by this session's own program (wip/xprint.py) out of the translation; Lean checks it.
import Derived.Test.YtjmanpicdeebgaaXFnExactTreeForx0
import Derived.Test.YtjmanpicdeebgaaXFnExactTreeForx7
import Derived.Test.YtjmanpicdeebgaaXFnExactTreeForx8
import Derived.Test.YtjmanpicdeebgaaXFnExactTreeForx10
namespace Go.Proofs.Ytjmanpicdeebgaa.XFnExactTreeFor
open Go.RowKit Go.Proofs.YtjmanpicdeebgaaW.PrintWords Go.Proofs.YtjmanpicdeebgaaW.PrintLast Go.Proofs.YtjmanpicdeebgaaW.PrintMore
attribute [local go_sem] max2_int min2_int max_two min_two max_three min_three max_four min_four   -- for this text's walks alone
set_option linter.unusedVariables false
set_option linter.unusedSimpArgs false

/-! ### impl_ReachAll: function 67 -/
mutual
def impl_ReachAll.j0:Nat→List (S165)→List Int→Bool→Int→Int→Bool→Int→Int→Int→Int→Int→Int→ByteArray→Option ((List (S109)) × Bool)
 | 0,_,_,_,_,_,_,_,_,_,_,_,_,_=>none
 | k+1,x0,x2,x22,x331000,x331001,x331002,x331003,x331004,x331005,x331006,x331007,x331008,x331009=>if x22=true then (some (([]:List (S109)),false)) else (impl_ReachAll.l0 k x0 (([]:List (S109))) x2 (x2.length:Int) 0 x331000 x331001 x331002 x331003 x331004 x331005 x331006 x331007 x331008 x331009)
def impl_ReachAll.l0:Nat→List (S165)→List (S109)→List Int→Int→Int→Int→Int→Bool→Int→Int→Int→Int→Int→Int→ByteArray→Option ((List (S109)) × Bool)
 | 0,_,_,_,_,_,_,_,_,_,_,_,_,_,_,_=>none
 | k+1,x0,x8,x24,x25,x26,x331000,x331001,x331002,x331003,x331004,x331005,x331006,x331007,x331008,x331009=>if x26 < x25 then (if 0≤x26 then (if x26 < (x24.length:Int) then ((impl_RouteTo.f k x0 x331000 x331003 (rd x24 x26)).bind fun bt337=>(if bt337.2.2=true then (if bt337.2.1≤(wrap64 (x331003+x331005)) then (if (bt337.1.length:Int)≤x331006 then (if x8.length < 3518437208883 then (impl_ReachAll.l0 k x0 (x8++[(⟨rd x24 x26,bt337.2.1,bt337.1⟩:S109)]) x24 x25 (wrap64 (x26+1)) x331000 x331001 x331002 x331003 x331004 x331005 x331006 x331007 x331008 x331009) else (none)) else (impl_ReachAll.l0 k x0 x8 x24 x25 (wrap64 (x26+1)) x331000 x331001 x331002 x331003 x331004 x331005 x331006 x331007 x331008 x331009)) else (impl_ReachAll.l0 k x0 x8 x24 x25 (wrap64 (x26+1)) x331000 x331001 x331002 x331003 x331004 x331005 x331006 x331007 x331008 x331009)) else (impl_ReachAll.l0 k x0 x8 x24 x25 (wrap64 (x26+1)) x331000 x331001 x331002 x331003 x331004 x331005 x331006 x331007 x331008 x331009))) else (none)) else (none)) else (some (x8,true))
end
def impl_ReachAll.f (k:Nat) (l0:List (S165)) (a1_0:Int) (a1_1:Int) (a1_2:Bool) (a1_3:Int) (a1_4:Int) (a1_5:Int) (a1_6:Int) (a1_7:Int) (a1_8:Int) (a1_9:ByteArray) (l2:List Int):Option ((List (S109)) × Bool):=(impl_fits.f k l0 a1_0 a1_1 a1_2 a1_3 a1_4 a1_5 a1_6 a1_7 a1_8 a1_9).bind fun t331=>(if t331=true then ((impl_areMembers.f k l2).bind fun t332=>(impl_ReachAll.j0 k l0 l2 (!t332) a1_0 a1_1 a1_2 a1_3 a1_4 a1_5 a1_6 a1_7 a1_8 a1_9)) else (impl_ReachAll.j0 k l0 l2 true a1_0 a1_1 a1_2 a1_3 a1_4 a1_5 a1_6 a1_7 a1_8 a1_9))
theorem impl_ReachAll.mono_l : ∀ k,(∀ y0 y1 y2 y3 y4 y5 y6 y7 y8 y9 y10 y11 y12,LeO (impl_ReachAll.j0 k y0 y1 y2 y3 y4 y5 y6 y7 y8 y9 y10 y11 y12) (impl_ReachAll.j0 (k+1) y0 y1 y2 y3 y4 y5 y6 y7 y8 y9 y10 y11 y12))∧(∀ y0 y1 y2 y3 y4 y5 y6 y7 y8 y9 y10 y11 y12 y13 y14,LeO (impl_ReachAll.l0 k y0 y1 y2 y3 y4 y5 y6 y7 y8 y9 y10 y11 y12 y13 y14) (impl_ReachAll.l0 (k+1) y0 y1 y2 y3 y4 y5 y6 y7 y8 y9 y10 y11 y12 y13 y14))
 | 0=>⟨fun _ _ _ _ _ _ _ _ _ _ _ _ _ r h=>by simp[impl_ReachAll.j0] at h,fun _ _ _ _ _ _ _ _ _ _ _ _ _ _ _ r h=>by simp[impl_ReachAll.l0] at h⟩
 | k+1=>by
  obtain⟨ih0,ih1⟩:=impl_ReachAll.mono_l k
  refine⟨?_,?_⟩
  ·intro y0 y1 y2 y3 y4 y5 y6 y7 y8 y9 y10 y11 y12
   unfold impl_ReachAll.j0
   repeat' first
   | (with_reducible exact ih0 _ _ _ _ _ _ _ _ _ _ _ _ _)
   | (with_reducible exact ih1 _ _ _ _ _ _ _ _ _ _ _ _ _ _ _)
   | (with_reducible exact impl_RouteTo.mono _ _ _ _ _)
   | (with_reducible exact impl_areMembers.mono _ _)
   | (with_reducible exact impl_fits.mono _ _ _ _ _ _ _ _ _ _ _ _)
   | (with_reducible exact LeO.refl _)
   | (with_reducible exact LeO.none _)
   | (with_reducible refine LeO.ite ?_ ?_)
   | (with_reducible refine LeO.bind ?_ (fun _ => ?_))
   | exact ih0 _ _ _ _ _ _ _ _ _ _ _ _ _
   | exact ih1 _ _ _ _ _ _ _ _ _ _ _ _ _ _ _
   | exact impl_RouteTo.mono _ _ _ _ _
   | exact impl_areMembers.mono _ _
   | exact impl_fits.mono _ _ _ _ _ _ _ _ _ _ _ _
   | exact LeO.none _
   | refine LeO.ite ?_ ?_
   | refine LeO.bind ?_ (fun _ => ?_)
  ·intro y0 y1 y2 y3 y4 y5 y6 y7 y8 y9 y10 y11 y12 y13 y14
   unfold impl_ReachAll.l0
   repeat' first
   | (with_reducible exact ih0 _ _ _ _ _ _ _ _ _ _ _ _ _)
   | (with_reducible exact ih1 _ _ _ _ _ _ _ _ _ _ _ _ _ _ _)
   | (with_reducible exact impl_RouteTo.mono _ _ _ _ _)
   | (with_reducible exact impl_areMembers.mono _ _)
   | (with_reducible exact impl_fits.mono _ _ _ _ _ _ _ _ _ _ _ _)
   | (with_reducible exact LeO.refl _)
   | (with_reducible exact LeO.none _)
   | (with_reducible refine LeO.ite ?_ ?_)
   | (with_reducible refine LeO.bind ?_ (fun _ => ?_))
   | exact ih0 _ _ _ _ _ _ _ _ _ _ _ _ _
   | exact ih1 _ _ _ _ _ _ _ _ _ _ _ _ _ _ _
   | exact impl_RouteTo.mono _ _ _ _ _
   | exact impl_areMembers.mono _ _
   | exact impl_fits.mono _ _ _ _ _ _ _ _ _ _ _ _
   | exact LeO.none _
   | refine LeO.ite ?_ ?_
   | refine LeO.bind ?_ (fun _ => ?_)
theorem impl_ReachAll.mono : ∀ a0 a1 a2 a3 a4 a5 a6 a7 a8 a9 a10 a11 k,LeO (impl_ReachAll.f k a0 a1 a2 a3 a4 a5 a6 a7 a8 a9 a10 a11) (impl_ReachAll.f (k+1) a0 a1 a2 a3 a4 a5 a6 a7 a8 a9 a10 a11):=by
 intro a0 a1 a2 a3 a4 a5 a6 a7 a8 a9 a10 a11 k
 obtain⟨ih0,ih1⟩:=impl_ReachAll.mono_l k
 unfold impl_ReachAll.f
 repeat' first
  | (with_reducible exact ih0 _ _ _ _ _ _ _ _ _ _ _ _ _)
  | (with_reducible exact ih1 _ _ _ _ _ _ _ _ _ _ _ _ _ _ _)
  | (with_reducible exact impl_RouteTo.mono _ _ _ _ _)
  | (with_reducible exact impl_areMembers.mono _ _)
  | (with_reducible exact impl_fits.mono _ _ _ _ _ _ _ _ _ _ _ _)
  | (with_reducible exact LeO.refl _)
  | (with_reducible exact LeO.none _)
  | (with_reducible refine LeO.ite ?_ ?_)
  | (with_reducible refine LeO.bind ?_ (fun _ => ?_))
  | exact ih0 _ _ _ _ _ _ _ _ _ _ _ _ _
  | exact ih1 _ _ _ _ _ _ _ _ _ _ _ _ _ _ _
  | exact impl_RouteTo.mono _ _ _ _ _
  | exact impl_areMembers.mono _ _
  | exact impl_fits.mono _ _ _ _ _ _ _ _ _ _ _ _
  | exact LeO.none _
  | refine LeO.ite ?_ ?_
  | refine LeO.bind ?_ (fun _ => ?_)
set_option maxHeartbeats 8000000 in
set_option maxRecDepth 100000 in
theorem impl_ReachAll.calls (k:Nat) (A0:Option Addr) (c0:Nat) (l0:List (S165)) (a1_0:Int) (a1_1:Int) (a1_2:Bool) (a1_3:Int) (a1_4:Int) (a1_5:Int) (a1_6:Int) (a1_7:Int) (a1_8:Int) (a1_9:ByteArray) (A2:Option Addr) (c2:Nat) (l2:List Int) (r1:List (S109)) (r2:Bool) (w:World) (hr0:Kd.C k165 w A0 l0.length l0) (hc0:l0.length≤c0) (hr2:Kd.C (Kd.int .i64) w A2 l2.length l2) (hc2:l2.length≤c2) (h:impl_ReachAll.f k l0 a1_0 a1_1 a1_2 a1_3 a1_4 a1_5 a1_6 a1_7 a1_8 a1_9 l2=some (r1,r2)) :
  Calls Try.prog 67 #[.slice A0 l0.length c0,.agg #[.int .i64 a1_0,.int .i64 a1_1,.bool a1_2,.int .i64 a1_3,.int .i64 a1_4,.int .i64 a1_5,.int .i64 a1_6,.int .i64 a1_7,.int .i64 a1_8,.string a1_9],.slice A2 l2.length c2] w fun e w' => ∃ v0_:Value,e=.returned (.tuple #[v0_,.bool r2])∧Kd.S k109 109 w' w.heap.size (fun _=>True) v0_ r1∧Below w.heap.size w w':=by
 have hu79:=Try.underlying79
 have hu109:=Try.underlying109
 have HR0:=Aside0.mk hr0
 have HC0:=Aside0.mk hc0
 clear hr0 hc0
 have HR2:=Aside0.mk hr2
 have HC2:=Aside0.mk hc2
 clear hr2 hc2
 have HB:=Aside0.mk (Below.refl w.heap.size w)
 have H:((impl_fits.f k l0 a1_0 a1_1 a1_2 a1_3 a1_4 a1_5 a1_6 a1_7 a1_8 a1_9).bind fun t331=>(if t331=true then ((impl_areMembers.f k l2).bind fun t332=>(impl_ReachAll.j0 k l0 l2 (!t332) a1_0 a1_1 a1_2 a1_3 a1_4 a1_5 a1_6 a1_7 a1_8 a1_9)) else (impl_ReachAll.j0 k l0 l2 true a1_0 a1_1 a1_2 a1_3 a1_4 a1_5 a1_6 a1_7 a1_8 a1_9)))=some (r1,r2):=h
 clear h
 have HC4:=Aside0.mk H
 clear H
 go_enter Try.func67,Try.ntmps67
 go_upto_region 1 with (first|((with_reducible refine gate_dst (N:=4) rfl ?_);(try (refine gate_guard (by rfl) ?_;dsimp only));refine box_event ?hg (N:=4) ?hd (cs:=#[.int .i64 a1_0,.int .i64 a1_1,.bool a1_2,.int .i64 a1_3,.int .i64 a1_4,.int .i64 a1_5,.int .i64 a1_6,.int .i64 a1_7,.int .i64 a1_8,.string a1_9]) (t:=79) ?hr ?_;(case hd=>rfl);(case hg=>rfl);(case hr=>first|(go_simp;done)|(go_simp;rfl));intro gb330 hg w5 hbox hb;have n0_:=Aside0.mk (below_step (bB) hb);have n1_:=Aside0.mk (hbox);have n2_:=Aside0.mk ((bG:w.heap.size≤gb330));have n3_:=Aside0.mk ((bG:w.heap.size≤gb330));clear HB;have HB:=n0_;have BK330:=n1_;have GW330:=n2_;have GE330:=n3_;clear n0_ n1_ n2_ n3_;clear hb hbox hg))
 (try simp only[Act.put,List.setIfInBounds_toArray,List.set_cons_zero,List.set_cons_succ])
 go_cut [22] (fun v22 wc => ∃ (kq:Nat) (x22_3:Bool),v22=.bool x22_3∧Aside0 (impl_ReachAll.j0 kq l0 l2 x22_3 a1_0 a1_1 a1_2 a1_3 a1_4 a1_5 a1_6 a1_7 a1_8 a1_9=some (r1,r2))∧Aside0 (kq≤k)∧Aside0 (wc.heap[gb330]?=some (.cells #[.int .i64 a1_0,.int .i64 a1_1,.bool a1_2,.int .i64 a1_3,.int .i64 a1_4,.int .i64 a1_5,.int .i64 a1_6,.int .i64 a1_7,.int .i64 a1_8,.string a1_9] 79 (0,0)))∧Aside0 (Below w.heap.size w wc))
 case first =>
  have H:=HC4.out
  clear HC4
  replace H:=Option.bind_eq_some_iff.mp H
  obtain⟨t331,A60,H⟩:=H
  replace H:(if t331=true then ((impl_areMembers.f k l2).bind fun t332=>(impl_ReachAll.j0 k l0 l2 (!t332) a1_0 a1_1 a1_2 a1_3 a1_4 a1_5 a1_6 a1_7 a1_8 a1_9)) else (impl_ReachAll.j0 k l0 l2 true a1_0 a1_1 a1_2 a1_3 a1_4 a1_5 a1_6 a1_7 a1_8 a1_9))=some (r1,r2):=H
  have A6:=Aside0.mk A60
  clear A60
  by_cases c7:t331=true
  ·subst c7
   have H1:((impl_areMembers.f k l2).bind fun t332=>(impl_ReachAll.j0 k l0 l2 (!t332) a1_0 a1_1 a1_2 a1_3 a1_4 a1_5 a1_6 a1_7 a1_8 a1_9))=some (r1,r2):=by rw[if_pos rfl] at H;exact H
   clear H
   have H:=H1
   clear H1
   replace H:=Option.bind_eq_some_iff.mp H
   obtain⟨t332,A80,H⟩:=H
   replace H:(impl_ReachAll.j0 k l0 l2 (!t332) a1_0 a1_1 a1_2 a1_3 a1_4 a1_5 a1_6 a1_7 a1_8 a1_9)=some (r1,r2):=H
   have A8:=Aside0.mk A80
   clear A80
   have H':=Aside0.mk H
   clear H
   obtain⟨hcz9_0,hcz9_1,hcz9_2,hcz9_3,hcz9_4,hcz9_5,hcz9_6,hcz9_7,hcz9_8,hcz9_9⟩:=cC10 BK330.out
   obtain⟨hfz9_0,hfz9_1,hfz9_2,hfz9_3,hfz9_4,hfz9_5,hfz9_6,hfz9_7,hfz9_8,hfz9_9⟩:=cF10 BK330.out
   go_wp2_with (first|((with_reducible refine gate_callee (f:=151) rfl ?_);refine goesA (some 16) rfl rfl Try.func151 #[.slice A0 l0.length c0,.agg #[.int .i64 a1_0,.int .i64 a1_1,.bool a1_2,.int .i64 a1_3,.int .i64 a1_4,.int .i64 a1_5,.int .i64 a1_6,.int .i64 a1_7,.int .i64 a1_8,.string a1_9]] rfl ?_;(with_reducible refine(impl_fits.calls k _ _ l0 a1_0 a1_1 a1_2 a1_3 a1_4 a1_5 a1_6 a1_7 a1_8 a1_9 true _ ?side1 ?side2 A6.out).mono ?_);(case side1=>exact bC HR0.out);(case side2=>exact HC0.out);rintro e w10 ⟨rfl,hb⟩;refine⟨_,rfl,?_⟩;have n0_:=Aside0.mk (bM BK330.out hb);have n1_:=Aside0.mk (below_step (bS GE330.out) hb);clear BK330 HB;have BK330:=n0_;have HB:=n1_;clear n0_ n1_;(try clear hb);(try clear hb2);(try clear hk);(try clear hi))|(go_at_call 152;(with_reducible refine(impl_areMembers.calls k _ _ l2 t332 _ ?side1 ?side2 A8.out).mono ?_);(case side1=>exact bC HR2.out);(case side2=>exact HC2.out);rintro e w' ⟨rfl,⟨nd,rfl⟩⟩))
   go_meet
   case rel=>exact⟨_,(!t332),(bR),H',⟨by first|omega|exact Nat.le_refl _⟩,⟨by(with_reducible repeat (first|refine blk_drewN ?_ _|refine blk_drew ?_|refine blk_alloc ?_ _));exact BK330.out⟩,⟨bS GE330.out⟩⟩
  ·replace c7:=Bool.eq_false_iff.mpr c7
   subst c7
   have H1:(impl_ReachAll.j0 k l0 l2 true a1_0 a1_1 a1_2 a1_3 a1_4 a1_5 a1_6 a1_7 a1_8 a1_9)=some (r1,r2):=by rw[if_neg (show ¬ (false=true) by decide)] at H;exact H
   clear H
   have H:=H1
   clear H1
   have H':=Aside0.mk H
   clear H
   obtain⟨hcz11_0,hcz11_1,hcz11_2,hcz11_3,hcz11_4,hcz11_5,hcz11_6,hcz11_7,hcz11_8,hcz11_9⟩:=cC10 BK330.out
   obtain⟨hfz11_0,hfz11_1,hfz11_2,hfz11_3,hfz11_4,hfz11_5,hfz11_6,hfz11_7,hfz11_8,hfz11_9⟩:=cF10 BK330.out
   go_wp2_with (first|((with_reducible refine gate_callee (f:=151) rfl ?_);refine goesA (some 16) rfl rfl Try.func151 #[.slice A0 l0.length c0,.agg #[.int .i64 a1_0,.int .i64 a1_1,.bool a1_2,.int .i64 a1_3,.int .i64 a1_4,.int .i64 a1_5,.int .i64 a1_6,.int .i64 a1_7,.int .i64 a1_8,.string a1_9]] rfl ?_;(with_reducible refine(impl_fits.calls k _ _ l0 a1_0 a1_1 a1_2 a1_3 a1_4 a1_5 a1_6 a1_7 a1_8 a1_9 false _ ?side1 ?side2 A6.out).mono ?_);(case side1=>exact bC HR0.out);(case side2=>exact HC0.out);rintro e w12 ⟨rfl,hb⟩;refine⟨_,rfl,?_⟩;have n0_:=Aside0.mk (bM BK330.out hb);have n1_:=Aside0.mk (below_step (bS GE330.out) hb);clear BK330 HB;have BK330:=n0_;have HB:=n1_;clear n0_ n1_;(try clear hb);(try clear hb2);(try clear hk);(try clear hi)))
   go_meet
   case rel=>exact⟨_,(true),(bR),H',⟨by first|omega|exact Nat.le_refl _⟩,⟨by(with_reducible repeat (first|refine blk_drewN ?_ _|refine blk_drew ?_|refine blk_alloc ?_ _));exact BK330.out⟩,⟨bS GE330.out⟩⟩
 case rest =>
  clear HC4
  try clear c1
  try clear c2
  try clear p2
  try clear c6
  try clear c7
  try clear hcz11_0 hcz11_1 hcz11_2 hcz11_3 hcz11_4 hcz11_5 hcz11_6 hcz11_7 hcz11_8 hcz11_9
  try clear hcz9_0 hcz9_1 hcz9_2 hcz9_3 hcz9_4 hcz9_5 hcz9_6 hcz9_7 hcz9_8 hcz9_9
  try clear hfz11_0 hfz11_1 hfz11_2 hfz11_3 hfz11_4 hfz11_5 hfz11_6 hfz11_7 hfz11_8 hfz11_9
  try clear hfz9_0 hfz9_1 hfz9_2 hfz9_3 hfz9_4 hfz9_5 hfz9_6 hfz9_7 hfz9_8 hfz9_9
  obtain⟨kq,x22_3,rfl,HA,HJ3,BK330,HB⟩:=hcut
  cases kq with
  | zero=>exact absurd HA.out (by simp[impl_ReachAll.j0])
  | succ kj3 =>
   have H:=HA.out
   clear HA
   simp only[impl_ReachAll.j0] at H
   by_cases c13:x22_3=true
   ·subst c13
    have H1:(some (([]:List (S109)),false))=some (r1,r2):=by rw[if_pos rfl] at H;exact H
    clear H
    have H:=H1
    clear H1
    simp only[Option.some.injEq,Prod.mk.injEq] at H
    obtain⟨rfl,rfl⟩:=H
    go_wp2
    go_ret2
    exact⟨_,by first|rfl|(simp[errW_none,errW_some]<;>rfl)|(simp[*,errW_none,errW_some]<;>rfl),by first|exact Kd.S_nil _ _ _ _ _|exact Kd.N_nil _ _ _ _ _|exact Kd.V_nil _ _ _ _ _|exact Kd.Q_nil _ _ _ _ _|exact Kd.R_nil _ _ _ _ _,bS GE330.out⟩
   ·replace c13:=Bool.eq_false_iff.mpr c13
    subst c13
    have H1:(impl_ReachAll.l0 kj3 l0 (([]:List (S109))) l2 (l2.length:Int) 0 a1_0 a1_1 a1_2 a1_3 a1_4 a1_5 a1_6 a1_7 a1_8 a1_9)=some (r1,r2):=by rw[if_neg (show ¬ (false=true) by decide)] at H;exact H
    clear H
    have H:=H1
    clear H1
    obtain⟨y333,hy333⟩ : ∃ y_:List (S109),y_=(([]:List (S109))):=⟨_,rfl⟩
    replace H:(impl_ReachAll.l0 kj3 l0 y333 l2 (l2.length:Int) 0 a1_0 a1_1 a1_2 a1_3 a1_4 a1_5 a1_6 a1_7 a1_8 a1_9)=some (r1,r2):=by first|(rw[hy333];with_reducible exact H)|(have H2_:=(Option.bind_some _ _).symm.trans H;rw[hy333];with_reducible exact H2_)|(have H2_:=(Option.bind_some _ _).symm.trans H;with_reducible exact H2_)|with_reducible exact H|(rw[hy333];exact H)|exact H
    have Ny333:=Aside0.mk hy333
    clear hy333
    have H':=Aside0.mk H
    clear H
    go_wp2_with (first|((with_reducible refine gate_dst (N:=23) rfl ?_);(try (refine gate_guard (by rfl) ?_;dsimp only));refine Kd.S_lit k109 _ 109 ?hg (N:=23) ?hd (xs:=([]:List (S109))) (inner:=[]) (ok:=fun _=>True) (okp:=fun _=>True) ?hr ?hp (fun _ hk=>hk) trivial (Below.refl _ _) (Nat.le_refl _) (by simp) ?_;(case hd=>rfl);(case hg=>rfl);(case hr=>first|(go_simp;done)|(go_simp;rfl));(case hp=>exact(Reps.none _ _));intro v334 w14 ho15 hb hg_ hnew_;clear hg_ hnew_;(first|rw[← Ny333.out] at ho15|(simp only[Int.reduceToNat] at ho15;rw[← Ny333.out] at ho15));have n0_:=Aside0.mk (Kd.S_lower ho15 (below_size (bS GE330.out)));have n1_:=Aside0.mk (bM BK330.out hb);have n2_:=Aside0.mk (below_step (bS GE330.out) hb);clear BK330 HB;have HO335:=n0_;have BK330:=n1_;have HB:=n2_;clear n0_ n1_ n2_;clear hb ho15))
    go_loopg [8,26] kj3 (fun kq v8 v26 w' => ∃ (x8_2:List (S109)) (x26_2:Int),v26=.int .i64 x26_2∧Aside0 (impl_ReachAll.l0 kq l0 x8_2 l2 (l2.length:Int) x26_2 a1_0 a1_1 a1_2 a1_3 a1_4 a1_5 a1_6 a1_7 a1_8 a1_9=some (r1,r2))∧Aside0 (kq≤kj3)∧Aside0 (Kd.S k109 109 w' w.heap.size (fun _=>True) v8 x8_2)∧Aside0 (w'.heap[gb330]?=some (.cells #[.int .i64 a1_0,.int .i64 a1_1,.bool a1_2,.int .i64 a1_3,.int .i64 a1_4,.int .i64 a1_5,.int .i64 a1_6,.int .i64 a1_7,.int .i64 a1_8,.string a1_9] 79 (0,0)))∧Aside0 (Below w.heap.size w w'))
    case atStart=>exact⟨(y333),(0),(bR),H',⟨Nat.le_refl _⟩,⟨by(with_reducible repeat (first|apply Kd.S_alloc|apply Kd.S_drewN|apply Kd.S_drew));exact HO335.out⟩,⟨by(with_reducible repeat (first|refine blk_drewN ?_ _|refine blk_drew ?_|refine blk_alloc ?_ _));exact BK330.out⟩,⟨bS GE330.out⟩⟩
    case round =>
     clear H'
     try clear c1
     try clear c2
     try clear p2
     try clear c6
     try clear c7
     try clear c13
     try clear c15
     try clear hcz11_0 hcz11_1 hcz11_2 hcz11_3 hcz11_4 hcz11_5 hcz11_6 hcz11_7 hcz11_8 hcz11_9
     try clear hcz9_0 hcz9_1 hcz9_2 hcz9_3 hcz9_4 hcz9_5 hcz9_6 hcz9_7 hcz9_8 hcz9_9
     try clear hfz11_0 hfz11_1 hfz11_2 hfz11_3 hfz11_4 hfz11_5 hfz11_6 hfz11_7 hfz11_8 hfz11_9
     try clear hfz9_0 hfz9_1 hfz9_2 hfz9_3 hfz9_4 hfz9_5 hfz9_6 hfz9_7 hfz9_8 hfz9_9
     try clear p2
     obtain⟨x8_2,x26_2,rfl,HA,HK2,HO_8,BK330,HB⟩:=hrel
     cases gk with
     | zero=>exact absurd HA.out (by simp[impl_ReachAll.l0])
     | succ k2 =>
      have H:=HA.out
      clear HA
      simp only[impl_ReachAll.l0] at H
      by_cases c16:x26_2 < (l2.length:Int)
      ·rw[if_pos c16] at H
       have c16b0:decide (x26_2 < (l2.length:Int))=true:=decide_eq_true c16
       clear c16
       by_cases c17:0≤x26_2
       ·rw[if_pos c17] at H
        have c17b0:decide (0≤x26_2)=true:=decide_eq_true c17
        clear c17
        by_cases c18:x26_2 < (l2.length:Int)
        ·rw[if_pos c18] at H
         have c18b0:decide (x26_2 < (l2.length:Int))=true:=decide_eq_true c18
         clear c18
         replace H:=Option.bind_eq_some_iff.mp H
         obtain⟨⟨t337,t338,t339⟩,A190,H⟩:=H
         replace H:(if t339=true then (if t338≤(wrap64 (a1_3+a1_5)) then (if (t337.length:Int)≤a1_6 then (if x8_2.length < 3518437208883 then (impl_ReachAll.l0 k2 l0 (x8_2++[(⟨rd l2 x26_2,t338,t337⟩:S109)]) l2 (l2.length:Int) (wrap64 (x26_2+1)) a1_0 a1_1 a1_2 a1_3 a1_4 a1_5 a1_6 a1_7 a1_8 a1_9) else (none)) else (impl_ReachAll.l0 k2 l0 x8_2 l2 (l2.length:Int) (wrap64 (x26_2+1)) a1_0 a1_1 a1_2 a1_3 a1_4 a1_5 a1_6 a1_7 a1_8 a1_9)) else (impl_ReachAll.l0 k2 l0 x8_2 l2 (l2.length:Int) (wrap64 (x26_2+1)) a1_0 a1_1 a1_2 a1_3 a1_4 a1_5 a1_6 a1_7 a1_8 a1_9)) else (impl_ReachAll.l0 k2 l0 x8_2 l2 (l2.length:Int) (wrap64 (x26_2+1)) a1_0 a1_1 a1_2 a1_3 a1_4 a1_5 a1_6 a1_7 a1_8 a1_9))=some (r1,r2):=H
         have A19:=Aside0.mk A190
         clear A190
         by_cases c20:t339=true
         ·subst c20
          have H1:(if t338≤(wrap64 (a1_3+a1_5)) then (if (t337.length:Int)≤a1_6 then (if x8_2.length < 3518437208883 then (impl_ReachAll.l0 k2 l0 (x8_2++[(⟨rd l2 x26_2,t338,t337⟩:S109)]) l2 (l2.length:Int) (wrap64 (x26_2+1)) a1_0 a1_1 a1_2 a1_3 a1_4 a1_5 a1_6 a1_7 a1_8 a1_9) else (none)) else (impl_ReachAll.l0 k2 l0 x8_2 l2 (l2.length:Int) (wrap64 (x26_2+1)) a1_0 a1_1 a1_2 a1_3 a1_4 a1_5 a1_6 a1_7 a1_8 a1_9)) else (impl_ReachAll.l0 k2 l0 x8_2 l2 (l2.length:Int) (wrap64 (x26_2+1)) a1_0 a1_1 a1_2 a1_3 a1_4 a1_5 a1_6 a1_7 a1_8 a1_9))=some (r1,r2):=by rw[if_pos rfl] at H;exact H
          clear H
          have H:=H1
          clear H1
          by_cases c21:t338≤(wrap64 (a1_3+a1_5))
          ·rw[if_pos c21] at H
           have c21b0:decide (t338≤(wrap64 (a1_3+a1_5)))=true:=decide_eq_true c21
           clear c21
           by_cases c22:(t337.length:Int)≤a1_6
           ·rw[if_pos c22] at H
            have c22b0:decide ((t337.length:Int)≤a1_6)=true:=decide_eq_true c22
            clear c22
            by_cases c23:x8_2.length < 3518437208883
            ·rw[if_pos c23] at H
             have LMc23:=Aside0.mk c23
             clear c23
             obtain⟨y342,hy342⟩ : ∃ y_:List (S109),y_=(x8_2++[(⟨rd l2 x26_2,t338,t337⟩:S109)]):=⟨_,rfl⟩
             replace H:(impl_ReachAll.l0 k2 l0 y342 l2 (l2.length:Int) (wrap64 (x26_2+1)) a1_0 a1_1 a1_2 a1_3 a1_4 a1_5 a1_6 a1_7 a1_8 a1_9)=some (r1,r2):=by first|(rw[hy342];with_reducible exact H)|(have H2_:=(Option.bind_some _ _).symm.trans H;rw[hy342];with_reducible exact H2_)|(have H2_:=(Option.bind_some _ _).symm.trans H;with_reducible exact H2_)|with_reducible exact H|(rw[hy342];exact H)|exact H
             have Ny342:=Aside0.mk hy342
             clear hy342
             have H':=Aside0.mk H
             clear H
             have p336:0≤(x26_2:Int):=of_decide_eq_true (bD)
             have q336:x26_2 < (l2.length:Int):=of_decide_eq_true (bD)
             obtain⟨ad336,e336,hx336_0⟩:=Kd.at_int HR2.out x26_2 p336 q336
             cases e336
             replace hx336_0:=(HB.out.cell (World.block_lt_of_cell? w _ hx336_0)).trans hx336_0
             replace p336:=eq_true p336
             replace q336:=eq_true q336
             obtain⟨hcz24_0,hcz24_1,hcz24_2,hcz24_3,hcz24_4,hcz24_5,hcz24_6,hcz24_7,hcz24_8,hcz24_9⟩:=cC10 BK330.out
             obtain⟨hfz24_0,hfz24_1,hfz24_2,hfz24_3,hfz24_4,hfz24_5,hfz24_6,hfz24_7,hfz24_8,hfz24_9⟩:=cF10 BK330.out
             go_wp2_with (first|((with_reducible refine gate_callee (f:=153) rfl ?_);refine goesA (some 37) rfl rfl Try.func153 #[.slice A0 l0.length c0,.int .i64 a1_0,.int .i64 a1_3,.int .i64 (rd l2 x26_2)] rfl ?_;(with_reducible refine(impl_RouteTo.calls k2 _ _ l0 a1_0 a1_3 (rd l2 x26_2) t337 t338 true _ ?side1 ?side2 A19.out).mono ?_);(case side1=>exact bC HR0.out);(case side2=>exact HC0.out);rintro e w25 ⟨v340,rfl,ho0,hb⟩;refine⟨_,rfl,?_⟩;have n0_:=Aside0.mk (Kd.S_elder' (by(with_reducible repeat (first|apply Kd.S_alloc|apply Kd.S_drewN|apply Kd.S_drew));exact HO_8.out) (Kd.R_base ho0) hb);have n1_:=Aside0.mk (Kd.R_lower ho0 (below_size (bS GE330.out)));have n2_:=Aside0.mk (bM BK330.out hb);have n3_:=Aside0.mk (below_step (bS GE330.out) hb);clear HO_8 BK330 HB;have HO_8:=n0_;have HO341:=n1_;have BK330:=n2_;have HB:=n3_;clear n0_ n1_ n2_ n3_;(try clear hb);(try clear hb2);(try clear hk);(try clear hi);(try clear ho0);obtain⟨hcz26_0,hcz26_1,hcz26_2,hcz26_3,hcz26_4,hcz26_5,hcz26_6,hcz26_7,hcz26_8,hcz26_9⟩:=cC10 BK330.out;obtain⟨hfz26_0,hfz26_1,hfz26_2,hfz26_3,hfz26_4,hfz26_5,hfz26_6,hfz26_7,hfz26_8,hfz26_9⟩:=cF10 BK330.out;obtain⟨Ao27,co27,eo27⟩:=Kd.R_slice HO341.out;subst eo27)|((with_reducible refine gate_builtin (b:=.append) (xs:=#[.tmp 58,.tmp 63]) rfl ?_);(try (refine gate_guard (by rfl) ?_;dsimp only));at_builtin;refine Kd.S_append k109 (w0:=w) w.heap.size rfl (.tmp 58) (.tmp 63) 104 109 (.agg #[(.int .i64 0),(.int .i64 0),(.slice none 0 0)]) 40 rfl Try.underlying104 info109 rfl (by decide) (by omega) u8 x8_2 (⟨rd l2 x26_2,t338,t337⟩:S109) [.int .i64 (rd l2 x26_2),.int .i64 t338,.slice Ao27 t337.length co27] (fun _=>True) (fun k_=>some k_=(.slice Ao27 t337.length co27:Value).ownBlock) rfl rfl ?aP (fun k_ hk_=>((Kd.R_mono (ok':=fun k_=>((fun _=>True)) k_∧some k_≠(u8:Value).ownBlock) (Kd.R_apart' (HO341.out) (Kd.S_typed HO_8.out) (by decide)) (fun k_ hk=>⟨trivial,hk.2⟩))).1 k_ hk_.symm) ?aF ?aO ?aB ?aS ?aL ?_;(case aP=>exact k109_mkM _ _ _ (⟨rd l2 x26_2,t338,t337⟩:S109) (Kd.R_mono (Kd.R_tight rfl (Kd.R_mono (ok':=fun k_=>((fun _=>True)) k_∧some k_≠(u8:Value).ownBlock) (Kd.R_apart' (HO341.out) (Kd.S_typed HO_8.out) (by decide)) (fun k_ hk=>⟨trivial,hk.2⟩))) (fun _ h_=>h_)));(case aB=>exact(bS GE330.out));(case aF=>exact(fun _ _=>trivial));(case aO=>exact(by(with_reducible repeat (first|apply Kd.S_alloc|apply Kd.S_drewN|apply Kd.S_drew));exact Kd.S_mono HO_8.out (fun k_ hk=>⟨trivial,fun e_=>hk.2 e_⟩)));(case aS=>exact(below_size (bS GE330.out)));(case aL=>have:=LMc23.out;omega);intro v343 w28 ho hb hg hat;rw[← Ny342.out] at ho;have n0_:=Aside0.mk (blk_grown (g:=gb330) (o:=.cells #[.int .i64 a1_0,.int .i64 a1_1,.bool a1_2,.int .i64 a1_3,.int .i64 a1_4,.int .i64 a1_5,.int .i64 a1_6,.int .i64 a1_7,.int .i64 a1_8,.string a1_9] 79 (0,0)) (bL BK330.out) hg (Kd.S_ne HO_8.out BK330.out (by decide)));have n1_:=Aside0.mk (hb);have n2_:=Aside0.mk (ho);clear BK330 HB HO_8 HO341;have BK330:=n0_;have HB:=n1_;have HO344:=n2_;clear n0_ n1_ n2_;clear ho hb hg hat))
             go_roundg k2
             case measure=>have:=HJ3.out;have:=HK2.out;omega
             case rel=>exact⟨(y342),(wrap64 (x26_2+1)),(bR),H',⟨by have:=HJ3.out;have:=HK2.out;omega⟩,⟨by(with_reducible repeat (first|apply Kd.S_alloc|apply Kd.S_drewN|apply Kd.S_drew));exact HO344.out⟩,⟨by(with_reducible repeat (first|refine blk_drewN ?_ _|refine blk_drew ?_|refine blk_alloc ?_ _));exact BK330.out⟩,⟨bS GE330.out⟩⟩
            ·rw[if_neg c23] at H
             exact absurd H (by simp)
           ·rw[if_neg c22] at H
            have c22b0:decide ((t337.length:Int)≤a1_6)=false:=decide_eq_false c22
            clear c22
            have H':=Aside0.mk H
            clear H
            have p336:0≤(x26_2:Int):=of_decide_eq_true (bD)
            have q336:x26_2 < (l2.length:Int):=of_decide_eq_true (bD)
            obtain⟨ad336,e336,hx336_0⟩:=Kd.at_int HR2.out x26_2 p336 q336
            cases e336
            replace hx336_0:=(HB.out.cell (World.block_lt_of_cell? w _ hx336_0)).trans hx336_0
            replace p336:=eq_true p336
            replace q336:=eq_true q336
            obtain⟨hcz29_0,hcz29_1,hcz29_2,hcz29_3,hcz29_4,hcz29_5,hcz29_6,hcz29_7,hcz29_8,hcz29_9⟩:=cC10 BK330.out
            obtain⟨hfz29_0,hfz29_1,hfz29_2,hfz29_3,hfz29_4,hfz29_5,hfz29_6,hfz29_7,hfz29_8,hfz29_9⟩:=cF10 BK330.out
            go_wp2_with (first|((with_reducible refine gate_callee (f:=153) rfl ?_);refine goesA (some 37) rfl rfl Try.func153 #[.slice A0 l0.length c0,.int .i64 a1_0,.int .i64 a1_3,.int .i64 (rd l2 x26_2)] rfl ?_;(with_reducible refine(impl_RouteTo.calls k2 _ _ l0 a1_0 a1_3 (rd l2 x26_2) t337 t338 true _ ?side1 ?side2 A19.out).mono ?_);(case side1=>exact bC HR0.out);(case side2=>exact HC0.out);rintro e w30 ⟨v340,rfl,ho0,hb⟩;refine⟨_,rfl,?_⟩;have n0_:=Aside0.mk (Kd.S_elder' (by(with_reducible repeat (first|apply Kd.S_alloc|apply Kd.S_drewN|apply Kd.S_drew));exact HO_8.out) (Kd.R_base ho0) hb);have n1_:=Aside0.mk (Kd.R_lower ho0 (below_size (bS GE330.out)));have n2_:=Aside0.mk (bM BK330.out hb);have n3_:=Aside0.mk (below_step (bS GE330.out) hb);clear HO_8 BK330 HB;have HO_8:=n0_;have HO341:=n1_;have BK330:=n2_;have HB:=n3_;clear n0_ n1_ n2_ n3_;(try clear hb);(try clear hb2);(try clear hk);(try clear hi);(try clear ho0);obtain⟨hcz31_0,hcz31_1,hcz31_2,hcz31_3,hcz31_4,hcz31_5,hcz31_6,hcz31_7,hcz31_8,hcz31_9⟩:=cC10 BK330.out;obtain⟨hfz31_0,hfz31_1,hfz31_2,hfz31_3,hfz31_4,hfz31_5,hfz31_6,hfz31_7,hfz31_8,hfz31_9⟩:=cF10 BK330.out;obtain⟨Ao32,co32,eo32⟩:=Kd.R_slice HO341.out;subst eo32))
            go_roundg k2
            case measure=>have:=HJ3.out;have:=HK2.out;omega
            case rel=>exact⟨(x8_2),(wrap64 (x26_2+1)),(bR),H',⟨by have:=HJ3.out;have:=HK2.out;omega⟩,⟨by(with_reducible repeat (first|apply Kd.S_alloc|apply Kd.S_drewN|apply Kd.S_drew));exact Kd.S_mono HO_8.out (fun _ hk=>trivial)⟩,⟨by(with_reducible repeat (first|refine blk_drewN ?_ _|refine blk_drew ?_|refine blk_alloc ?_ _));exact BK330.out⟩,⟨bS GE330.out⟩⟩
          ·rw[if_neg c21] at H
           have c21b0:decide (t338≤(wrap64 (a1_3+a1_5)))=false:=decide_eq_false c21
           clear c21
           have H':=Aside0.mk H
           clear H
           have p336:0≤(x26_2:Int):=of_decide_eq_true (bD)
           have q336:x26_2 < (l2.length:Int):=of_decide_eq_true (bD)
           obtain⟨ad336,e336,hx336_0⟩:=Kd.at_int HR2.out x26_2 p336 q336
           cases e336
           replace hx336_0:=(HB.out.cell (World.block_lt_of_cell? w _ hx336_0)).trans hx336_0
           replace p336:=eq_true p336
           replace q336:=eq_true q336
           obtain⟨hcz33_0,hcz33_1,hcz33_2,hcz33_3,hcz33_4,hcz33_5,hcz33_6,hcz33_7,hcz33_8,hcz33_9⟩:=cC10 BK330.out
           obtain⟨hfz33_0,hfz33_1,hfz33_2,hfz33_3,hfz33_4,hfz33_5,hfz33_6,hfz33_7,hfz33_8,hfz33_9⟩:=cF10 BK330.out
           go_wp2_with (first|((with_reducible refine gate_callee (f:=153) rfl ?_);refine goesA (some 37) rfl rfl Try.func153 #[.slice A0 l0.length c0,.int .i64 a1_0,.int .i64 a1_3,.int .i64 (rd l2 x26_2)] rfl ?_;(with_reducible refine(impl_RouteTo.calls k2 _ _ l0 a1_0 a1_3 (rd l2 x26_2) t337 t338 true _ ?side1 ?side2 A19.out).mono ?_);(case side1=>exact bC HR0.out);(case side2=>exact HC0.out);rintro e w34 ⟨v340,rfl,ho0,hb⟩;refine⟨_,rfl,?_⟩;have n0_:=Aside0.mk (Kd.S_elder' (by(with_reducible repeat (first|apply Kd.S_alloc|apply Kd.S_drewN|apply Kd.S_drew));exact HO_8.out) (Kd.R_base ho0) hb);have n1_:=Aside0.mk (Kd.R_lower ho0 (below_size (bS GE330.out)));have n2_:=Aside0.mk (bM BK330.out hb);have n3_:=Aside0.mk (below_step (bS GE330.out) hb);clear HO_8 BK330 HB;have HO_8:=n0_;have HO341:=n1_;have BK330:=n2_;have HB:=n3_;clear n0_ n1_ n2_ n3_;(try clear hb);(try clear hb2);(try clear hk);(try clear hi);(try clear ho0);obtain⟨hcz35_0,hcz35_1,hcz35_2,hcz35_3,hcz35_4,hcz35_5,hcz35_6,hcz35_7,hcz35_8,hcz35_9⟩:=cC10 BK330.out;obtain⟨hfz35_0,hfz35_1,hfz35_2,hfz35_3,hfz35_4,hfz35_5,hfz35_6,hfz35_7,hfz35_8,hfz35_9⟩:=cF10 BK330.out))
           go_roundg k2
           case measure=>have:=HJ3.out;have:=HK2.out;omega
           case rel=>exact⟨(x8_2),(wrap64 (x26_2+1)),(bR),H',⟨by have:=HJ3.out;have:=HK2.out;omega⟩,⟨by(with_reducible repeat (first|apply Kd.S_alloc|apply Kd.S_drewN|apply Kd.S_drew));exact Kd.S_mono HO_8.out (fun _ hk=>trivial)⟩,⟨by(with_reducible repeat (first|refine blk_drewN ?_ _|refine blk_drew ?_|refine blk_alloc ?_ _));exact BK330.out⟩,⟨bS GE330.out⟩⟩
         ·replace c20:=Bool.eq_false_iff.mpr c20
          subst c20
          have H1:(impl_ReachAll.l0 k2 l0 x8_2 l2 (l2.length:Int) (wrap64 (x26_2+1)) a1_0 a1_1 a1_2 a1_3 a1_4 a1_5 a1_6 a1_7 a1_8 a1_9)=some (r1,r2):=by rw[if_neg (show ¬ (false=true) by decide)] at H;exact H
          clear H
          have H:=H1
          clear H1
          have H':=Aside0.mk H
          clear H
          have p336:0≤(x26_2:Int):=of_decide_eq_true (bD)
          have q336:x26_2 < (l2.length:Int):=of_decide_eq_true (bD)
          obtain⟨ad336,e336,hx336_0⟩:=Kd.at_int HR2.out x26_2 p336 q336
          cases e336
          replace hx336_0:=(HB.out.cell (World.block_lt_of_cell? w _ hx336_0)).trans hx336_0
          replace p336:=eq_true p336
          replace q336:=eq_true q336
          obtain⟨hcz36_0,hcz36_1,hcz36_2,hcz36_3,hcz36_4,hcz36_5,hcz36_6,hcz36_7,hcz36_8,hcz36_9⟩:=cC10 BK330.out
          obtain⟨hfz36_0,hfz36_1,hfz36_2,hfz36_3,hfz36_4,hfz36_5,hfz36_6,hfz36_7,hfz36_8,hfz36_9⟩:=cF10 BK330.out
          go_wp2_with (first|((with_reducible refine gate_callee (f:=153) rfl ?_);refine goesA (some 37) rfl rfl Try.func153 #[.slice A0 l0.length c0,.int .i64 a1_0,.int .i64 a1_3,.int .i64 (rd l2 x26_2)] rfl ?_;(with_reducible refine(impl_RouteTo.calls k2 _ _ l0 a1_0 a1_3 (rd l2 x26_2) t337 t338 false _ ?side1 ?side2 A19.out).mono ?_);(case side1=>exact bC HR0.out);(case side2=>exact HC0.out);rintro e w37 ⟨v340,rfl,ho0,hb⟩;refine⟨_,rfl,?_⟩;have n0_:=Aside0.mk (Kd.S_elder' (by(with_reducible repeat (first|apply Kd.S_alloc|apply Kd.S_drewN|apply Kd.S_drew));exact HO_8.out) (Kd.R_base ho0) hb);have n1_:=Aside0.mk (Kd.R_lower ho0 (below_size (bS GE330.out)));have n2_:=Aside0.mk (bM BK330.out hb);have n3_:=Aside0.mk (below_step (bS GE330.out) hb);clear HO_8 BK330 HB;have HO_8:=n0_;have HO341:=n1_;have BK330:=n2_;have HB:=n3_;clear n0_ n1_ n2_ n3_;(try clear hb);(try clear hb2);(try clear hk);(try clear hi);(try clear ho0)))
          go_roundg k2
          case measure=>have:=HJ3.out;have:=HK2.out;omega
          case rel=>exact⟨(x8_2),(wrap64 (x26_2+1)),(bR),H',⟨by have:=HJ3.out;have:=HK2.out;omega⟩,⟨by(with_reducible repeat (first|apply Kd.S_alloc|apply Kd.S_drewN|apply Kd.S_drew));exact Kd.S_mono HO_8.out (fun _ hk=>trivial)⟩,⟨by(with_reducible repeat (first|refine blk_drewN ?_ _|refine blk_drew ?_|refine blk_alloc ?_ _));exact BK330.out⟩,⟨bS GE330.out⟩⟩
        ·rw[if_neg c18] at H
         exact absurd H (by simp)
       ·rw[if_neg c17] at H
        exact absurd H (by simp)
      ·rw[if_neg c16] at H
       have c16b0:decide (x26_2 < (l2.length:Int))=false:=decide_eq_false c16
       clear c16
       simp only[Option.some.injEq,Prod.mk.injEq] at H
       obtain⟨rfl,rfl⟩:=H
       go_wp2
       go_ret2
       exact⟨_,by first|rfl|(simp[errW_none,errW_some]<;>rfl)|(simp[*,errW_none,errW_some]<;>rfl),by(with_reducible repeat (first|apply Kd.S_alloc|apply Kd.S_drewN|apply Kd.S_drew));exact HO_8.out,bS GE330.out⟩

/-! ### slices_Sort_int_int: function 126, by the kit's contract -/
def Try.laysSort_ren:Go.Shelf.Ren:=⟨fun|189=>126|125=>193|257=>192|128=>241|129=>242|294=>232|295=>233|296=>234|297=>235|298=>236|299=>237|216=>238|300=>239|301=>240|328=>255|329=>256|330=>257|331=>258|332=>259|215=>260|343=>268|n=>n,fun|28=>47|3=>3|46=>227|0=>0|51=>269|53=>133|4=>4|183=>263|182=>262|131=>249|5=>5|9=>9|218=>281|222=>285|228=>296|229=>297|n=>n,fun|n=>n⟩
theorem Try.laysSort:Go.Proofs.Lays.n189 Try.prog Try.laysSort_ren where
 mixed:=by kernel_rfl
 f125:=Try.func193.trans (congrArg some (by kernel_rfl))
 f128:=Try.func241.trans (congrArg some (by kernel_rfl))
 f129:=Try.func242.trans (congrArg some (by kernel_rfl))
 f189:=Try.func126.trans (congrArg some (by kernel_rfl))
 f215:=Try.func260.trans (congrArg some (by kernel_rfl))
 f216:=Try.func238.trans (congrArg some (by kernel_rfl))
 f257:=Try.func192.trans (congrArg some (by kernel_rfl))
 f294:=Try.func232.trans (congrArg some (by kernel_rfl))
 f295:=Try.func233.trans (congrArg some (by kernel_rfl))
 f296:=Try.func234.trans (congrArg some (by kernel_rfl))
 f297:=Try.func235.trans (congrArg some (by kernel_rfl))
 f298:=Try.func236.trans (congrArg some (by kernel_rfl))
 f299:=Try.func237.trans (congrArg some (by kernel_rfl))
 f300:=Try.func239.trans (congrArg some (by kernel_rfl))
 f301:=Try.func240.trans (congrArg some (by kernel_rfl))
 f328:=Try.func255.trans (congrArg some (by kernel_rfl))
 f329:=Try.func256.trans (congrArg some (by kernel_rfl))
 f330:=Try.func257.trans (congrArg some (by kernel_rfl))
 f331:=Try.func258.trans (congrArg some (by kernel_rfl))
 f332:=Try.func259.trans (congrArg some (by kernel_rfl))
 f343:=Try.func268.trans (congrArg some (by kernel_rfl))
 t0:=Try.underlying0
 a0:=Try.isAgg0
 z0:=Try.sizeOf0
 v0:=Try.zeroValue0
 t3:=Try.underlying3
 a3:=Try.isAgg3
 z3:=Try.sizeOf3
 v3:=Try.zeroValue3
 t4:=Try.underlying4
 a4:=Try.isAgg4
 z4:=Try.sizeOf4
 v4:=Try.zeroValue4
 t5:=Try.underlying5
 a5:=Try.isAgg5
 z5:=Try.sizeOf5
 v5:=Try.zeroValue5
 t9:=Try.underlying9
 a9:=Try.isAgg9
 z9:=Try.sizeOf9
 v9:=Try.zeroValue9
 t28:=Try.underlying47
 a28:=Try.isAgg47
 z28:=Try.sizeOf47
 v28:=Try.zeroValue47
 t46:=Try.underlying227
 a46:=Try.isAgg227
 z46:=Try.sizeOf227
 v46:=Try.zeroValue227
 t51:=Try.underlying269
 a51:=Try.isAgg269
 z51:=Try.sizeOf269
 v51:=Try.zeroValue269
 t53:=Try.underlying133
 a53:=Try.isAgg133
 z53:=Try.sizeOf133
 v53:=Try.zeroValue133
 t131:=Try.underlying249
 a131:=Try.isAgg249
 z131:=Try.sizeOf249
 v131:=Try.zeroValue249
 t182:=Try.underlying262
 a182:=Try.isAgg262
 z182:=Try.sizeOf262
 v182:=Try.zeroValue262
 t183:=Try.underlying263
 a183:=Try.isAgg263
 z183:=Try.sizeOf263
 v183:=Try.zeroValue263
 t218:=Try.underlying281
 a218:=Try.isAgg281
 z218:=Try.sizeOf281
 v218:=Try.zeroValue281
 t222:=Try.underlying285
 a222:=Try.isAgg285
 z222:=Try.sizeOf285
 v222:=Try.zeroValue285
 t228:=Try.underlying296
 a228:=Try.isAgg296
 z228:=Try.sizeOf296
 v228:=Try.zeroValue296
 t229:=Try.underlying297
 a229:=Try.isAgg297
 z229:=Try.sizeOf297
 v229:=Try.zeroValue297

/-- The library's own sort, by the kit's contract over its 21 functions. -/
theorem slices_Sort_own (P0_:Nat→Prop) (u:Value) (l:List Int) (w0 w:World) (hB:Below w0.heap.size w0 w) (ho0:Kd.R (Kd.int .i64) 3 w w0.heap.size P0_ u l) (hsz:l.length < 4611686018427387904) :
  Calls Try.prog 126 #[u] w fun e w'=>e=.returned (.tuple #[])∧Kd.R (Kd.int .i64) 3 w' w0.heap.size (fun k_=>(P0_ k_∨w.heap.size≤k_)) u (l.mergeSort fun x y=>decide (x≤y))∧Below w0.heap.size w0 w'∧Kept w w' (fun k_=>P0_ k_):=by
 have ho:=Kd.own_of_R ho0
 rcases ho.2 with ⟨rfl,hz⟩|⟨g,cap,cur,rfl,hbase,hgb,r1,r2,r3,r4⟩
 ·have hl:l=[]:=List.eq_nil_of_length_eq_zero hz
  subst hl
  refine(Go.Proofs.Any.slices_Sort_int_none Try.laysSort none 0 w).mono ?_
  rintro e w' ⟨rfl,rfl⟩
  exact⟨rfl,by simpa using Kd.R_nil _ _ _ _ _,hB,Kept.refl _ _⟩
 ·have hH:Go.Sort.Holds (Value.int .i64) w g 0 l.toArray:=holds_of_blockI hgb (by simpa [encs] using r4)
  have hgl:g < w.heap.size:=(Array.getElem?_eq_some_iff.1 hgb).1
  refine(Go.Proofs.Any.slices_Sort_int Try.laysSort g 0 cap l w hH hgl hsz).mono ?_
  rintro e w' ⟨rfl,n,os,rfl⟩
  have hg:=grownBy_sortedI (w:=w) (g:=g) (n:=n) (os:=os) (l.mergeSort fun x y=>decide (x≤y)).toArray
  have hln:(l.mergeSort fun x y=>decide (x≤y)).length=l.length:=List.length_mergeSort _
  have hown:=ownsRow_sortedI (n:=n) (os:=os) (ss:=l) hln hbase hgb r1 r2 r3
  refine⟨rfl,Kd.R_of_own (by rw[hln];exact hown) (fun k hk=>.inl (ho0.1 k hk)),hB.grown hg hB.size (fun k e_=>by cases e_;exact hbase),Kept.of_grown hg (Kept.refl _ _) (fun k e_=>.inl (ho0.1 k e_))⟩
def slices_Sort_int_int.f (k:Nat) (l0:List Int):Option (List Int):=if l0.length < 4611686018427387904 then some (l0.mergeSort fun x y=>decide (x≤y)) else none
theorem slices_Sort_int_int.mono : ∀ a0 k,LeO (slices_Sort_int_int.f k a0) (slices_Sort_int_int.f (k+1) a0):=fun _ _=>LeO.refl _
theorem slices_Sort_int_int.calls (k:Nat) (P0_:Nat→Prop) (u9000_:Value) (l0:List Int) (r:List Int) (w0 w:World) (hB:Below w0.heap.size w0 w) (ho0:Kd.R (Kd.int .i64) 3 w w0.heap.size P0_ u9000_ l0) (h:slices_Sort_int_int.f k l0=some r) :
  Calls Try.prog 126 #[u9000_] w fun e w'=>e=.returned (.tuple #[])∧Kd.R (Kd.int .i64) 3 w' w0.heap.size (fun k_=>(P0_ k_∨w.heap.size≤k_)) u9000_ r∧Below w0.heap.size w0 w'∧Kept w w' (fun k_=>P0_ k_):=by
 unfold slices_Sort_int_int.f at h
 by_cases c:l0.length < 4611686018427387904
 ·rw[if_pos c] at h
  obtain rfl:=Option.some.inj h
  exact slices_Sort_own P0_ u9000_ l0 w0 w hB ho0 c
 ·rw[if_neg c] at h
  cases h


/-! ### slices_Compact_int_int: function 127, by the kit's contract -/
def Try.laysCompact_ren:Go.Shelf.Ren:=⟨fun|20=>127|n=>n,fun|22=>47|3=>3|4=>4|0=>0|n=>n,fun|n=>n⟩
theorem Try.laysCompact:Go.Proofs.Lays2.n20 Try.prog Try.laysCompact_ren where
 mixed:=by kernel_rfl
 f20:=Try.func127.trans (congrArg some (by kernel_rfl))
 t0:=Try.underlying0
 a0:=Try.isAgg0
 z0:=Try.sizeOf0
 v0:=Try.zeroValue0
 t3:=Try.underlying3
 a3:=Try.isAgg3
 z3:=Try.sizeOf3
 v3:=Try.zeroValue3
 t4:=Try.underlying4
 a4:=Try.isAgg4
 z4:=Try.sizeOf4
 v4:=Try.zeroValue4
 t22:=Try.underlying47
 a22:=Try.isAgg47
 z22:=Try.sizeOf47
 v22:=Try.zeroValue47
 i3:=by kernel_rfl

/-! pure: -/
/-- What is left of a row behind u, those that stand next to their like left out. -/
def dda (u:Int):List Int→List Int
 | []=>[]
 | x::xs=>if x=u then dda u xs else x::dda x xs
def comp:List Int→List Int
 | []=>[]
 | u::c=>u::dda u c
/-! machine: -/
theorem compact_from : ∀ (c p:List Int) (u:Int),Lib.compactUpTo (p++u::c).toArray (p.length+1+c.length)=Lib.compactUpTo (p++u::c).toArray (p.length+1)++dda u c:=by
 intro c
 induction c with
 | nil=>intro p u;simp[dda]
 | cons v c ih =>
  intro p u
  have h:=ih (p++[u]) v
  rw[List.append_assoc,List.singleton_append,List.length_append,List.length_singleton] at h
  rw[List.length_cons,show p.length+1+(c.length+1)=p.length+1+1+c.length by omega,h,Lib.compactUpTo_succ _ (p.length+1),List.append_assoc]
  have h1:(p++u::v::c).toArray[p.length+1]! = v:=by simp
  have h2:(p++u::v::c).toArray[p.length+1 - 1]! = u:=by simp
  congr 1
  unfold Lib.keeps
  rw[h1,h2]
  by_cases e:v=u
  ·simp[dda,e]
  ·simp[dda,e]
theorem compact_is (l:List Int):Lib.compact l=comp l:=by
 cases l with
 | nil=>rfl
 | cons u c =>
  have h:=compact_from c [] u
  rw[List.nil_append,List.length_nil] at h
  unfold Lib.compact comp
  rw[List.length_cons,show c.length+1=0+1+c.length by omega,h,Lib.compactUpTo_succ]
  simp[Lib.compactUpTo,Lib.keeps]
theorem dda_len : ∀ (c:List Int) (u:Int),(dda u c).length≤c.length:=by
 intro c
 induction c with
 | nil=>intro u;simp[dda]
 | cons v c ih =>
  intro u
  unfold dda
  by_cases e:v=u
  ·rw[if_pos e,List.length_cons]
   have:=ih u
   omega
  ·rw[if_neg e,List.length_cons,List.length_cons]
   have:=ih v
   omega
theorem comp_len (l:List Int):(comp l).length≤l.length:=by
 cases l with
 | nil=>exact Nat.le_refl _
 | cons u c=>exact Nat.succ_le_succ (dda_len c u)
/-- The library's own Compact, by the kit's contract. -/
theorem slices_Compact_own (P0_:Nat→Prop) (u:Value) (l:List Int) (w0 w:World) (hB:Below w0.heap.size w0 w) (ho0:Kd.R (Kd.int .i64) 3 w w0.heap.size P0_ u l) :
  Calls Try.prog 127 #[u] w fun e w' => ∃ v,e=.returned v∧Kd.R (Kd.int .i64) 3 w' w0.heap.size (fun k_=>(P0_ k_∨w.heap.size≤k_)) v (comp l)∧Below w0.heap.size w0 w'∧Kept w w' (fun k_=>P0_ k_):=by
 have ho:=Kd.own_of_R ho0
 rcases ho.2 with ⟨rfl,hz⟩|⟨g,cap,cur,rfl,hbase,hgb,r1,r2,r3,r4⟩
 ·have hl:l=[]:=List.eq_nil_of_length_eq_zero hz
  subst hl
  refine(Go.Proofs.Any.slices_Compact_int_empty Try.laysCompact none 0 w).mono ?_
  rintro e w' ⟨rfl,rfl⟩
  exact⟨_,rfl,Kd.R_nil _ _ _ _ _,hB,Kept.refl _ _⟩
 ·have hH:Go.Sort.Holds (Value.int .i64) w g 0 l.toArray:=holds_of_blockI hgb (by simpa [encs] using r4)
  have hm:maxLen=9223372036854775807:=rfl
  refine(Go.Proofs.Any.slices_Compact_int Try.laysCompact g 0 cap l w hH (by omega) r1).mono ?_
  rintro e w' ⟨rfl,q,rfl⟩
  have hcl:(Lib.compact l).length≤l.length:=by rw[compact_is];exact comp_len l
  obtain⟨ts,hts⟩ : ∃ ts:List Int,ts=Lib.compact l++List.replicate (l.length - (Lib.compact l).length) 0:=⟨_,rfl⟩
  have htl:ts.length=l.length:=by rw[hts,List.length_append,List.length_replicate];omega
  have hg:=grownBy_sortedI (w:=w) (g:=g) (n:=q) (os:=#[]) ts.toArray
  have hown:=ownsRow_sortedI (n:=q) (os:=#[]) (ss:=l) (ts:=ts) htl hbase hgb r1 r2 r3
  rw[Go.Sort.grow_empty] at hg hown
  rw[hts] at hg hown
  have hR:=Kd.R_take (m:=(Lib.compact l).length) (Kd.R_of_own (α:=Int) (h1:=fun _=>rfl) (xs:=ts) (ok:=fun k_=>P0_ k_∨w.heap.size≤k_) (by rw[htl];rw[hts];exact hown) (fun k hk=>.inl (ho0.1 k hk))) (by omega)
  rw[show ts.take (Lib.compact l).length=comp l by rw[hts,List.take_left,compact_is]] at hR
  exact⟨_,rfl,hR,hB.grown hg hB.size (fun k e_=>by cases e_;exact hbase),Kept.of_grown hg (Kept.refl _ _) (fun k e_=>.inl (ho0.1 k e_))⟩
def slices_Compact_int_int.f (k:Nat) (l0:List Int):Option (List Int):=some (comp l0)
theorem slices_Compact_int_int.mono : ∀ a0 k,LeO (slices_Compact_int_int.f k a0) (slices_Compact_int_int.f (k+1) a0):=fun _ _=>LeO.refl _
theorem slices_Compact_int_int.calls (k:Nat) (P0_:Nat→Prop) (u9000_:Value) (l0:List Int) (r:List Int) (w0 w:World) (hB:Below w0.heap.size w0 w) (ho0:Kd.R (Kd.int .i64) 3 w w0.heap.size P0_ u9000_ l0) (h:slices_Compact_int_int.f k l0=some r) :
  Calls Try.prog 127 #[u9000_] w fun e w' => ∃ v0_:Value,e=.returned (v0_)∧Kd.R (Kd.int .i64) 3 w' w0.heap.size (fun k_=>(P0_ k_∨w.heap.size≤k_)) v0_ r∧Below w0.heap.size w0 w'∧Kept w w' (fun k_=>P0_ k_):=by
 obtain rfl:=Option.some.inj h
 exact slices_Compact_own P0_ u9000_ l0 w0 w hB ho0


end Go.Proofs.Ytjmanpicdeebgaa.XFnExactTreeFor
