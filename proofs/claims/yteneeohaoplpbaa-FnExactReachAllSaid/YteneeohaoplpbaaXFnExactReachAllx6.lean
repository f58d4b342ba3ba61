-- Written by this session's own program (wip/xprint.py) out of the translation; Lean checks it.
import Derived.Test.YteneeohaoplpbaaXFnExactReachAllx0
import Derived.Test.YteneeohaoplpbaaXFnExactReachAllx5
namespace Go.Proofs.Yteneeohaoplpbaa.XFnExactReachAll
open Go.RowKit Go.Proofs.YteneeohaoplpbaaW.PrintWords Go.Proofs.YteneeohaoplpbaaW.PrintLast Go.Proofs.YteneeohaoplpbaaW.PrintMore
attribute [local go_sem] max2_int min2_int max_two min_two max_three min_three max_four min_four   -- for this text's walks alone
set_option linter.unusedVariables false
set_option linter.unusedSimpArgs false

/-! ### impl_Contact_impl_GoodPlan_lit1_2: function 169 -/
def impl_Contact_impl_GoodPlan_lit1_2.l0:Nat→List (S104)→Int→Int→Option (Int)
 | 0,_,_,_=>none
 | k+1,x0,x7,x8=>if x8 < x7 then (if 0≤x8 then (if x8 < (x0.length:Int) then ((impl_GoodPlan_lit1.f ((rd_T104 x0 x8).f0) ((rd_T104 x0 x8).f1) ((rd_T104 x0 x8).f2) ((rd_T104 x0 x8).f3) ((rd_T104 x0 x8).f4)).bind fun t226=>(if t226=true then (some x8) else (impl_Contact_impl_GoodPlan_lit1_2.l0 k x0 x7 (wrap64 (x8+1))))) else (none)) else (none)) else (some (-1))
def impl_Contact_impl_GoodPlan_lit1_2.f (k:Nat) (l0:List (S104))  : Option (Int):=impl_Contact_impl_GoodPlan_lit1_2.l0 k l0 (l0.length:Int) 0
theorem impl_Contact_impl_GoodPlan_lit1_2.mono_l : ∀ k,(∀ y0 y1 y2,LeO (impl_Contact_impl_GoodPlan_lit1_2.l0 k y0 y1 y2) (impl_Contact_impl_GoodPlan_lit1_2.l0 (k+1) y0 y1 y2))
 | 0=>fun _ _ _ r h=>by simp[impl_Contact_impl_GoodPlan_lit1_2.l0] at h
 | k+1=>by
  have ih0:=impl_Contact_impl_GoodPlan_lit1_2.mono_l k
  ·intro y0 y1 y2
   unfold impl_Contact_impl_GoodPlan_lit1_2.l0
   repeat' first
   | (with_reducible exact ih0 _ _ _)
   | (with_reducible exact LeO.refl _)
   | (with_reducible exact LeO.none _)
   | (with_reducible refine LeO.ite ?_ ?_)
   | (with_reducible refine LeO.bind ?_ (fun _ => ?_))
   | exact ih0 _ _ _
   | exact LeO.none _
   | refine LeO.ite ?_ ?_
   | refine LeO.bind ?_ (fun _ => ?_)
theorem impl_Contact_impl_GoodPlan_lit1_2.mono : ∀ a0 k,LeO (impl_Contact_impl_GoodPlan_lit1_2.f k a0) (impl_Contact_impl_GoodPlan_lit1_2.f (k+1) a0):=by
 intro a0 k
 have ih0:=impl_Contact_impl_GoodPlan_lit1_2.mono_l k
 unfold impl_Contact_impl_GoodPlan_lit1_2.f
 repeat' first
  | (with_reducible exact ih0 _ _ _)
  | (with_reducible exact LeO.refl _)
  | (with_reducible exact LeO.none _)
  | (with_reducible refine LeO.ite ?_ ?_)
  | (with_reducible refine LeO.bind ?_ (fun _ => ?_))
  | exact ih0 _ _ _
  | exact LeO.none _
  | refine LeO.ite ?_ ?_
  | refine LeO.bind ?_ (fun _ => ?_)
set_option maxHeartbeats 8000000 in
set_option maxRecDepth 100000 in
theorem impl_Contact_impl_GoodPlan_lit1_2.calls (k:Nat) (A0:Option Addr) (c0:Nat) (l0:List (S104))  (r:Int) (w:World) (hr0:Kd.C k104 w A0 l0.length l0) (hc0:l0.length≤c0) (h:impl_Contact_impl_GoodPlan_lit1_2.f k l0=some r) :
  Calls Try.prog 169 #[.slice A0 l0.length c0,(.func (.func 145) #[] #[])] w fun e w'=>e=.returned (.int .i64 r)∧Below w.heap.size w w':=by
 have hu104:=Try.underlying104
 have HR0:=Aside0.mk hr0
 have HC0:=Aside0.mk hc0
 clear hr0 hc0
 have HB:=Aside0.mk (Below.refl w.heap.size w)
 have H:(impl_Contact_impl_GoodPlan_lit1_2.l0 k l0 (l0.length:Int) 0)=some r:=h
 clear h
 have H':=Aside0.mk H
 clear H
 go_enter Try.func169,Try.ntmps169
 go_wp2
 go_loopg [8] k (fun kq v8 w' => ∃ (x8_1:Int),v8=.int .i64 x8_1∧Aside0 (impl_Contact_impl_GoodPlan_lit1_2.l0 kq l0 (l0.length:Int) x8_1=some r)∧Aside0 (kq≤k)∧Aside0 (Below w.heap.size w w'))
 case atStart=>exact⟨(0),(bR),H',⟨Nat.le_refl _⟩,⟨by repeat (first|(with_reducible first|exact HB.out|apply below_alloc|apply pw_below_drewN|apply below_drew1)|exact HB.out)⟩⟩
 case round =>
  clear H'
  try clear p2
  obtain⟨x8_1,rfl,HA,HK1,HB⟩:=hrel
  cases gk with
  | zero=>exact absurd HA.out (by simp[impl_Contact_impl_GoodPlan_lit1_2.l0])
  | succ k1 =>
   have H:=HA.out
   clear HA
   simp only[impl_Contact_impl_GoodPlan_lit1_2.l0] at H
   by_cases c3:x8_1 < (l0.length:Int)
   ·rw[if_pos c3] at H
    have c3b0:decide (x8_1 < (l0.length:Int))=true:=decide_eq_true c3
    clear c3
    by_cases c4:0≤x8_1
    ·rw[if_pos c4] at H
     have c4b0:decide (0≤x8_1)=true:=decide_eq_true c4
     clear c4
     by_cases c5:x8_1 < (l0.length:Int)
     ·rw[if_pos c5] at H
      have c5b0:decide (x8_1 < (l0.length:Int))=true:=decide_eq_true c5
      clear c5
      replace H:=Option.bind_eq_some_iff.mp H
      obtain⟨t226,A60,H⟩:=H
      have A6:=Aside0.mk A60
      clear A60
      by_cases c7:t226=true
      ·subst c7
       have H1:(some x8_1)=some r:=by rw[if_pos rfl] at H;exact H
       clear H
       have H:=H1
       clear H1
       obtain rfl:=Option.some.inj H
       have p225:0≤(x8_1:Int):=of_decide_eq_true (bD)
       have q225:x8_1 < (l0.length:Int):=of_decide_eq_true (bD)
       obtain⟨ad225,e225,hx225_0,hx225_1,hx225_2,hx225_3,hx225_4⟩:=at_T104 HR0.out x8_1 p225 q225
       cases e225
       replace hx225_0:=(HB.out.cell (World.block_lt_of_cell? w _ hx225_0)).trans hx225_0
       replace hx225_1:=(HB.out.cell (World.block_lt_of_cell? w _ hx225_1)).trans hx225_1
       replace hx225_2:=(HB.out.cell (World.block_lt_of_cell? w _ hx225_2)).trans hx225_2
       replace hx225_3:=(HB.out.cell (World.block_lt_of_cell? w _ hx225_3)).trans hx225_3
       replace hx225_4:=(HB.out.cell (World.block_lt_of_cell? w _ hx225_4)).trans hx225_4
       replace p225:=eq_true p225
       replace q225:=eq_true q225
       go_wp2_with (first|(go_at_call 145;(with_reducible refine(impl_GoodPlan_lit1.calls ((rd_T104 l0 x8_1).f0) ((rd_T104 l0 x8_1).f1) ((rd_T104 l0 x8_1).f2) ((rd_T104 l0 x8_1).f3) ((rd_T104 l0 x8_1).f4) true _ A6.out).mono ?_);rintro e w8 ⟨rfl,hb⟩;have n0_:=Aside0.mk (below_step (bB) hb);clear HB;have HB:=n0_;clear n0_;(try clear hb);(try clear hb2);(try clear hk);(try clear hi)))
       go_ret
       exact⟨bE,bB⟩
      ·replace c7:=Bool.eq_false_iff.mpr c7
       subst c7
       have H1:(impl_Contact_impl_GoodPlan_lit1_2.l0 k1 l0 (l0.length:Int) (wrap64 (x8_1+1)))=some r:=by rw[if_neg (show ¬ (false=true) by decide)] at H;exact H
       clear H
       have H:=H1
       clear H1
       have H':=Aside0.mk H
       clear H
       have p225:0≤(x8_1:Int):=of_decide_eq_true (bD)
       have q225:x8_1 < (l0.length:Int):=of_decide_eq_true (bD)
       obtain⟨ad225,e225,hx225_0,hx225_1,hx225_2,hx225_3,hx225_4⟩:=at_T104 HR0.out x8_1 p225 q225
       cases e225
       replace hx225_0:=(HB.out.cell (World.block_lt_of_cell? w _ hx225_0)).trans hx225_0
       replace hx225_1:=(HB.out.cell (World.block_lt_of_cell? w _ hx225_1)).trans hx225_1
       replace hx225_2:=(HB.out.cell (World.block_lt_of_cell? w _ hx225_2)).trans hx225_2
       replace hx225_3:=(HB.out.cell (World.block_lt_of_cell? w _ hx225_3)).trans hx225_3
       replace hx225_4:=(HB.out.cell (World.block_lt_of_cell? w _ hx225_4)).trans hx225_4
       replace p225:=eq_true p225
       replace q225:=eq_true q225
       go_wp2_with (first|(go_at_call 145;(with_reducible refine(impl_GoodPlan_lit1.calls ((rd_T104 l0 x8_1).f0) ((rd_T104 l0 x8_1).f1) ((rd_T104 l0 x8_1).f2) ((rd_T104 l0 x8_1).f3) ((rd_T104 l0 x8_1).f4) false _ A6.out).mono ?_);rintro e w9 ⟨rfl,hb⟩;have n0_:=Aside0.mk (below_step (bB) hb);clear HB;have HB:=n0_;clear n0_;(try clear hb);(try clear hb2);(try clear hk);(try clear hi)))
       go_roundg k1
       case measure=>have:=HK1.out;omega
       case rel=>exact⟨(wrap64 (x8_1+1)),(bR),H',⟨by have:=HK1.out;omega⟩,⟨by repeat (first|(with_reducible first|exact HB.out|apply below_alloc|apply pw_below_drewN|apply below_drew1)|exact HB.out)⟩⟩
     ·rw[if_neg c5] at H
      exact absurd H (by simp)
    ·rw[if_neg c4] at H
     exact absurd H (by simp)
   ·rw[if_neg c3] at H
    have c3b0:decide (x8_1 < (l0.length:Int))=false:=decide_eq_false c3
    clear c3
    obtain rfl:=Option.some.inj H
    go_wp2
    go_ret
    exact⟨bE,bB⟩

/-! ### impl_Contact_impl_GoodPlan_lit1: function 144 -/
def impl_Contact_impl_GoodPlan_lit1.f (k:Nat) (l0:List (S104))  : Option (Bool):=(impl_Contact_impl_GoodPlan_lit1_2.f k l0).bind fun t227=>(some (decide (t227 ≥ 0)))
theorem impl_Contact_impl_GoodPlan_lit1.mono : ∀ a0 k,LeO (impl_Contact_impl_GoodPlan_lit1.f k a0) (impl_Contact_impl_GoodPlan_lit1.f (k+1) a0):=by
 intro a0 k
 unfold impl_Contact_impl_GoodPlan_lit1.f
 repeat' first
  | (with_reducible exact impl_Contact_impl_GoodPlan_lit1_2.mono _ _)
  | (with_reducible exact LeO.refl _)
  | (with_reducible exact LeO.none _)
  | (with_reducible refine LeO.ite ?_ ?_)
  | (with_reducible refine LeO.bind ?_ (fun _ => ?_))
  | exact impl_Contact_impl_GoodPlan_lit1_2.mono _ _
  | exact LeO.none _
  | refine LeO.ite ?_ ?_
  | refine LeO.bind ?_ (fun _ => ?_)
set_option maxHeartbeats 8000000 in
set_option maxRecDepth 100000 in
theorem impl_Contact_impl_GoodPlan_lit1.calls (k:Nat) (A0:Option Addr) (c0:Nat) (l0:List (S104))  (r:Bool) (w:World) (hr0:Kd.C k104 w A0 l0.length l0) (hc0:l0.length≤c0) (h:impl_Contact_impl_GoodPlan_lit1.f k l0=some r) :
  Calls Try.prog 144 #[.slice A0 l0.length c0,(.func (.func 145) #[] #[])] w fun e w'=>e=.returned (.bool r)∧Below w.heap.size w w':=by
 have HR0:=Aside0.mk hr0
 have HC0:=Aside0.mk hc0
 clear hr0 hc0
 have HB:=Aside0.mk (Below.refl w.heap.size w)
 have H:((impl_Contact_impl_GoodPlan_lit1_2.f k l0).bind fun t227=>(some (decide (t227 ≥ 0))))=some r:=h
 clear h
 replace H:=Option.bind_eq_some_iff.mp H
 obtain⟨t227,A30,H⟩:=H
 have A3:=Aside0.mk A30
 clear A30
 obtain rfl:=Option.some.inj H
 go_enter Try.func144,Try.ntmps144
 go_wp2_with (first|((with_reducible refine gate_callee (f:=169) rfl ?_);refine goesA (some 7) rfl rfl Try.func169 #[.slice A0 l0.length c0,(.func (.func 145) #[] #[])] rfl ?_;(with_reducible refine(impl_Contact_impl_GoodPlan_lit1_2.calls k _ _ l0  t227 _ ?side1 ?side2 A3.out).mono ?_);(case side1=>repeat (first|exact HR0.out|(with_reducible refine Kd.C_alloc ?_ _)|(with_reducible refine Kd.C_drewN ?_ _)|(with_reducible refine Kd.C_drew ?_)));(case side2=>exact HC0.out);rintro e w4 ⟨rfl,hb⟩;refine⟨_,rfl,?_⟩;have n0_:=Aside0.mk (below_step (bB) hb);clear HB;have HB:=n0_;clear n0_;(try clear hb);(try clear hb2);(try clear hk);(try clear hi)))
 go_ret
 exact⟨bE,bB⟩

/-! ### impl_GoodPlan: function 88 -/
def impl_GoodPlan.f (k:Nat) (l0:List (S104)):Option (Bool):=if (l0.length:Int)≤20 then ((impl_Contact_impl_GoodPlan_lit1.f k l0).bind fun t228=>(some (!t228))) else (some false)
theorem impl_GoodPlan.mono : ∀ a0 k,LeO (impl_GoodPlan.f k a0) (impl_GoodPlan.f (k+1) a0):=by
 intro a0 k
 unfold impl_GoodPlan.f
 repeat' first
  | (with_reducible exact impl_Contact_impl_GoodPlan_lit1.mono _ _)
  | (with_reducible exact LeO.refl _)
  | (with_reducible exact LeO.none _)
  | (with_reducible refine LeO.ite ?_ ?_)
  | (with_reducible refine LeO.bind ?_ (fun _ => ?_))
  | exact impl_Contact_impl_GoodPlan_lit1.mono _ _
  | exact LeO.none _
  | refine LeO.ite ?_ ?_
  | refine LeO.bind ?_ (fun _ => ?_)
set_option maxHeartbeats 8000000 in
set_option maxRecDepth 100000 in
theorem impl_GoodPlan.calls (k:Nat) (A0:Option Addr) (c0:Nat) (l0:List (S104)) (r:Bool) (w:World) (hr0:Kd.C k104 w A0 l0.length l0) (hc0:l0.length≤c0) (h:impl_GoodPlan.f k l0=some r) :
  Calls Try.prog 88 #[.slice A0 l0.length c0] w fun e w'=>e=.returned (.bool r)∧Below w.heap.size w w':=by
 have HR0:=Aside0.mk hr0
 have HC0:=Aside0.mk hc0
 clear hr0 hc0
 have HB:=Aside0.mk (Below.refl w.heap.size w)
 have H:(if (l0.length:Int)≤20 then ((impl_Contact_impl_GoodPlan_lit1.f k l0).bind fun t228=>(some (!t228))) else (some false))=some r:=h
 clear h
 by_cases c2:(l0.length:Int)≤20
 ·rw[if_pos c2] at H
  have c2b0:decide ((l0.length:Int)≤20)=true:=decide_eq_true c2
  have c2b1:decide (l0.length≤20)=true:=decide_eq_true (by omega)
  clear c2
  replace H:=Option.bind_eq_some_iff.mp H
  obtain⟨t228,A30,H⟩:=H
  have A3:=Aside0.mk A30
  clear A30
  obtain rfl:=Option.some.inj H
  go_enter Try.func88,Try.ntmps88
  go_wp2_with (first|(go_at_call 144;(with_reducible refine(impl_Contact_impl_GoodPlan_lit1.calls k _ _ l0  t228 _ ?side1 ?side2 A3.out).mono ?_);(case side1=>repeat (first|exact HR0.out|(with_reducible refine Kd.C_alloc ?_ _)|(with_reducible refine Kd.C_drewN ?_ _)|(with_reducible refine Kd.C_drew ?_)));(case side2=>exact HC0.out);rintro e w4 ⟨rfl,hb⟩;have n0_:=Aside0.mk (below_step (bB) hb);clear HB;have HB:=n0_;clear n0_;(try clear hb);(try clear hb2);(try clear hk);(try clear hi)))
  go_ret
  exact⟨bE,bB⟩
 ·rw[if_neg c2] at H
  have c2b0:decide ((l0.length:Int)≤20)=false:=decide_eq_false c2
  have c2b1:decide (l0.length≤20)=false:=decide_eq_false (by omega)
  clear c2
  obtain rfl:=Option.some.inj H
  go_enter Try.func88,Try.ntmps88
  go_wp2
  go_ret
  exact⟨bE,bB⟩

/-! ### impl_isWhen: function 90 -/
def impl_isWhen.f (a0:Int):Option (Bool):=(impl_within.f a0 0 1000).bind fun t229=>(some t229)
set_option maxHeartbeats 8000000 in
set_option maxRecDepth 100000 in
theorem impl_isWhen.calls (a0:Int) (r:Bool) (w:World) (h:impl_isWhen.f a0=some r) :
  Calls Try.prog 90 #[.int .i64 a0] w fun e w'=>e=.returned (.bool r)∧Drawn0 w w':=by
 have H:((impl_within.f a0 0 1000).bind fun t229=>(some t229))=some r:=h
 clear h
 replace H:=Option.bind_eq_some_iff.mp H
 obtain⟨t229,A20,H⟩:=H
 have A2:=Aside0.mk A20
 clear A20
 obtain rfl:=Option.some.inj H
 go_enter Try.func90,Try.ntmps90
 go_wp2_with (first|((with_reducible refine gate_callee (f:=79) rfl ?_);refine goesA (some 4) rfl rfl Try.func79 #[.int .i64 a0,.int .i64 0,.int .i64 1000] rfl ?_;(with_reducible refine(impl_within.calls a0 0 1000 t229 _ A2.out).mono ?_);rintro e w' ⟨rfl,⟨nd,rfl⟩⟩;refine⟨_,rfl,?_⟩))
 go_ret
 exact⟨bR,bW⟩

/-! ### impl_Contact_by: function 122 -/
def impl_Contact_by.f (a0_0:Int) (a0_1:Int) (a0_2:Int) (a0_3:Int) (a0_4:Int) (a1:Int):Option (Int × Bool):=some (wrap64 ((mx a1 a0_2)+a0_4),decide ((mx a1 a0_2) < a0_3))
set_option maxHeartbeats 8000000 in
set_option maxRecDepth 100000 in
theorem impl_Contact_by.calls (a0_0:Int) (a0_1:Int) (a0_2:Int) (a0_3:Int) (a0_4:Int) (a1:Int) (r1:Int) (r2:Bool) (w:World) (h:impl_Contact_by.f a0_0 a0_1 a0_2 a0_3 a0_4 a1=some (r1,r2)) :
  Calls Try.prog 122 #[.agg #[.int .i64 a0_0,.int .i64 a0_1,.int .i64 a0_2,.int .i64 a0_3,.int .i64 a0_4],.int .i64 a1] w fun e w'=>e=.returned (.tuple #[.int .i64 r1,.bool r2])∧Below w.heap.size w w':=by
 have hu104:=Try.underlying104
 have HB:=Aside0.mk (Below.refl w.heap.size w)
 have H:(some (wrap64 ((mx a1 a0_2)+a0_4),decide ((mx a1 a0_2) < a0_3)))=some (r1,r2):=h
 clear h
 obtain⟨ji3,hji3⟩ : ∃ j_:Int,(mx a1 a0_2)=j_:=⟨_,rfl⟩
 replace H:(some (wrap64 ((ji3)+a0_4),decide ((ji3) < a0_3)))=some (r1,r2):=by first|(rw[hji3] at H;exact H)|(simp only[hji3] at H ⊢;exact H)
 have hji3_:(if a1 < a0_2 then a0_2 else a1)=ji3:=hji3
 simp only[Option.some.injEq,Prod.mk.injEq] at H
 obtain⟨rfl,rfl⟩:=H
 go_enter Try.func122,Try.ntmps122
 go_wp2_with (first|((with_reducible refine gate_dst (N:=2) rfl ?_);refine box_event ?hg (N:=2) ?hd (cs:=#[.int .i64 a0_0,.int .i64 a0_1,.int .i64 a0_2,.int .i64 a0_3,.int .i64 a0_4]) (t:=104) ?hr ?_;(case hd=>rfl);(case hg=>rfl);(case hr=>first|(go_simp;done)|(go_simp;rfl));intro gb230 hg w4 hbox hb;have n0_:=Aside0.mk (below_step (bB) hb);have n1_:=Aside0.mk (hbox);have n2_:=Aside0.mk ((bG:w.heap.size≤gb230));have n3_:=Aside0.mk ((bG:w.heap.size≤gb230));clear HB;have HB:=n0_;have BK230:=n1_;have GW230:=n2_;have GE230:=n3_;clear n0_ n1_ n2_ n3_;clear hb hbox hg;obtain⟨hcz5_0,hcz5_1,hcz5_2,hcz5_3,hcz5_4⟩:=cC5 BK230.out;obtain⟨hfz5_0,hfz5_1,hfz5_2,hfz5_3,hfz5_4⟩:=cF5 BK230.out))
 repeat (go_quiet (first|((with_reducible refine gate_dst (N:=2) rfl ?_);refine box_event ?hg (N:=2) ?hd (cs:=#[.int .i64 a0_0,.int .i64 a0_1,.int .i64 a0_2,.int .i64 a0_3,.int .i64 a0_4]) (t:=104) ?hr ?_;(case hd=>rfl);(case hg=>rfl);(case hr=>first|(go_simp;done)|(go_simp;rfl));intro gb230 hg w4 hbox hb;have n0_:=Aside0.mk (below_step (bB) hb);have n1_:=Aside0.mk (hbox);have n2_:=Aside0.mk ((bG:w.heap.size≤gb230));have n3_:=Aside0.mk ((bG:w.heap.size≤gb230));clear HB;have HB:=n0_;have BK230:=n1_;have GW230:=n2_;have GE230:=n3_;clear n0_ n1_ n2_ n3_;clear hb hbox hg;obtain⟨hcz5_0,hcz5_1,hcz5_2,hcz5_3,hcz5_4⟩:=cC5 BK230.out;obtain⟨hfz5_0,hfz5_1,hfz5_2,hfz5_3,hfz5_4⟩:=cF5 BK230.out));try go_wp2_with (first|((with_reducible refine gate_dst (N:=2) rfl ?_);refine box_event ?hg (N:=2) ?hd (cs:=#[.int .i64 a0_0,.int .i64 a0_1,.int .i64 a0_2,.int .i64 a0_3,.int .i64 a0_4]) (t:=104) ?hr ?_;(case hd=>rfl);(case hg=>rfl);(case hr=>first|(go_simp;done)|(go_simp;rfl));intro gb230 hg w4 hbox hb;have n0_:=Aside0.mk (below_step (bB) hb);have n1_:=Aside0.mk (hbox);have n2_:=Aside0.mk ((bG:w.heap.size≤gb230));have n3_:=Aside0.mk ((bG:w.heap.size≤gb230));clear HB;have HB:=n0_;have BK230:=n1_;have GW230:=n2_;have GE230:=n3_;clear n0_ n1_ n2_ n3_;clear hb hbox hg;obtain⟨hcz5_0,hcz5_1,hcz5_2,hcz5_3,hcz5_4⟩:=cC5 BK230.out;obtain⟨hfz5_0,hfz5_1,hfz5_2,hfz5_3,hfz5_4⟩:=cF5 BK230.out)))
 go_ret2
 exact⟨by first|rfl|(simp[errW_none,errW_some]<;>rfl)|(simp only[← hji3];first|rfl|(simp[errW_none,errW_some]<;>rfl))|(simp[*,errW_none,errW_some]<;>rfl),bS GE230.out⟩

/-! ### bits_Mul32: function 184 -/
def bits_Mul32.f (a0:Int) (a1:Int):Option (Int × Int):=some (((IntKind.u64.wrap ((IntKind.u64.wrap (a0)) * (IntKind.u64.wrap (a1)))) / 4294967296) % 4294967296,(IntKind.u64.wrap ((IntKind.u64.wrap (a0)) * (IntKind.u64.wrap (a1)))) % 4294967296)
set_option maxHeartbeats 8000000 in
set_option maxRecDepth 100000 in
theorem bits_Mul32.calls (a0:Int) (a1:Int) (r1:Int) (r2:Int) (w:World) (h:bits_Mul32.f a0 a1=some (r1,r2)) :
  Calls Try.prog 184 #[.int .u32 a0,.int .u32 a1] w fun e w'=>e=.returned (.tuple #[.int .u32 r1,.int .u32 r2])∧Drawn0 w w':=by
 have H:(some (((IntKind.u64.wrap ((IntKind.u64.wrap (a0)) * (IntKind.u64.wrap (a1)))) / 4294967296) % 4294967296,(IntKind.u64.wrap ((IntKind.u64.wrap (a0)) * (IntKind.u64.wrap (a1)))) % 4294967296))=some (r1,r2):=h
 clear h
 simp only[Option.some.injEq,Prod.mk.injEq] at H
 obtain⟨rfl,rfl⟩:=H
 go_enter Try.func184,Try.ntmps184
 go_wp2
 go_ret2
 exact⟨bR,bW⟩

/-! ### bits_Mul64: function 185 -/
def bits_Mul64.f (a0:Int) (a1:Int):Option (Int × Int):=some (IntKind.u64.wrap ((IntKind.u64.wrap ((IntKind.u64.wrap ((a0 / 4294967296) * (a1 / 4294967296)))+((IntKind.u64.wrap ((IntKind.u64.wrap ((a0 / 4294967296) * (Go.bits .and .u64 a1 4294967295)))+((IntKind.u64.wrap ((Go.bits .and .u64 a0 4294967295) * (Go.bits .and .u64 a1 4294967295))) / 4294967296))) / 4294967296)))+((IntKind.u64.wrap ((Go.bits .and .u64 (IntKind.u64.wrap ((IntKind.u64.wrap ((a0 / 4294967296) * (Go.bits .and .u64 a1 4294967295)))+((IntKind.u64.wrap ((Go.bits .and .u64 a0 4294967295) * (Go.bits .and .u64 a1 4294967295))) / 4294967296))) 4294967295)+(IntKind.u64.wrap ((Go.bits .and .u64 a0 4294967295) * (a1 / 4294967296))))) / 4294967296)),IntKind.u64.wrap (a0 * a1))
set_option maxHeartbeats 8000000 in
set_option maxRecDepth 100000 in
theorem bits_Mul64.calls (a0:Int) (a1:Int) (r1:Int) (r2:Int) (w:World) (h:bits_Mul64.f a0 a1=some (r1,r2)) :
  Calls Try.prog 185 #[.int .u64 a0,.int .u64 a1] w fun e w'=>e=.returned (.tuple #[.int .u64 r1,.int .u64 r2])∧Drawn0 w w':=by
 have H:(some (IntKind.u64.wrap ((IntKind.u64.wrap ((IntKind.u64.wrap ((a0 / 4294967296) * (a1 / 4294967296)))+((IntKind.u64.wrap ((IntKind.u64.wrap ((a0 / 4294967296) * (Go.bits .and .u64 a1 4294967295)))+((IntKind.u64.wrap ((Go.bits .and .u64 a0 4294967295) * (Go.bits .and .u64 a1 4294967295))) / 4294967296))) / 4294967296)))+((IntKind.u64.wrap ((Go.bits .and .u64 (IntKind.u64.wrap ((IntKind.u64.wrap ((a0 / 4294967296) * (Go.bits .and .u64 a1 4294967295)))+((IntKind.u64.wrap ((Go.bits .and .u64 a0 4294967295) * (Go.bits .and .u64 a1 4294967295))) / 4294967296))) 4294967295)+(IntKind.u64.wrap ((Go.bits .and .u64 a0 4294967295) * (a1 / 4294967296))))) / 4294967296)),IntKind.u64.wrap (a0 * a1)))=some (r1,r2):=h
 clear h
 simp only[Option.some.injEq,Prod.mk.injEq] at H
 obtain⟨rfl,rfl⟩:=H
 go_enter Try.func185,Try.ntmps185
 go_wp2
 go_ret2
 exact⟨bR,bW⟩

/-! ### bits_Mul: function 170 -/
def bits_Mul.f (a0:Int) (a1:Int):Option (Int × Int):=(bits_Mul64.f a0 a1).bind fun bt231=>(some (bt231.1,bt231.2))
set_option maxHeartbeats 8000000 in
set_option maxRecDepth 100000 in
theorem bits_Mul.calls (a0:Int) (a1:Int) (r1:Int) (r2:Int) (w:World) (h:bits_Mul.f a0 a1=some (r1,r2)) :
  Calls Try.prog 170 #[.int .u64 a0,.int .u64 a1] w fun e w'=>e=.returned (.tuple #[.int .u64 r1,.int .u64 r2])∧Drawn0 w w':=by
 have H:((bits_Mul64.f a0 a1).bind fun bt231=>(some (bt231.1,bt231.2)))=some (r1,r2):=h
 clear h
 replace H:=Option.bind_eq_some_iff.mp H
 obtain⟨⟨t231,t232⟩,A30,H⟩:=H
 replace H:(some (t231,t232))=some (r1,r2):=H
 have A3:=Aside0.mk A30
 clear A30
 simp only[Option.some.injEq,Prod.mk.injEq] at H
 obtain⟨rfl,rfl⟩:=H
 go_enter Try.func170,Try.ntmps170
 go_wp2_with (first|((with_reducible refine gate_callee (f:=185) rfl ?_);refine goesA (some 25) rfl rfl Try.func185 #[.int .u64 a0,.int .u64 a1] rfl ?_;(with_reducible refine(bits_Mul64.calls a0 a1 t231 t232 _ A3.out).mono ?_);rintro e w' ⟨rfl,⟨nd,rfl⟩⟩;refine⟨_,rfl,?_⟩))
 go_ret2
 exact⟨bR,bW⟩

/-! ### slices_Repeat_int_int: function 147, by hand -/
theorem mul_small (a b:Int) (ha:0≤a) (ha1:a≤1000000) (hb:0≤b) (hb1:b≤1000000):bits_Mul.f a b=some (0,a * b):=by
 have hp:a * b≤1000000 * 1000000:=Int.mul_le_mul ha1 hb1 hb (by decide)
 have hp0:0≤a * b:=Int.mul_nonneg ha hb
 have wz : ∀ x:Int,0≤x→x≤1000000000000→IntKind.u64.wrap x=x:=fun x h0 h1=>by simp[IntKind.wrap,IntKind.bits,IntKind.signed];omega
 have mk : ∀ x:Int,0≤x→x < 4294967296→Go.bits .and .u64 x 4294967295=x:=fun x h0 h1=>by
  have:=bits_mask .u64 64 (by decide) (fun n a b=>by simp[IntKind.wrap,IntKind.bits,IntKind.signed];omega) 32 (by decide) x h0 (by omega)
  rw[show(4294967295:Int)=2 ^ 32 - 1 from rfl,this]
  omega
 unfold bits_Mul.f bits_Mul64.f
 rw[mk a ha (by omega),mk b hb (by omega),show a / 4294967296=0 by omega,show b / 4294967296=0 by omega]
 simp only[Int.zero_mul,Int.mul_zero,Option.bind_some]
 rw[wz (a * b) hp0 hp,wz 0 (by omega) (by omega)]
 simp only[Int.zero_add,Int.add_zero]
 rw[wz (a * b / 4294967296) (by omega) (by omega),show a * b / 4294967296 / 4294967296=0 by omega,mk (a * b / 4294967296) (by omega) (by omega)]
 rw[wz (a * b / 4294967296) (by omega) (by omega),show a * b / 4294967296 / 4294967296=0 by omega,wz 0 (by omega) (by omega),show(0:Int)+0=0 from rfl,wz 0 (by omega) (by omega)]
/-- The row xs with zs put over it from the place o on. -/
def putR:List Int→Nat→List Int→List Int
 | xs,_,[]=>xs
 | xs,o,z::zs=>putR (xs.set o z) (o+1) zs
theorem putR_length (zs:List Int) : ∀ (xs:List Int) (o:Nat),(putR xs o zs).length=xs.length:=by
 induction zs with
 | nil=>intro xs o;rfl
 | cons z zs ih=>intro xs o;simp only[putR];rw[ih,List.length_set]
theorem putR_at (zs:List Int) : ∀ (xs:List Int) (o j:Nat),j < xs.length→(putR xs o zs).getD j 0=if o≤j∧j < o+zs.length then zs.getD (j - o) 0 else xs.getD j 0:=by
 induction zs with
 | nil=>intro xs o j hj;simp only[putR,List.length_nil];rw[if_neg (by omega)]
 | cons z zs ih =>
  intro xs o j hj
  simp only[putR,List.length_cons]
  rw[ih _ _ _ (by rw[List.length_set];exact hj)]
  by_cases c1:j=o
  ·subst c1
   rw[if_neg (by omega),if_pos (by omega)]
   simp[List.getD_eq_getElem?_getD,hj]
  ·by_cases c2:o+1≤j∧j < o+1+zs.length
   ·rw[if_pos c2,if_pos (by omega),show j - o=(j - (o+1))+1 by omega]
    rfl
   ·rw[if_neg c2,if_neg (by omega)]
    simp[List.getD_eq_getElem?_getD,List.getElem?_set,Ne.symm c1]
theorem setCellsR_ {e base:Nat} {ok:Nat→Prop} {g n cap:Nat} (zs:List Int) : ∀ (o:Nat) (W:World) (xs:List Int),(Kd.int .i64).R e W base ok (.slice (some ⟨g,0,none⟩) n cap) xs →
  (Kd.int .i64).R e (W.setCells g o (zs.map (Value.int .i64))) base ok (.slice (some ⟨g,0,none⟩) n cap) (putR xs o zs)∧W.grownBy (W.setCells g o (zs.map (Value.int .i64))) (some g):=by
 induction zs with
 | nil=>intro o W xs h;exact⟨h,World.grownBy.refl _ _⟩
 | cons z zs ih =>
  intro o W xs h
  have h1:=Kd.R_putg h (o:Int) z
  obtain⟨h2,h3⟩:=ih (o+1) _ _ h1.1
  exact⟨h2,h1.2.trans h3⟩
/-- What copy leaves: in a row of one's own, from the place o on, out of cells that are read. -/
theorem copy_R {base:Nat} {ok:Nat→Prop} {g n cap dLen dCap sLen sCap o:Nat} {W:World} {xs zs:List Int} {a:Addr} (h:(Kd.int .i64).R 3 W base ok (.slice (some ⟨g,0,none⟩) n cap) xs) (ty:TypeId) (hz:zs.length=Nat.min sLen dLen) (ho:o+zs.length≤n)
  (hs : ∀ j:Nat,j < zs.length→W.cell? (a.add j)=some (.int .i64 (zs.getD j 0))) :
  (Builtin.copy_ #[37,37] ty #[.slice (some ⟨g,o,none⟩) dLen dCap,.slice (some a) sLen sCap]).run Try.prog W=.ok (goInt (zs.map (Value.int .i64)).length) (W.setCells g o (zs.map (Value.int .i64))):=by
 refine run_copy_cells W 37 37 ty 3 g o dLen dCap a sLen sCap (zs.map (Value.int .i64)) Try.underlying37 (by kernel_rfl) (by simpa using hz) ?_ ?_ ?_ ?_
 ·intro j v hj
  have hjl:j < zs.length:=by
   rcases Nat.lt_or_ge j zs.length with h'|h'
   ·exact h'
   ·rw[List.getElem?_eq_none (by simpa using h')] at hj;cases hj
  rw[hs j hjl]
  rw[List.getElem?_map,List.getElem?_eq_getElem hjl] at hj
  simp only[Option.map_some,Option.some.injEq] at hj
  rw[← hj,List.getD_eq_getElem?_getD,List.getElem?_eq_getElem hjl]
  rfl
 ·intro j hj
  have:=(Kd.R_celln 0 h ((o+j:Nat):Int) (by omega) (by simp at hj;omega)).1
  rw[show(((o+j:Nat):Int)).toNat=o+j from rfl] at this
  rw[this]
  rfl
 ·intro j hj
  have:=(Kd.R_celln 0 h ((o+j:Nat):Int) (by omega) (by simp at hj;omega)).2
  rw[show(((o+j:Nat):Int)).toNat=o+j from rfl] at this
  exact this
 ·intro v hv
  obtain⟨x,_,rfl⟩:=List.mem_map.mp hv
  rfl
theorem copy_step {base o:Nat} {g n cap dLen dCap sLen sCap:Nat} {W w0:World} {xs zs:List Int} {a:Addr} (HB:Below base w0 W) (h:(Kd.int .i64).R 3 W base (fun _=>True) (.slice (some ⟨g,0,none⟩) n cap) xs) (hgb:base≤g) (hgs:base≤W.heap.size) (ty:TypeId) (hz:zs.length=Nat.min sLen dLen) (ho:o+zs.length≤n)
  (hs : ∀ j:Nat,j < zs.length→W.cell? (a.add j)=some (.int .i64 (zs.getD j 0))) :
  ∃ W',(Builtin.copy_ #[37,37] ty #[.slice (some ⟨g,o,none⟩) dLen dCap,.slice (some a) sLen sCap]).run Try.prog W=.ok (.int .i64 (zs.length:Int)) W'∧(Kd.int .i64).R 3 W' base (fun _=>True) (.slice (some ⟨g,0,none⟩) n cap) (putR xs o zs)∧Below base w0 W':=by
 have h1:=setCellsR_ zs o W xs h
 refine⟨_,?_,h1.1,HB.grown h1.2 hgs (fun k e=>by cases e;exact hgb)⟩
 have:=copy_R (dLen:=dLen) (dCap:=dCap) (sLen:=sLen) (sCap:=sCap) (o:=o) (a:=a) h ty hz ho hs
 rw[List.length_map] at this
 exact this
/-- What stands in the row when n of its places are filled: x's elements, again and again. -/
def Filled (l:List Int) (p:Nat) (y:List Int) (n:Nat):Prop:=y.length=p∧n≤p∧(∀ j:Nat,j < n→y.getD j 0=l.getD (j % l.length) 0)∧(l.length ∣ n∨n=p)∧(0 < p→0 < n∧0 < l.length)
theorem filled_step {l y:List Int} {p n:Nat} (h:Filled l p y n) (hn:n < p):Filled l p (putR y n (y.take (Nat.min n (p - n)))) (n+Nat.min n (p - n)):=by
 obtain⟨h1,h2,h3,h4,h5⟩:=h
 obtain⟨h6,h7⟩:=h5 (by omega)
 have hm:Nat.min n (p - n)≤n∧Nat.min n (p - n)≤p - n:=⟨Nat.min_le_left _ _,Nat.min_le_right _ _⟩
 have hlen:(y.take (Nat.min n (p - n))).length=Nat.min n (p - n):=by rw[List.length_take];omega
 have hd:l.length ∣ n:=by
  rcases h4 with h4|h4
  ·exact h4
  ·omega
 refine⟨by rw[putR_length,h1],by omega,fun j hj => ?_,?_,fun _=>⟨by omega,h7⟩⟩
 ·rw[putR_at _ _ _ _ (by omega),hlen]
  by_cases c:n≤j∧j < n+Nat.min n (p - n)
  ·rw[if_pos c]
   have e1:(y.take (Nat.min n (p - n))).getD (j - n) 0=y.getD (j - n) 0:=by
    rw[List.getD_eq_getElem?_getD,List.getElem?_take_of_lt (by omega),List.getD_eq_getElem?_getD]
   rw[e1,h3 (j - n) (by omega)]
   congr 1
   obtain⟨q,rfl⟩:=hd
   rw[show j=(j - l.length * q)+l.length * q by omega,Nat.add_mul_mod_self_left]
   congr 1
   omega
  ·rw[if_neg c]
   exact h3 j (by omega)
 ·rcases Nat.lt_or_ge (p - n) n with c|c
  ·exact Or.inr (by rw[show Nat.min n (p - n)=p - n from Nat.min_eq_right (by omega)];omega)
  ·refine Or.inl ?_
   rw[show Nat.min n (p - n)=n from Nat.min_eq_left c]
   exact Nat.dvd_add hd hd
theorem flatten_at (l:List Int) : ∀ (m j:Nat),j < l.length * m→((List.replicate m l).flatten).getD j 0=l.getD (j % l.length) 0:=by
 intro m
 induction m with
 | zero=>intro j hj;omega
 | succ m ih =>
  intro j hj
  rw[List.replicate_succ,List.flatten_cons,List.getD_eq_getElem?_getD]
  by_cases c:j < l.length
  ·rw[List.getElem?_append_left c,Nat.mod_eq_of_lt c,List.getD_eq_getElem?_getD]
  ·rw[List.getElem?_append_right (by omega),← List.getD_eq_getElem?_getD,ih (j - l.length) (by rw[Nat.mul_succ] at hj;omega)]
   congr 1
   rw[← Nat.mod_eq_sub_mod (by omega)]
theorem filled_all {l y:List Int} {m:Nat} (h:Filled l (l.length * m) y (l.length * m)):y=(List.replicate m l).flatten:=by
 obtain⟨h1,_,h3,_,_⟩:=h
 apply List.ext_getElem?
 intro j
 have hl:((List.replicate m l).flatten).length=l.length * m:=by simp[Nat.mul_comm]
 rcases Nat.lt_or_ge j (l.length * m) with c|c
 ·have e:=(h3 j c).trans (flatten_at l m j c).symm
  rw[List.getD_eq_getElem?_getD,List.getD_eq_getElem?_getD,List.getElem?_eq_getElem (by omega),List.getElem?_eq_getElem (by omega)] at e
  rw[List.getElem?_eq_getElem (by omega),List.getElem?_eq_getElem (by omega)]
  exact congrArg some e
 ·rw[List.getElem?_eq_none (by omega),List.getElem?_eq_none (by omega)]
/-- The first copy: x itself, or nothing. -/
theorem copy_first {base:Nat} {W w0:World} {l:List Int} {A0:Option Addr} {c0 m:Nat} {v:Value} (HB:Below base w0 W) (h:(Kd.int .i64).R 3 W base (fun _=>True) v (List.replicate (l.length * m) 0)) (hgs:base≤W.heap.size) (hr:Kd.C (Kd.int .i64) W A0 l.length l) :
  ∃ W' y n,(Builtin.copy_ #[37,37] 3 #[v,.slice A0 l.length c0]).run Try.prog W=.ok (.int .i64 ((n:Nat):Int)) W'∧(Kd.int .i64).R 3 W' base (fun _=>True) v y∧Below base w0 W'∧Filled l (l.length * m) y n:=by
 rcases Nat.eq_zero_or_pos (l.length * m) with hp|hp
 ·refine⟨W,List.replicate (l.length * m) 0,0,?_,h,HB,?_⟩
  ·obtain⟨h0,inner,ho,hr'⟩:=h
   rcases ho.2 with ⟨rfl,_⟩|⟨g,cap,cur,rfl,_⟩
   ·exact run_copy_none W 37 37 3 3 none A0 0 0 l.length c0 Try.underlying37 (by kernel_rfl) (Nat.min_eq_right (Nat.zero_le _))
   ·exact run_copy_none W 37 37 3 3 _ A0 _ cap l.length c0 Try.underlying37 (by kernel_rfl) (by rw[List.length_replicate,hp];exact Nat.min_eq_right (Nat.zero_le _))
  ·rw[hp]
   exact⟨rfl,by omega,fun j hj=>by omega,Or.inr rfl,fun h=>by omega⟩
 ·obtain⟨g,cap,rfl,hg,hgw,_⟩:=Kd.R_form h (by simpa using hp)
  have hl:0 < l.length:=Nat.pos_of_mul_pos_right hp
  have hlm:l.length≤l.length * m:=Nat.le_mul_of_pos_right _ (Nat.pos_of_mul_pos_left hp)
  obtain⟨a,rfl,_⟩:=Kd.at_int hr 0 (by omega) (by omega)
  rw[List.length_replicate] at *
  obtain⟨W',e,hR,hB⟩:=copy_step (o:=0) (dLen:=l.length * m) (dCap:=cap) (sLen:=l.length) (sCap:=c0) (zs:=l) (a:=a) HB h hg hgs 3 (Nat.min_eq_left hlm).symm (by omega) (fun j hj=>by
   obtain⟨ad,ea,hc⟩:=Kd.at_int hr (j:Int) (by omega) (by omega)
   cases ea
   exact hc)
  refine⟨W',_,l.length,e,hR,hB,?_⟩
  refine⟨by rw[putR_length,List.length_replicate],hlm,fun j hj => ?_,Or.inl (Nat.dvd_refl _),fun _=>⟨hl,hl⟩⟩
  rw[putR_at _ _ _ _ (by rw[List.length_replicate];omega),if_pos (by omega),Nat.mod_eq_of_lt hj]
  rfl
def slices_Repeat_int_int.f (l0:List Int) (a1:Int):Option (List Int):=if 0≤a1∧a1≤1000000 then (if l0.length≤1000000 then some ((List.replicate a1.toNat l0).flatten) else none) else none
set_option maxHeartbeats 8000000 in
set_option maxRecDepth 100000 in
theorem slices_Repeat_int_int.calls (A0:Option Addr) (c0:Nat) (l0:List Int) (a1:Int) (r:List Int) (w:World) (hr0:Kd.C (Kd.int .i64) w A0 l0.length l0) (hc0:l0.length≤c0) (h:slices_Repeat_int_int.f l0 a1=some r) :
  Calls Try.prog 147 #[.slice A0 l0.length c0,.int .i64 a1] w fun e w' => ∃ v0_:Value,e=.returned (v0_)∧Kd.R (Kd.int .i64) 3 w' w.heap.size (fun _=>True) v0_ r∧Below w.heap.size w w':=by
 unfold slices_Repeat_int_int.f at h
 by_cases c1:0≤a1∧a1≤1000000
 case neg=>rw[if_neg c1] at h;cases h
 by_cases c2:l0.length≤1000000
 case neg=>rw[if_pos c1,if_neg c2] at h;cases h
 rw[if_pos c1,if_pos c2] at h
 obtain rfl:=Option.some.inj h
 clear h
 have hmul:=mul_small (l0.length:Int) a1 (by omega) (by omega) c1.1 c1.2
 obtain⟨p,hp⟩ : ∃ p:Nat,(l0.length:Int) * a1=p:=⟨((l0.length:Int) * a1).toNat,by have:=Int.mul_nonneg (show(0:Int)≤l0.length by omega) c1.1;omega⟩
 have hp1:p≤1000000000000:=by
  have:(l0.length:Int) * a1≤1000000 * 1000000:=Int.mul_le_mul (by omega) c1.2 c1.1 (by decide)
  omega
 rw[hp] at hmul
 obtain⟨m,hm⟩ : ∃ m:Nat,a1=m:=⟨a1.toNat,by omega⟩
 have hpm:p=l0.length * m:=by
  rw[hm] at hp
  exact_mod_cast hp.symm
 have HPM:=Aside0.mk hpm
 have HMM:=Aside0.mk hm
 clear hpm hm
 have HM:=Aside0.mk hmul
 have HR0:=Aside0.mk hr0
 have HP:=Aside0.mk hp
 have HP1:=Aside0.mk hp1
 have HC1:=Aside0.mk c1
 have HC2:=Aside0.mk c2
 have hu1:IntKind.u64.wrap (l0.length:Int)=(l0.length:Int):=by simp[IntKind.wrap,IntKind.bits,IntKind.signed];omega
 have hu2:IntKind.u64.wrap a1=a1:=by simp[IntKind.wrap,IntKind.bits,IntKind.signed];omega
 have hw64:wrap64 (p:Int)=(p:Int):=by unfold wrap64;omega
 have hd1:decide (a1 < 0)=false:=decide_eq_false (by omega)
 have hd2:decide ((9223372036854775807:Int) < (p:Int))=false:=decide_eq_false (by omega)
 clear hmul hr0 hp hp1 c1 c2
 have HB:=Aside0.mk (Below.refl w.heap.size w)
 go_enter Try.func147,Try.ntmps147
 go_wp2_with (first|((with_reducible refine gate_callee (f:=170) rfl ?_);refine goesA (some 18) rfl rfl Try.func170 #[.int .u64 (l0.length:Int),.int .u64 a1] (by simp only[hu1,hu2];rfl) ?_;refine(bits_Mul.calls _ _ _ _ _ HM.out).mono ?_;rintro e w' ⟨rfl,⟨nd,rfl⟩⟩;refine⟨_,rfl,?_⟩)|((with_reducible refine gate_dst (N:=30) rfl ?_);refine Kd.R_make (Kd.int .i64) _ 3 rfl (N:=30) rfl 37 _ _ rfl (wrap64 (p:Int)) rfl rfl Try.underlying37 (.int .i64 0) 8 info3 rfl (by decide) (by omega) 0 (ok:=fun _=>True) (okp:=fun _=>True) rfl (fun _ hk=>hk) trivial (by rw[hw64];omega) (by rw[hw64];have:=HP1.out;rw[Int.toNat_natCast];omega) (Below.refl _ _) (Nat.le_refl _) ?_;intro v7 w4 ho5 hb hg_ hnew_;clear hg_ hnew_;rw[hw64,Int.toNat_natCast] at ho5;have n0_:=Aside0.mk (Kd.R_lower ho5 (below_size (bB)));have n1_:=Aside0.mk (below_step (bB) hb);clear HB;have HO:=n0_;have HB:=n1_;clear n0_ n1_;clear hb ho5))
 have hcp:=copy_first (c0:=c0) (m:=m) HB.out (by rw[← HPM.out];exact HO.out) (below_size HB.out) (Kd.C_below HR0.out HB.out)
 obtain⟨w5,y5,n5,hrun,hR5,hB5,hF5⟩:=hcp
 rw[hrun]
 rw[← HPM.out] at hF5
 obtain⟨A7,c7,e7⟩:=Kd.R_slice hR5
 rw[hF5.1] at e7
 subst e7
 have HO5:=Aside0.mk hR5
 have HB5:=Aside0.mk hB5
 have HF5:=Aside0.mk hF5
 clear hrun hR5 hB5 hF5 HO HB
 go_wp2
 go_loopg [8] p (fun kq v8 w' => ∃ (y:List Int) (n:Nat),v8=.int .i64 (n:Int)∧Aside0 (Filled l0 p y n)∧Aside0 (p - n≤kq)∧Aside0 ((Kd.int .i64).R 3 w' w.heap.size (fun _=>True) (.slice A7 p c7) y)∧Aside0 (Below w.heap.size w w'))
 case atStart=>exact⟨y5,n5,rfl,HF5,⟨Nat.sub_le _ _⟩,HO5,HB5⟩
 case round =>
  clear HF5 HO5 HB5
  obtain⟨y,n,rfl,HF,HK,HO,HB⟩:=hrel
  by_cases c6:n < p
  ·have c6b0:decide ((n:Int) < (p:Int))=true:=decide_eq_true (by omega)
   obtain⟨k1,rfl⟩ : ∃ k1,gk=k1+1:=⟨gk - 1,by have:=HK.out;omega⟩
   have hF:=HF.out
   obtain⟨g,cap,eg,hg,hgs,_⟩:=Kd.R_form HO.out (by rw[hF.1];omega)
   injection eg with ea_ en_ ec_
   (first|subst ea_|(injection ea_ with ea_;subst ea_));subst ec_;clear en_
   have hn0:=(hF.2.2.2.2 (by omega)).1
   have hpc:p≤c7:=by have:=(Kd.R_reads' HO.out).2.1;exact this
   have HO2:=Kd.R_drew HO.out
   have HB2:=below_drew1 HB.out
   have hmin:Nat.min n (p - n)≤n∧Nat.min n (p - n)≤p - n:=⟨Nat.min_le_left _ _,Nat.min_le_right _ _⟩
   have hlen:(y.take (Nat.min n (p - n))).length=Nat.min n (p - n):=by rw[List.length_take,hF.1];omega
   obtain⟨w6,hrun,hR6,hB6⟩:=copy_step (o:=n) (dLen:=p - n) (dCap:=c7 - n) (sLen:=n) (sCap:=c7) (zs:=y.take (Nat.min n (p - n))) (a:=⟨g,0,none⟩) HB2 HO2 hg (below_size HB2) 3 hlen (by rw[hlen];omega) (fun j hj=>by
    rw[hlen] at hj
    have:=(Kd.R_celln 0 HO2 ((j:Nat):Int) (by omega) (by omega)).1
    rw[Int.toNat_natCast] at this
    rw[Addr.add_lit,Nat.zero_add,this,rdOf]
    congr 2
    rw[Int.toNat_natCast,List.getD_eq_getElem?_getD,List.getD_eq_getElem?_getD,List.getElem?_take_of_lt hj])
   rw[hlen] at hrun
   have hF6:=filled_step hF c6
   have HF6:=Aside0.mk hF6
   have HO6:=Aside0.mk hR6
   have HB6:=Aside0.mk hB6
   clear hw64 hu1 hu2
   have hle1:n≤p:=by omega
   have hne1 : ¬ c7=n:=by omega
   have hle2:n≤c7:=by omega
   have HL:=Aside0.mk (And.intro hle1 (And.intro hne1 hle2))
   have HMIN:=Aside0.mk hmin
   have HN0:=Aside0.mk (And.intro hn0 (show 0 < Nat.min n (p - n) from Nat.lt_min.mpr ⟨hn0,by omega⟩))
   have hw6:wrap64 ((n:Int)+((Nat.min n (p - n):Nat):Int))=((n+Nat.min n (p - n):Nat):Int):=by have:=HP1.out;unfold wrap64;omega
   have HW6:=Aside0.mk hw6
   clear hw6 hle1 hne1 hle2 hmin hpc hn0 hF6 hR6 hB6 HO2 HB2 hlen hF
   go_wp2
   refine start_ (n:=10) (S:=fun w'=>True) (ds:=[]) #[false,false,false,false,false,false,false,false,false,false] (by kernel_rfl) rfl rfl trivial (fun hHeld => ?_)
   refine pure_ (i:=0) (N:=some 38) (v:=?_) (a':=?_) #[true,false,false,false,false,false,false,false,false,false] rfl rfl (by kernel_rfl) (fun _ _ _ h=>h) (Or.inl ⟨by rfl,?_⟩) ?_ ?_
   rotate_left
   ·intro w'
    go_simp
    with_reducible rfl
   rotate_left
   ·simp only[Act.put,List.setIfInBounds_toArray,List.set_cons_zero,List.set_cons_succ,i64_w,i32_w]
    rfl
   refine pure_ (i:=1) (N:=some 39) (v:=?_) (a':=?_) #[true,true,false,false,false,false,false,false,false,false] rfl rfl (by kernel_rfl) (fun _ _ _ h=>h) (Or.inl ⟨by rfl,?_⟩) ?_ ?_
   rotate_left
   ·intro w'
    go_simp
    with_reducible rfl
   rotate_left
   ·simp only[Act.put,List.setIfInBounds_toArray,List.set_cons_zero,List.set_cons_succ,i64_w,i32_w]
    rfl
   refine pure_ (i:=2) (N:=some 40) (v:=?_) (a':=?_) #[true,true,true,false,false,false,false,false,false,false] rfl rfl (by kernel_rfl) (fun _ _ _ h=>h) (Or.inl ⟨by rfl,?_⟩) ?_ ?_
   rotate_left
   ·intro w'
    go_simp
    with_reducible rfl
   rotate_left
   ·simp only[Act.put,List.setIfInBounds_toArray,List.set_cons_zero,List.set_cons_succ,i64_w,i32_w]
    rfl
   refine pure_ (i:=3) (N:=some 41) (v:=?_) (a':=?_) #[true,true,true,true,false,false,false,false,false,false] rfl rfl (by kernel_rfl) (fun _ _ _ h=>h) (Or.inl ⟨by rfl,?_⟩) ?_ ?_
   rotate_left
   ·intro w'
    go_simp
    rw[if_pos HL.out.1,if_neg HL.out.2.1]
   rotate_left
   ·simp only[Act.put,List.setIfInBounds_toArray,List.set_cons_zero,List.set_cons_succ,i64_w,i32_w]
    rfl
   refine pure_ (i:=4) (N:=some 42) (v:=?_) (a':=?_) #[true,true,true,true,true,false,false,false,false,false] rfl rfl (by kernel_rfl) (fun _ _ _ h=>h) (Or.inl ⟨by rfl,?_⟩) ?_ ?_
   rotate_left
   ·intro w'
    go_simp
    with_reducible rfl
   rotate_left
   ·simp only[Act.put,List.setIfInBounds_toArray,List.set_cons_zero,List.set_cons_succ,i64_w,i32_w]
    rfl
   refine pure_ (i:=5) (N:=some 43) (v:=?_) (a':=?_) #[true,true,true,true,true,true,false,false,false,false] rfl rfl (by kernel_rfl) (fun _ _ _ h=>h) (Or.inl ⟨by rfl,?_⟩) ?_ ?_
   rotate_left
   ·intro w'
    go_simp
    with_reducible rfl
   rotate_left
   ·simp only[Act.put,List.setIfInBounds_toArray,List.set_cons_zero,List.set_cons_succ,i64_w,i32_w]
    rfl
   refine pure_ (i:=6) (N:=some 44) (v:=?_) (a':=?_) #[true,true,true,true,true,true,true,false,false,false] rfl rfl (by kernel_rfl) (fun _ _ _ h=>h) (Or.inl ⟨by rfl,?_⟩) ?_ ?_
   rotate_left
   ·intro w'
    go_simp
    rw[if_pos HL.out.2.2]
   rotate_left
   ·simp only[Act.put,List.setIfInBounds_toArray,List.set_cons_zero,List.set_cons_succ,i64_w,i32_w]
    rfl
   refine one_ (i:=7) (N:=some 45) #[true,true,true,true,true,true,true,true,false,false] rfl rfl (by kernel_rfl) (by decide) (fun K hK => ?_)
   refine event_step (w1:=w6) (v:=.int .i64 ((Nat.min n (p - n):Nat):Int)) ?hw_ ?hrun_ ?_
   case hw_=>rfl
   case hrun_ =>
    go_simp
   show K (Act.put _ (some 45) (.int .i64 ((Nat.min n (p - n):Nat):Int))) w6
   refine hK.out _ _ trivial (fun _ => ?_)
   clear hK K
   refine norm_ (a':=?_) (by simp only[Act.put,List.setIfInBounds_toArray,List.set_cons_zero,List.set_cons_succ,i64_w,i32_w];rfl) ?_
   refine pure_ (i:=8) (N:=some 46) (v:=?_) (a':=?_) #[true,true,true,true,true,true,true,true,true,false] rfl rfl (by kernel_rfl) (fun _ _ _ h=>h) (Or.inl ⟨by rfl,?_⟩) ?_ ?_
   rotate_left
   ·intro w'
    go_simp
    with_reducible rfl
   rotate_left
   ·simp only[Act.put,List.setIfInBounds_toArray,List.set_cons_zero,List.set_cons_succ,i64_w,i32_w]
    rfl
   refine pure_ (i:=9) (N:=some 8) (v:=?_) (a':=?_) #[true,true,true,true,true,true,true,true,true,true] rfl rfl (by kernel_rfl) (fun _ _ _ h=>h) (Or.inl ⟨by rfl,?_⟩) ?_ ?_
   rotate_left
   ·intro w'
    go_simp
    with_reducible rfl
   rotate_left
   ·simp only[Act.put,List.setIfInBounds_toArray,List.set_cons_zero,List.set_cons_succ,i64_w,i32_w]
    rfl
   refine done_ (by kernel_rfl) ?_
   try go_wp2
   go_roundg k1
   case measure=>omega
   case rel=>exact⟨_,n+Nat.min n (p - n),(by rw[HW6.out]),HF6,⟨by have:=HK.out;have:=HMIN.out;have:=HN0.out;omega⟩,⟨HO6.out⟩,⟨HB6.out⟩⟩
  ·have c6b0:decide ((n:Int) < (p:Int))=false:=decide_eq_false (by omega)
   have hF:=HF.out
   have hnp:n=p:=by have:=hF.2.1;omega
   subst hnp
   have hy:y=(List.replicate a1.toNat l0).flatten:=by
    rw[HPM.out] at hF
    rw[HMM.out,Int.toNat_natCast]
    exact filled_all hF
   subst hy
   go_wp2
   go_ret
   exact⟨_,rfl,by(with_reducible repeat (first|apply Kd.R_alloc|apply Kd.R_drewN|apply Kd.R_drew));exact HO.out,bB⟩


end Go.Proofs.Yteneeohaoplpbaa.XFnExactReachAll
