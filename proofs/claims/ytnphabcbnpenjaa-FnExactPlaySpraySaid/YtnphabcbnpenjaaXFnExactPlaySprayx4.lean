-- Written by this session's own program (wip/xprint.py) out of the translation; Lean checks it.
import Derived.Test.YtnphabcbnpenjaaXFnExactPlaySprayx0
import Derived.Test.YtnphabcbnpenjaaXFnExactPlaySprayx3
namespace Go.Proofs.Ytnphabcbnpenjaa.XFnExactPlaySpray
open Go.RowKit Go.Proofs.YtnphabcbnpenjaaW.PrintWords Go.Proofs.YtnphabcbnpenjaaW.PrintLast Go.Proofs.YtnphabcbnpenjaaW.PrintMore
attribute [local go_sem] max2_int min2_int max_two min_two max_three min_three max_four min_four   -- for this text's walks alone
set_option linter.unusedVariables false
set_option linter.unusedSimpArgs false

/-! ### slices_IndexFunc_int_int_impl_GoodSpray_lit1: function 145 -/
def slices_IndexFunc_int_int_impl_GoodSpray_lit1.l0:Nat→List Int→Int→Int→Option (Int)
 | 0,_,_,_=>none
 | k+1,x0,x7,x8=>if x8 < x7 then (if 0≤x8 then (if x8 < (x0.length:Int) then ((impl_GoodSpray_lit1.f (rd x0 x8)).bind fun t189=>(if t189=true then (some x8) else (slices_IndexFunc_int_int_impl_GoodSpray_lit1.l0 k x0 x7 (wrap64 (x8+1))))) else (none)) else (none)) else (some (-1))
def slices_IndexFunc_int_int_impl_GoodSpray_lit1.f (k:Nat) (l0:List Int)  : Option (Int):=slices_IndexFunc_int_int_impl_GoodSpray_lit1.l0 k l0 (l0.length:Int) 0
theorem slices_IndexFunc_int_int_impl_GoodSpray_lit1.mono_l : ∀ k,(∀ y0 y1 y2,LeO (slices_IndexFunc_int_int_impl_GoodSpray_lit1.l0 k y0 y1 y2) (slices_IndexFunc_int_int_impl_GoodSpray_lit1.l0 (k+1) y0 y1 y2))
 | 0=>fun _ _ _ r h=>by simp[slices_IndexFunc_int_int_impl_GoodSpray_lit1.l0] at h
 | k+1=>by
  have ih0:=slices_IndexFunc_int_int_impl_GoodSpray_lit1.mono_l k
  ·intro y0 y1 y2
   unfold slices_IndexFunc_int_int_impl_GoodSpray_lit1.l0
   repeat' first
   | (with_reducible exact ih0 _ _ _)
   | (with_reducible exact LeO.refl _)
   | (with_reducible exact LeO.none _)
   | (with_reducible refine LeO.ite ?_ ?_)
   | (with_reducible refine LeO.bind ?_ (fun _ => ?_))
   | exact ih0 _ _ _
   | exact LeO.none _
   | refine LeO.ite ?_ ?_
   | refine LeO.bind ?_ (fun _ => ?_)
theorem slices_IndexFunc_int_int_impl_GoodSpray_lit1.mono : ∀ a0 k,LeO (slices_IndexFunc_int_int_impl_GoodSpray_lit1.f k a0) (slices_IndexFunc_int_int_impl_GoodSpray_lit1.f (k+1) a0):=by
 intro a0 k
 have ih0:=slices_IndexFunc_int_int_impl_GoodSpray_lit1.mono_l k
 unfold slices_IndexFunc_int_int_impl_GoodSpray_lit1.f
 repeat' first
  | (with_reducible exact ih0 _ _ _)
  | (with_reducible exact LeO.refl _)
  | (with_reducible exact LeO.none _)
  | (with_reducible refine LeO.ite ?_ ?_)
  | (with_reducible refine LeO.bind ?_ (fun _ => ?_))
  | exact ih0 _ _ _
  | exact LeO.none _
  | refine LeO.ite ?_ ?_
  | refine LeO.bind ?_ (fun _ => ?_)
set_option maxHeartbeats 8000000 in
set_option maxRecDepth 100000 in
theorem slices_IndexFunc_int_int_impl_GoodSpray_lit1.calls (k:Nat) (A0:Option Addr) (c0:Nat) (l0:List Int)  (r:Int) (w:World) (hr0:Kd.C (Kd.int .i64) w A0 l0.length l0) (hc0:l0.length≤c0) (h:slices_IndexFunc_int_int_impl_GoodSpray_lit1.f k l0=some r) :
  Calls Try.prog 145 #[.slice A0 l0.length c0,(.func (.func 148) #[] #[])] w fun e w'=>e=.returned (.int .i64 r)∧Drawn0 w w':=by
 have HR0:=Aside0.mk hr0
 have HC0:=Aside0.mk hc0
 clear hr0 hc0
 have H:(slices_IndexFunc_int_int_impl_GoodSpray_lit1.l0 k l0 (l0.length:Int) 0)=some r:=h
 clear h
 have H':=Aside0.mk H
 clear H
 go_enter Try.func145,Try.ntmps145
 go_wp2
 go_loopg [8] k (fun kq v8 w' => ∃ (x8_1:Int),v8=.int .i64 x8_1∧Aside0 (slices_IndexFunc_int_int_impl_GoodSpray_lit1.l0 kq l0 (l0.length:Int) x8_1=some r)∧Aside0 (kq≤k)∧Drawn0 w w')
 case atStart=>exact⟨(0),(bR),H',⟨Nat.le_refl _⟩,bW⟩
 case round =>
  clear H'
  try clear p2
  obtain⟨x8_1,rfl,HA,HK1,⟨m1,rfl⟩⟩:=hrel
  cases gk with
  | zero=>exact absurd HA.out (by simp[slices_IndexFunc_int_int_impl_GoodSpray_lit1.l0])
  | succ k1 =>
   have H:=HA.out
   clear HA
   simp only[slices_IndexFunc_int_int_impl_GoodSpray_lit1.l0] at H
   by_cases c3:x8_1 < (l0.length:Int)
   ·rw[if_pos c3] at H
    have c3b0:decide (x8_1 < (l0.length:Int))=true:=decide_eq_true c3
    clear c3
    by_cases c4:0≤x8_1
    ·rw[if_pos c4] at H
     have c4b0:decide (0≤x8_1)=true:=decide_eq_true c4
     clear c4
     by_cases c5:x8_1 < (l0.length:Int)
     ·rw[if_pos c5] at H
      have c5b0:decide (x8_1 < (l0.length:Int))=true:=decide_eq_true c5
      clear c5
      replace H:=Option.bind_eq_some_iff.mp H
      obtain⟨t189,A60,H⟩:=H
      have A6:=Aside0.mk A60
      clear A60
      by_cases c7:t189=true
      ·subst c7
       have H1:(some x8_1)=some r:=by rw[if_pos rfl] at H;exact H
       clear H
       have H:=H1
       clear H1
       obtain rfl:=Option.some.inj H
       have p188:0≤(x8_1:Int):=of_decide_eq_true (bD)
       have q188:x8_1 < (l0.length:Int):=of_decide_eq_true (bD)
       obtain⟨ad188,e188,hx188_0⟩:=Kd.at_int HR0.out x8_1 p188 q188
       cases e188
       replace p188:=eq_true p188
       replace q188:=eq_true q188
       go_wp2_with (first|(go_at_call 148;(with_reducible refine(impl_GoodSpray_lit1.calls (rd l0 x8_1) true _ A6.out).mono ?_);rintro e w' ⟨rfl,⟨nd,rfl⟩⟩))
       go_ret
       exact⟨bR,bW⟩
      ·replace c7:=Bool.eq_false_iff.mpr c7
       subst c7
       have H1:(slices_IndexFunc_int_int_impl_GoodSpray_lit1.l0 k1 l0 (l0.length:Int) (wrap64 (x8_1+1)))=some r:=by rw[if_neg (show ¬ (false=true) by decide)] at H;exact H
       clear H
       have H:=H1
       clear H1
       have H':=Aside0.mk H
       clear H
       have p188:0≤(x8_1:Int):=of_decide_eq_true (bD)
       have q188:x8_1 < (l0.length:Int):=of_decide_eq_true (bD)
       obtain⟨ad188,e188,hx188_0⟩:=Kd.at_int HR0.out x8_1 p188 q188
       cases e188
       replace p188:=eq_true p188
       replace q188:=eq_true q188
       go_wp2_with (first|(go_at_call 148;(with_reducible refine(impl_GoodSpray_lit1.calls (rd l0 x8_1) false _ A6.out).mono ?_);rintro e w' ⟨rfl,⟨nd,rfl⟩⟩))
       go_roundg k1
       case measure=>have:=HK1.out;omega
       case rel=>exact⟨(wrap64 (x8_1+1)),(bR),H',⟨by have:=HK1.out;omega⟩,bW⟩
     ·rw[if_neg c5] at H
      exact absurd H (by simp)
    ·rw[if_neg c4] at H
     exact absurd H (by simp)
   ·rw[if_neg c3] at H
    have c3b0:decide (x8_1 < (l0.length:Int))=false:=decide_eq_false c3
    clear c3
    obtain rfl:=Option.some.inj H
    go_wp2
    go_ret
    exact⟨bR,bW⟩

/-! ### slices_ContainsFunc_int_int_impl_GoodSpray_lit1: function 95 -/
def slices_ContainsFunc_int_int_impl_GoodSpray_lit1.f (k:Nat) (l0:List Int)  : Option (Bool):=(slices_IndexFunc_int_int_impl_GoodSpray_lit1.f k l0).bind fun t190=>(some (decide (t190 ≥ 0)))
theorem slices_ContainsFunc_int_int_impl_GoodSpray_lit1.mono : ∀ a0 k,LeO (slices_ContainsFunc_int_int_impl_GoodSpray_lit1.f k a0) (slices_ContainsFunc_int_int_impl_GoodSpray_lit1.f (k+1) a0):=by
 intro a0 k
 unfold slices_ContainsFunc_int_int_impl_GoodSpray_lit1.f
 repeat' first
  | (with_reducible exact slices_IndexFunc_int_int_impl_GoodSpray_lit1.mono _ _)
  | (with_reducible exact LeO.refl _)
  | (with_reducible exact LeO.none _)
  | (with_reducible refine LeO.ite ?_ ?_)
  | (with_reducible refine LeO.bind ?_ (fun _ => ?_))
  | exact slices_IndexFunc_int_int_impl_GoodSpray_lit1.mono _ _
  | exact LeO.none _
  | refine LeO.ite ?_ ?_
  | refine LeO.bind ?_ (fun _ => ?_)
set_option maxHeartbeats 8000000 in
set_option maxRecDepth 100000 in
theorem slices_ContainsFunc_int_int_impl_GoodSpray_lit1.calls (k:Nat) (A0:Option Addr) (c0:Nat) (l0:List Int)  (r:Bool) (w:World) (hr0:Kd.C (Kd.int .i64) w A0 l0.length l0) (hc0:l0.length≤c0) (h:slices_ContainsFunc_int_int_impl_GoodSpray_lit1.f k l0=some r) :
  Calls Try.prog 95 #[.slice A0 l0.length c0,(.func (.func 148) #[] #[])] w fun e w'=>e=.returned (.bool r)∧Drawn0 w w':=by
 have HR0:=Aside0.mk hr0
 have HC0:=Aside0.mk hc0
 clear hr0 hc0
 have H:((slices_IndexFunc_int_int_impl_GoodSpray_lit1.f k l0).bind fun t190=>(some (decide (t190 ≥ 0))))=some r:=h
 clear h
 replace H:=Option.bind_eq_some_iff.mp H
 obtain⟨t190,A30,H⟩:=H
 have A3:=Aside0.mk A30
 clear A30
 obtain rfl:=Option.some.inj H
 go_enter Try.func95,Try.ntmps95
 go_wp2_with (first|((with_reducible refine gate_callee (f:=145) rfl ?_);refine goesA (some 7) rfl rfl Try.func145 #[.slice A0 l0.length c0,(.func (.func 148) #[] #[])] rfl ?_;(with_reducible refine(slices_IndexFunc_int_int_impl_GoodSpray_lit1.calls k _ _ l0  t190 _ ?side1 ?side2 A3.out).mono ?_);(case side1=>repeat (first|exact HR0.out|(with_reducible refine Kd.C_alloc ?_ _)|(with_reducible refine Kd.C_drewN ?_ _)|(with_reducible refine Kd.C_drew ?_)));(case side2=>exact HC0.out);rintro e w' ⟨rfl,⟨nd,rfl⟩⟩;refine⟨_,rfl,?_⟩))
 go_ret
 exact⟨bR,bW⟩

/-! ### impl_GoodSpray: function 100 -/
def impl_GoodSpray.j0:Nat→Bool→List Int→Int→Bool→Option (Bool)
 | 0,_,_,_,_=>none
 | k+1,x26,x192000,x192001,x192002=>if x26=true then (some false) else ((slices_ContainsFunc_int_int_impl_GoodSpray_lit1.f k x192000).bind fun t195=>(if t195=true then (some false) else ((impl_Spray_tokens.f k x192000 x192001 x192002).bind fun t196=>((impl_within.f t196 1 64).bind fun t197=>(some t197)))))
def impl_GoodSpray.f (k:Nat) (l0_0:List Int) (a0_1:Int) (a0_2:Bool):Option (Bool):=(impl_isWide.f (l0_0.length:Int)).bind fun t192=>(if t192=true then ((impl_within.f a0_1 0 (wrap64 ((l0_0.length:Int) - 1))).bind fun t193=>(if t193=true then (if 0≤a0_1 then (if a0_1 < (l0_0.length:Int) then (impl_GoodSpray.j0 k ((rd l0_0 a0_1) != 0) l0_0 a0_1 a0_2) else (none)) else (none)) else (impl_GoodSpray.j0 k true l0_0 a0_1 a0_2))) else (impl_GoodSpray.j0 k true l0_0 a0_1 a0_2))
theorem impl_GoodSpray.mono_l : ∀ k,(∀ y0 y1 y2 y3,LeO (impl_GoodSpray.j0 k y0 y1 y2 y3) (impl_GoodSpray.j0 (k+1) y0 y1 y2 y3))
 | 0=>fun _ _ _ _ r h=>by simp[impl_GoodSpray.j0] at h
 | k+1=>by
  have ih0:=impl_GoodSpray.mono_l k
  ·intro y0 y1 y2 y3
   unfold impl_GoodSpray.j0
   repeat' first
   | (with_reducible exact ih0 _ _ _ _)
   | (with_reducible exact impl_Spray_tokens.mono _ _ _ _)
   | (with_reducible exact slices_ContainsFunc_int_int_impl_GoodSpray_lit1.mono _ _)
   | (with_reducible exact LeO.refl _)
   | (with_reducible exact LeO.none _)
   | (with_reducible refine LeO.ite ?_ ?_)
   | (with_reducible refine LeO.bind ?_ (fun _ => ?_))
   | exact ih0 _ _ _ _
   | exact impl_Spray_tokens.mono _ _ _ _
   | exact slices_ContainsFunc_int_int_impl_GoodSpray_lit1.mono _ _
   | exact LeO.none _
   | refine LeO.ite ?_ ?_
   | refine LeO.bind ?_ (fun _ => ?_)
theorem impl_GoodSpray.mono : ∀ a0 a1 a2 k,LeO (impl_GoodSpray.f k a0 a1 a2) (impl_GoodSpray.f (k+1) a0 a1 a2):=by
 intro a0 a1 a2 k
 have ih0:=impl_GoodSpray.mono_l k
 unfold impl_GoodSpray.f
 repeat' first
  | (with_reducible exact ih0 _ _ _ _)
  | (with_reducible exact impl_Spray_tokens.mono _ _ _ _)
  | (with_reducible exact slices_ContainsFunc_int_int_impl_GoodSpray_lit1.mono _ _)
  | (with_reducible exact LeO.refl _)
  | (with_reducible exact LeO.none _)
  | (with_reducible refine LeO.ite ?_ ?_)
  | (with_reducible refine LeO.bind ?_ (fun _ => ?_))
  | exact ih0 _ _ _ _
  | exact impl_Spray_tokens.mono _ _ _ _
  | exact slices_ContainsFunc_int_int_impl_GoodSpray_lit1.mono _ _
  | exact LeO.none _
  | refine LeO.ite ?_ ?_
  | refine LeO.bind ?_ (fun _ => ?_)
set_option maxHeartbeats 8000000 in
set_option maxRecDepth 100000 in
theorem impl_GoodSpray.calls (k:Nat) (A0_0:Option Addr) (c0_0:Nat) (l0_0:List Int) (a0_1:Int) (a0_2:Bool) (r:Bool) (w:World) (hr0_0:Kd.C (Kd.int .i64) w A0_0 l0_0.length l0_0) (hc0_0:l0_0.length≤c0_0) (h:impl_GoodSpray.f k l0_0 a0_1 a0_2=some r) :
  Calls Try.prog 100 #[.agg #[.slice A0_0 l0_0.length c0_0,.int .i64 a0_1,.bool a0_2]] w fun e w'=>e=.returned (.bool r)∧Below w.heap.size w w':=by
 have hu39:=Try.underlying39
 have HR0_0:=Aside0.mk hr0_0
 have HC0_0:=Aside0.mk hc0_0
 clear hr0_0 hc0_0
 have HB:=Aside0.mk (Below.refl w.heap.size w)
 have H:((impl_isWide.f (l0_0.length:Int)).bind fun t192=>(if t192=true then ((impl_within.f a0_1 0 (wrap64 ((l0_0.length:Int) - 1))).bind fun t193=>(if t193=true then (if 0≤a0_1 then (if a0_1 < (l0_0.length:Int) then (impl_GoodSpray.j0 k ((rd l0_0 a0_1) != 0) l0_0 a0_1 a0_2) else (none)) else (none)) else (impl_GoodSpray.j0 k true l0_0 a0_1 a0_2))) else (impl_GoodSpray.j0 k true l0_0 a0_1 a0_2)))=some r:=h
 clear h
 have HC2:=Aside0.mk H
 clear H
 go_enter Try.func100,Try.ntmps100
 go_upto_region 1 with (first|((with_reducible refine gate_dst (N:=1) rfl ?_);(try (refine gate_guard (by rfl) ?_;dsimp only));refine box_event ?hg (N:=1) ?hd (cs:=#[.slice A0_0 l0_0.length c0_0,.int .i64 a0_1,.bool a0_2]) (t:=39) ?hr ?_;(case hd=>rfl);(case hg=>rfl);(case hr=>first|(go_simp;done)|(go_simp;rfl));intro gb191 hg w3 hbox hb;have n0_:=Aside0.mk (below_step (bB) hb);have n1_:=Aside0.mk (hbox);have n2_:=Aside0.mk ((bG:w.heap.size≤gb191));have n3_:=Aside0.mk ((bG:w.heap.size≤gb191));clear HB;have HB:=n0_;have BK191:=n1_;have GW191:=n2_;have GE191:=n3_;clear n0_ n1_ n2_ n3_;clear hb hbox hg))
 (try simp only[Act.put,List.setIfInBounds_toArray,List.set_cons_zero,List.set_cons_succ])
 go_cut [26] (fun v26 wc => ∃ (kq:Nat) (x26_1:Bool),v26=.bool x26_1∧Aside0 (impl_GoodSpray.j0 kq x26_1 l0_0 a0_1 a0_2=some r)∧Aside0 (kq≤k)∧Aside0 (wc.heap[gb191]?=some (.cells #[(.slice A0_0 l0_0.length c0_0),.int .i64 a0_1,.bool a0_2] 39 (0,0)))∧Aside0 (Below w.heap.size w wc))
 case first =>
  have H:=HC2.out
  clear HC2
  replace H:=Option.bind_eq_some_iff.mp H
  obtain⟨t192,A40,H⟩:=H
  have A4:=Aside0.mk A40
  clear A40
  by_cases c5:t192=true
  ·subst c5
   have H1:((impl_within.f a0_1 0 (wrap64 ((l0_0.length:Int) - 1))).bind fun t193=>(if t193=true then (if 0≤a0_1 then (if a0_1 < (l0_0.length:Int) then (impl_GoodSpray.j0 k ((rd l0_0 a0_1) != 0) l0_0 a0_1 a0_2) else (none)) else (none)) else (impl_GoodSpray.j0 k true l0_0 a0_1 a0_2)))=some r:=by rw[if_pos rfl] at H;exact H
   clear H
   have H:=H1
   clear H1
   replace H:=Option.bind_eq_some_iff.mp H
   obtain⟨t193,A60,H⟩:=H
   have A6:=Aside0.mk A60
   clear A60
   by_cases c7:t193=true
   ·subst c7
    have H1:(if 0≤a0_1 then (if a0_1 < (l0_0.length:Int) then (impl_GoodSpray.j0 k ((rd l0_0 a0_1) != 0) l0_0 a0_1 a0_2) else (none)) else (none))=some r:=by rw[if_pos rfl] at H;exact H
    clear H
    have H:=H1
    clear H1
    by_cases c8:0≤a0_1
    ·rw[if_pos c8] at H
     have c8b0:decide (0≤a0_1)=true:=decide_eq_true c8
     clear c8
     (first|rw[c8b0]|(simp only[i64_w,i32_w];rw[c8b0])|skip)
     by_cases c9:a0_1 < (l0_0.length:Int)
     ·rw[if_pos c9] at H
      have c9b0:decide (a0_1 < (l0_0.length:Int))=true:=decide_eq_true c9
      clear c9
      have H':=Aside0.mk H
      clear H
      obtain⟨hcz10_0,hcz10_1,hcz10_2⟩:=cC3 BK191.out
      obtain⟨hfz10_0,hfz10_1,hfz10_2⟩:=cF3 BK191.out
      go_wp2_with (first|((with_reducible refine gate_callee (f:=147) rfl ?_);refine goesA (some 6) rfl rfl Try.func147 #[.int .i64 (l0_0.length:Int)] rfl ?_;(with_reducible refine(impl_isWide.calls (l0_0.length:Int) true _ A4.out).mono ?_);rintro e w' ⟨rfl,⟨nd,rfl⟩⟩;refine⟨_,rfl,?_⟩)|(go_at_call 93;(with_reducible refine(impl_within.calls a0_1 0 (wrap64 ((l0_0.length:Int) - 1)) true _ A6.out).mono ?_);rintro e w' ⟨rfl,⟨nd,rfl⟩⟩;have p194:0≤(a0_1:Int):=of_decide_eq_true (bD);have q194:a0_1 < (l0_0.length:Int):=of_decide_eq_true (bD);obtain⟨ad194,e194,hx194_0⟩:=Kd.at_int HR0_0.out a0_1 p194 q194;cases e194;replace hx194_0:=(HB.out.cell (World.block_lt_of_cell? w _ hx194_0)).trans hx194_0;replace p194:=eq_true p194;replace q194:=eq_true q194))
      go_meet
      case rel=>exact⟨_,(((rd l0_0 a0_1) != 0)),(bR),H',⟨by first|omega|exact Nat.le_refl _⟩,⟨by(with_reducible repeat (first|refine blk_drewN ?_ _|refine blk_drew ?_|refine blk_alloc ?_ _));exact BK191.out⟩,⟨bS GE191.out⟩⟩
     ·rw[if_neg c9] at H
      exact absurd H (by simp)
    ·rw[if_neg c8] at H
     exact absurd H (by simp)
   ·replace c7:=Bool.eq_false_iff.mpr c7
    subst c7
    have H1:(impl_GoodSpray.j0 k true l0_0 a0_1 a0_2)=some r:=by rw[if_neg (show ¬ (false=true) by decide)] at H;exact H
    clear H
    have H:=H1
    clear H1
    have H':=Aside0.mk H
    clear H
    obtain⟨hcz11_0,hcz11_1,hcz11_2⟩:=cC3 BK191.out
    obtain⟨hfz11_0,hfz11_1,hfz11_2⟩:=cF3 BK191.out
    go_wp2_with (first|((with_reducible refine gate_callee (f:=147) rfl ?_);refine goesA (some 6) rfl rfl Try.func147 #[.int .i64 (l0_0.length:Int)] rfl ?_;(with_reducible refine(impl_isWide.calls (l0_0.length:Int) true _ A4.out).mono ?_);rintro e w' ⟨rfl,⟨nd,rfl⟩⟩;refine⟨_,rfl,?_⟩)|(go_at_call 93;(with_reducible refine(impl_within.calls a0_1 0 (wrap64 ((l0_0.length:Int) - 1)) false _ A6.out).mono ?_);rintro e w' ⟨rfl,⟨nd,rfl⟩⟩))
    go_meet
    case rel=>exact⟨_,(true),(bR),H',⟨by first|omega|exact Nat.le_refl _⟩,⟨by(with_reducible repeat (first|refine blk_drewN ?_ _|refine blk_drew ?_|refine blk_alloc ?_ _));exact BK191.out⟩,⟨bS GE191.out⟩⟩
  ·replace c5:=Bool.eq_false_iff.mpr c5
   subst c5
   have H1:(impl_GoodSpray.j0 k true l0_0 a0_1 a0_2)=some r:=by rw[if_neg (show ¬ (false=true) by decide)] at H;exact H
   clear H
   have H:=H1
   clear H1
   have H':=Aside0.mk H
   clear H
   obtain⟨hcz12_0,hcz12_1,hcz12_2⟩:=cC3 BK191.out
   obtain⟨hfz12_0,hfz12_1,hfz12_2⟩:=cF3 BK191.out
   go_wp2_with (first|((with_reducible refine gate_callee (f:=147) rfl ?_);refine goesA (some 6) rfl rfl Try.func147 #[.int .i64 (l0_0.length:Int)] rfl ?_;(with_reducible refine(impl_isWide.calls (l0_0.length:Int) false _ A4.out).mono ?_);rintro e w' ⟨rfl,⟨nd,rfl⟩⟩;refine⟨_,rfl,?_⟩))
   go_meet
   case rel=>exact⟨_,(true),(bR),H',⟨by first|omega|exact Nat.le_refl _⟩,⟨by(with_reducible repeat (first|refine blk_drewN ?_ _|refine blk_drew ?_|refine blk_alloc ?_ _));exact BK191.out⟩,⟨bS GE191.out⟩⟩
 case rest =>
  clear HC2
  try clear c1
  try clear p1
  try clear q1
  try clear hx1
  try clear p2
  try clear c5
  try clear p6
  try clear c7
  try clear c8
  try clear c8b0
  try clear c9
  try clear c9b0
  try clear c10
  try clear hcz10_0
  try clear hcz10_1
  try clear hcz10_2
  try clear hcz11_0
  try clear hcz11_1
  try clear hcz11_2
  try clear hcz12_0
  try clear hcz12_1
  try clear hcz12_2
  try clear hfz10_0
  try clear hfz10_1
  try clear hfz10_2
  try clear hfz11_0
  try clear hfz11_1
  try clear hfz11_2
  try clear hfz12_0
  try clear hfz12_1
  try clear hfz12_2
  try clear hx194_0
  try clear p194
  try clear q194
  obtain⟨kq,x26_1,rfl,HA,HJ1,BK191,HB⟩:=hcut
  cases kq with
  | zero=>exact absurd HA.out (by simp[impl_GoodSpray.j0])
  | succ kj1 =>
   have H:=HA.out
   clear HA
   simp only[impl_GoodSpray.j0] at H
   by_cases c13:x26_1=true
   ·subst c13
    have H1:(some false)=some r:=by rw[if_pos rfl] at H;exact H
    clear H
    have H:=H1
    clear H1
    obtain rfl:=Option.some.inj H
    go_wp2
    go_ret
    exact⟨bE,bS GE191.out⟩
   ·replace c13:=Bool.eq_false_iff.mpr c13
    subst c13
    have H1:((slices_ContainsFunc_int_int_impl_GoodSpray_lit1.f kj1 l0_0).bind fun t195=>(if t195=true then (some false) else ((impl_Spray_tokens.f kj1 l0_0 a0_1 a0_2).bind fun t196=>((impl_within.f t196 1 64).bind fun t197=>(some t197)))))=some r:=by rw[if_neg (show ¬ (false=true) by decide)] at H;exact H
    clear H
    have H:=H1
    clear H1
    replace H:=Option.bind_eq_some_iff.mp H
    obtain⟨t195,A140,H⟩:=H
    have A14:=Aside0.mk A140
    clear A140
    by_cases c15:t195=true
    ·subst c15
     have H1:(some false)=some r:=by rw[if_pos rfl] at H;exact H
     clear H
     have H:=H1
     clear H1
     obtain rfl:=Option.some.inj H
     obtain⟨hcz16_0,hcz16_1,hcz16_2⟩:=cC3 BK191.out
     obtain⟨hfz16_0,hfz16_1,hfz16_2⟩:=cF3 BK191.out
     go_wp2_with (first|((with_reducible refine gate_callee (f:=95) rfl ?_);refine goesA (some 29) rfl rfl Try.func95 #[.slice A0_0 l0_0.length c0_0,(.func (.func 148) #[] #[])] rfl ?_;(with_reducible refine(slices_ContainsFunc_int_int_impl_GoodSpray_lit1.calls kj1 _ _ l0_0  true _ ?side1 ?side2 A14.out).mono ?_);(case side1=>exact bC HR0_0.out);(case side2=>exact HC0_0.out);rintro e w' ⟨rfl,⟨nd,rfl⟩⟩;refine⟨_,rfl,?_⟩))
     go_ret
     exact⟨bE,bS GE191.out⟩
    ·replace c15:=Bool.eq_false_iff.mpr c15
     subst c15
     have H1:((impl_Spray_tokens.f kj1 l0_0 a0_1 a0_2).bind fun t196=>((impl_within.f t196 1 64).bind fun t197=>(some t197)))=some r:=by rw[if_neg (show ¬ (false=true) by decide)] at H;exact H
     clear H
     have H:=H1
     clear H1
     replace H:=Option.bind_eq_some_iff.mp H
     obtain⟨t196,A170,H⟩:=H
     have A17:=Aside0.mk A170
     clear A170
     replace H:=Option.bind_eq_some_iff.mp H
     obtain⟨t197,A180,H⟩:=H
     have A18:=Aside0.mk A180
     clear A180
     obtain rfl:=Option.some.inj H
     obtain⟨hcz19_0,hcz19_1,hcz19_2⟩:=cC3 BK191.out
     obtain⟨hfz19_0,hfz19_1,hfz19_2⟩:=cF3 BK191.out
     go_wp2_with (first|((with_reducible refine gate_callee (f:=95) rfl ?_);refine goesA (some 29) rfl rfl Try.func95 #[.slice A0_0 l0_0.length c0_0,(.func (.func 148) #[] #[])] rfl ?_;(with_reducible refine(slices_ContainsFunc_int_int_impl_GoodSpray_lit1.calls kj1 _ _ l0_0  false _ ?side1 ?side2 A14.out).mono ?_);(case side1=>exact bC HR0_0.out);(case side2=>exact HC0_0.out);rintro e w' ⟨rfl,⟨nd,rfl⟩⟩;refine⟨_,rfl,?_⟩)|(go_at_call 149;(with_reducible refine(impl_Spray_tokens.calls kj1 _ _ l0_0 a0_1 a0_2 t196 _ ?side1 ?side2 A17.out).mono ?_);(case side1=>repeat (first|exact(Kd.C_below HR0_0.out (bS GE191.out))|(with_reducible refine Kd.C_alloc ?_ _)|(with_reducible refine Kd.C_drewN ?_ _)|(with_reducible refine Kd.C_drew ?_)));(case side2=>exact HC0_0.out);rintro e w20 ⟨rfl,hb⟩;have n0_:=Aside0.mk (bM BK191.out hb);have n1_:=Aside0.mk (below_step (bS GE191.out) hb);clear BK191 HB;have BK191:=n0_;have HB:=n1_;clear n0_ n1_;(try clear hb);(try clear hb2);(try clear hk);(try clear hi))|(go_at_call 93;(with_reducible refine(impl_within.calls t196 1 64 t197 _ A18.out).mono ?_);rintro e w' ⟨rfl,⟨nd,rfl⟩⟩))
     go_ret
     exact⟨bE,bS GE191.out⟩

/-! ### slices_Clone_int_int: function 106 -/
def slices_Clone_int_int.f (l0:List Int):Option (List Int):=(some (([]:List Int):List Int)).bind fun y198=>(if y198.length+l0.length < 17592186044416 then (some (y198++l0)) else (none))
set_option maxHeartbeats 8000000 in
set_option maxRecDepth 100000 in
theorem slices_Clone_int_int.calls (A0:Option Addr) (c0:Nat) (l0:List Int) (r:List Int) (w:World) (hr0:Kd.C (Kd.int .i64) w A0 l0.length l0) (hc0:l0.length≤c0) (h:slices_Clone_int_int.f l0=some r) :
  Calls Try.prog 106 #[.slice A0 l0.length c0] w fun e w' => ∃ v0_:Value,e=.returned (v0_)∧Kd.R (Kd.int .i64) 3 w' w.heap.size (fun _=>True) v0_ r∧Below w.heap.size w w':=by
 have HR0:=Aside0.mk hr0
 have HC0:=Aside0.mk hc0
 clear hr0 hc0
 by_cases hA_:A0=none
 ·have h0_:l0=[]:=by
   have z_:=HR0.out
   rw[hA_] at z_
   cases l0 with
   | nil=>rfl
   | cons x_ xs_ =>
    obtain⟨ad_,e_,_⟩:=z_.2.2 (by simp)
    cases e_
  subst hA_
  subst h0_
  have hr_:r=[]:=by simpa [slices_Clone_int_int.f] using h.symm
  subst hr_
  have hq_ : ∀ (w:World) (n c:Nat),(binOp .eql 33 (.slice none n c) (.slice none 0 0)).run Try.prog w=.ok (.bool true) w:=fun w n c=>by
   rw[Lib.run_eql_slice_nil w _ _ _ _ _ _ _ Try.underlying33]
   rfl
  go_enter Try.func106,Try.ntmps106
  go_wp2
  go_ret
  exact⟨_,rfl,Kd.R_nil _ _ _ _ _,Below.refl _ _⟩
 have hq_ : ∀ w,(binOp .eql 33 (.slice A0 l0.length c0) (.slice none 0 0)).run Try.prog w=.ok (.bool false) w:=fun w=>by
  rw[Lib.run_eql_slice_nil w _ _ _ _ _ _ _ Try.underlying33]
  cases A0 with
  | none=>exact absurd rfl hA_
  | some _=>rfl
 have HB:=Aside0.mk (Below.refl w.heap.size w)
 have H:((some (([]:List Int):List Int)).bind fun y198=>(if y198.length+l0.length < 17592186044416 then (some (y198++l0)) else (none)))=some r:=h
 clear h
 obtain⟨y198,hy198⟩ : ∃ y_:List Int,y_=(([]:List Int)):=⟨_,rfl⟩
 replace H:(if y198.length+l0.length < 17592186044416 then (some (y198++l0)) else (none))=some r:=by first|(rw[hy198];with_reducible exact H)|(have H2_:=(Option.bind_some _ _).symm.trans H;rw[hy198];with_reducible exact H2_)|(have H2_:=(Option.bind_some _ _).symm.trans H;with_reducible exact H2_)|with_reducible exact H|(rw[hy198];exact H)|exact H
 have Ny198:=Aside0.mk hy198
 clear hy198
 by_cases c2:y198.length+l0.length < 17592186044416
 ·rw[if_pos c2] at H
  have LMc2:=Aside0.mk c2
  clear c2
  obtain⟨y201,hy201⟩ : ∃ y_:List Int,y_=(y198++l0):=⟨_,rfl⟩
  replace H:(some y201)=some r:=by first|(rw[hy201];with_reducible exact H)|(have H2_:=(Option.bind_some _ _).symm.trans H;rw[hy201];with_reducible exact H2_)|(have H2_:=(Option.bind_some _ _).symm.trans H;with_reducible exact H2_)|with_reducible exact H|(rw[hy201];exact H)|exact H
  have Ny201:=Aside0.mk hy201
  clear hy201
  obtain rfl:=Option.some.inj H
  go_enter Try.func106,Try.ntmps106
  go_wp2_with (first|((with_reducible refine gate_dst (N:=5) rfl ?_);refine Kd.R_lit (Kd.int .i64) _ 3 ?hg (N:=5) ?hd (xs:=([]:List Int)) (inner:=[]) (ok:=fun _=>True) (okp:=fun _=>True) ?hr ?hp (fun _ hk=>hk) trivial (Below.refl _ _) (Nat.le_refl _) (by simp) ?_;(case hd=>rfl);(case hg=>rfl);(case hr=>first|(go_simp;done)|(go_simp;rfl));(case hp=>exact(Reps.none _ _));intro v199 w3 ho4 hb hg_ hnew_;clear hg_ hnew_;(first|rw[← Ny198.out] at ho4|(simp only[Int.reduceToNat] at ho4;rw[← Ny198.out] at ho4));have n0_:=Aside0.mk (Kd.R_lower ho4 (below_size (bB)));have n1_:=Aside0.mk (below_step (bB) hb);clear HB;have HO200:=n0_;have HB:=n1_;clear n0_ n1_;clear hb ho4)|((with_reducible refine gate_builtin (b:=.append) (xs:=#[.tmp 5,.tmp 6]) rfl ?_);at_builtin;refine Kd.R_append_rows (Kd.int .i64) (w0:=w) w.heap.size rfl (.tmp 5) (.tmp 6) 33 3 (.int .i64 0) 8 rfl Try.underlying33 info3 rfl (by decide) (by omega) v199 y198 l0 _ _ _ (fun _=>True) (fun _=>False) rfl rfl ?aO ?aR (fun _ _ h=>h) (fun _ h=>h.elim) ?aF ?aB ?aS ?aL ?_;(case aR=>exact bC HR0.out);(case aB=>exact(bB));(case aF=>exact(fun _ _=>trivial));(case aO=>exact(bK HO200.out));(case aS=>exact(below_size (bB)));(case aL=>have:=LMc2.out;omega);intro v202 w5 ho hb hg hat;rw[← Ny201.out] at ho;have n0_:=Aside0.mk (hb);have n1_:=Aside0.mk (ho);clear HB HO200;have HB:=n0_;have HO203:=n1_;clear n0_ n1_;clear ho hb hg hat))
  go_ret
  exact⟨_,by first|rfl|(simp[errW_none,errW_some]<;>rfl)|(simp[*,errW_none,errW_some]<;>rfl),by(with_reducible repeat (first|apply Kd.R_alloc|apply Kd.R_drewN|apply Kd.R_drew));exact HO203.out,bB⟩
 ·rw[if_neg c2] at H
  exact absurd H (by simp)

end Go.Proofs.Ytnphabcbnpenjaa.XFnExactPlaySpray
