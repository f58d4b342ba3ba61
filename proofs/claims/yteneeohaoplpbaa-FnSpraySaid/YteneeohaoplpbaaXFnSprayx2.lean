-- Written by this session's own program (wip/xprint.py) out of the translation; Lean checks it.
import Derived.Test.YteneeohaoplpbaaXFnSprayx0
import Derived.Test.YteneeohaoplpbaaXFnSprayx1
namespace Go.Proofs.Yteneeohaoplpbaa.XFnSpray
open Go.RowKit Go.Proofs.YteneeohaoplpbaaW.PrintWords Go.Proofs.YteneeohaoplpbaaW.PrintLast Go.Proofs.YteneeohaoplpbaaW.PrintMore
open Go.Proofs.YteneeohaoplpbaaW.PrintWords.Aside0 renaming mk → am
open List renaming setIfInBounds_toArray → zA, set_cons_zero → zB, set_cons_succ → zC
attribute [local go_sem] max2_int min2_int max_two min_two max_three min_three max_four min_four   -- for this text's walks alone
set_option linter.unusedVariables false
set_option linter.unusedSimpArgs false

/-! ### impl_GoodSpray_lit1: function 114 -/
def impl_GoodSpray_lit1.f (a0:Int):Option (Bool):=(impl_within.f a0 0 64).bind fun t198=>(some (!t198))
set_option maxHeartbeats 8000000 in
set_option maxRecDepth 100000 in
theorem impl_GoodSpray_lit1.calls (a0:Int) (r:Bool) (w:World) (h:impl_GoodSpray_lit1.f a0=some r) :
  Calls Try.prog 114 #[.int .i64 a0] w fun e w'=>e=.returned (.bool r)∧Drawn0 w w':=by
 have H:((impl_within.f a0 0 64).bind fun t198=>(some (!t198)))=some r:=h
 clear h
 replace H:=bI_ H
 obtain⟨t198,A20,H⟩:=H
 have A2:=am A20
 clear A20
 obtain rfl:=Option.some.inj H
 go_enter Try.func114,Try.ntmps114
 go_wp2_with (first|((with_reducible refine gate_callee (f:=79) rfl ?_);refine goesA (some 4) rfl rfl Try.func79 #[.int .i64 a0,.int .i64 0,.int .i64 64] rfl ?_;(with_reducible refine(impl_within.calls a0 0 64 t198 _ A2.out).mono ?_);rintro e w' ⟨rfl,⟨nd,rfl⟩⟩;refine⟨_,rfl,?_⟩))
 go_ret
 exact⟨bR,bW⟩

/-! ### slices_IndexFunc_int_int_impl_GoodSpray_lit1: function 148 -/
def slices_IndexFunc_int_int_impl_GoodSpray_lit1.l0:Nat→List Int→Int→Int→Option (Int)
 | 0,_,_,_=>none
 | k+1,x0,x7,x8=>if x8 < x7 then (if 0≤x8 then (if x8 < (x0.length:Int) then ((impl_GoodSpray_lit1.f (rd x0 x8)).bind fun t200=>(if t200=true then (some x8) else (slices_IndexFunc_int_int_impl_GoodSpray_lit1.l0 k x0 x7 (wrap64 (x8+1))))) else (none)) else (none)) else (some (-1))
def slices_IndexFunc_int_int_impl_GoodSpray_lit1.f (k:Nat) (l0:List Int)  : Option (Int):=slices_IndexFunc_int_int_impl_GoodSpray_lit1.l0 k l0 (l0.length:Int) 0
theorem slices_IndexFunc_int_int_impl_GoodSpray_lit1.mono_l : ∀ k,(∀ y0 y1 y2,LeO (slices_IndexFunc_int_int_impl_GoodSpray_lit1.l0 k y0 y1 y2) (slices_IndexFunc_int_int_impl_GoodSpray_lit1.l0 (k+1) y0 y1 y2))
 | 0=>fun _ _ _ r h=>by simp[slices_IndexFunc_int_int_impl_GoodSpray_lit1.l0] at h
 | k+1=>by
  have ih0:=slices_IndexFunc_int_int_impl_GoodSpray_lit1.mono_l k
  ·intro y0 y1 y2
   unfold slices_IndexFunc_int_int_impl_GoodSpray_lit1.l0
   repeat' first
   | (with_reducible exact ih0 _ _ _)
   | (with_reducible exact LeO.refl _)
   | (with_reducible exact LeO.none _)
   | (with_reducible refine LeO.ite ?_ ?_)
   | (with_reducible refine LeO.bind ?_ (fun _ => ?_))
theorem slices_IndexFunc_int_int_impl_GoodSpray_lit1.mono : ∀ a0 k,LeO (slices_IndexFunc_int_int_impl_GoodSpray_lit1.f k a0) (slices_IndexFunc_int_int_impl_GoodSpray_lit1.f (k+1) a0):=by
 intro a0 k
 have ih0:=slices_IndexFunc_int_int_impl_GoodSpray_lit1.mono_l k
 unfold slices_IndexFunc_int_int_impl_GoodSpray_lit1.f
 repeat' first
  | (with_reducible exact ih0 _ _ _)
  | (with_reducible exact LeO.refl _)
  | (with_reducible exact LeO.none _)
  | (with_reducible refine LeO.ite ?_ ?_)
  | (with_reducible refine LeO.bind ?_ (fun _ => ?_))
set_option maxHeartbeats 8000000 in
set_option maxRecDepth 100000 in
theorem slices_IndexFunc_int_int_impl_GoodSpray_lit1.calls (k:Nat) (A0:Option Addr) (c0:Nat) (l0:List Int)  (r:Int) (w:World) (hr0:Kd.C (Kd.int .i64) w A0 l0.length l0) (hc0:l0.length≤c0) (h:slices_IndexFunc_int_int_impl_GoodSpray_lit1.f k l0=some r) :
  Calls Try.prog 148 #[.slice A0 l0.length c0,(.func (.func 114) #[] #[])] w fun e w'=>e=.returned (.int .i64 r)∧Drawn0 w w':=by
 have HR0:=am hr0
 have HC0:=am hc0
 clear hr0 hc0
 have H:(slices_IndexFunc_int_int_impl_GoodSpray_lit1.l0 k l0 (l0.length:Int) 0)=some r:=h
 clear h
 have H':=am H
 clear H
 go_enter Try.func148,Try.ntmps148
 go_wp2
 go_loopg [8] k (fun kq v8 w' => ∃ (x8_1:Int),v8=.int .i64 x8_1∧Aside0 (slices_IndexFunc_int_int_impl_GoodSpray_lit1.l0 kq l0 (l0.length:Int) x8_1=some r)∧Aside0 (kq≤k)∧Drawn0 w w')
 case atStart=>exact⟨(0),(bR),H',⟨Nat.le_refl _⟩,bW⟩
 case round =>
  clear H'
  try clear p2
  obtain⟨x8_1,rfl,HA,HK1,⟨m1,rfl⟩⟩:=hrel
  cases gk with
  | zero=>exact absurd HA.out (by simp[slices_IndexFunc_int_int_impl_GoodSpray_lit1.l0])
  | succ k1 =>
   have H:=HA.out
   clear HA
   simp only[slices_IndexFunc_int_int_impl_GoodSpray_lit1.l0] at H
   by_cases c3:x8_1 < (l0.length:Int)
   ·rw[if_pos c3] at H
    have c3b0:decide (x8_1 < (l0.length:Int))=true:=decide_eq_true c3
    clear c3
    by_cases c4:0≤x8_1
    ·rw[if_pos c4] at H
     have c4b0:decide (0≤x8_1)=true:=decide_eq_true c4
     clear c4
     by_cases c5:x8_1 < (l0.length:Int)
     ·rw[if_pos c5] at H
      have c5b0:decide (x8_1 < (l0.length:Int))=true:=decide_eq_true c5
      clear c5
      replace H:=bI_ H
      obtain⟨t200,A60,H⟩:=H
      have A6:=am A60
      clear A60
      by_cases c7:t200=true
      ·subst c7
       have H1:(some x8_1)=some r:=by rw[if_pos rfl] at H;exact H
       clear H
       have H:=H1
       clear H1
       obtain rfl:=Option.some.inj H
       have p199:0≤(x8_1:Int):=bD_
       have q199:x8_1 < (l0.length:Int):=bD_
       obtain⟨ad199,e199,hx199_0⟩:=Kd.at_int HR0.out x8_1 p199 q199
       cases e199
       replace p199:=eq_true p199
       replace q199:=eq_true q199
       go_wp2_with (first|(go_at_call 114;(with_reducible refine(impl_GoodSpray_lit1.calls (rd l0 x8_1) true _ A6.out).mono ?_);rintro e w' ⟨rfl,⟨nd,rfl⟩⟩))
       go_ret
       exact⟨bR,bW⟩
      ·replace c7:=Bool.eq_false_iff.mpr c7
       subst c7
       have H1:(slices_IndexFunc_int_int_impl_GoodSpray_lit1.l0 k1 l0 (l0.length:Int) (wrap64 (x8_1+1)))=some r:=by rw[if_neg (show ¬ (false=true) by decide)] at H;exact H
       clear H
       have H:=H1
       clear H1
       have H':=am H
       clear H
       have p199:0≤(x8_1:Int):=bD_
       have q199:x8_1 < (l0.length:Int):=bD_
       obtain⟨ad199,e199,hx199_0⟩:=Kd.at_int HR0.out x8_1 p199 q199
       cases e199
       replace p199:=eq_true p199
       replace q199:=eq_true q199
       go_wp2_with (first|(go_at_call 114;(with_reducible refine(impl_GoodSpray_lit1.calls (rd l0 x8_1) false _ A6.out).mono ?_);rintro e w' ⟨rfl,⟨nd,rfl⟩⟩))
       go_roundg k1
       case measure=>have:=HK1.out;omega
       case rel=>exact⟨(wrap64 (x8_1+1)),(bR),H',⟨by have:=HK1.out;omega⟩,bW⟩
     ·rw[if_neg c5] at H
      exact absurd H (by simp)
    ·rw[if_neg c4] at H
     exact absurd H (by simp)
   ·rw[if_neg c3] at H
    have c3b0:decide (x8_1 < (l0.length:Int))=false:=decide_eq_false c3
    clear c3
    obtain rfl:=Option.some.inj H
    go_wp2
    go_ret
    exact⟨bR,bW⟩

/-! ### slices_ContainsFunc_int_int_impl_GoodSpray_lit1: function 113 -/
def slices_ContainsFunc_int_int_impl_GoodSpray_lit1.f (k:Nat) (l0:List Int)  : Option (Bool):=(slices_IndexFunc_int_int_impl_GoodSpray_lit1.f k l0).bind fun t201=>(some (decide (t201 ≥ 0)))
theorem slices_ContainsFunc_int_int_impl_GoodSpray_lit1.mono : ∀ a0 k,LeO (slices_ContainsFunc_int_int_impl_GoodSpray_lit1.f k a0) (slices_ContainsFunc_int_int_impl_GoodSpray_lit1.f (k+1) a0):=by
 intro a0 k
 unfold slices_ContainsFunc_int_int_impl_GoodSpray_lit1.f
 repeat' first
  | (with_reducible exact slices_IndexFunc_int_int_impl_GoodSpray_lit1.mono _ _)
  | (with_reducible exact LeO.refl _)
  | (with_reducible exact LeO.none _)
  | (with_reducible refine LeO.ite ?_ ?_)
  | (with_reducible refine LeO.bind ?_ (fun _ => ?_))
set_option maxHeartbeats 8000000 in
set_option maxRecDepth 100000 in
theorem slices_ContainsFunc_int_int_impl_GoodSpray_lit1.calls (k:Nat) (A0:Option Addr) (c0:Nat) (l0:List Int)  (r:Bool) (w:World) (hr0:Kd.C (Kd.int .i64) w A0 l0.length l0) (hc0:l0.length≤c0) (h:slices_ContainsFunc_int_int_impl_GoodSpray_lit1.f k l0=some r) :
  Calls Try.prog 113 #[.slice A0 l0.length c0,(.func (.func 114) #[] #[])] w fun e w'=>e=.returned (.bool r)∧Drawn0 w w':=by
 have HR0:=am hr0
 have HC0:=am hc0
 clear hr0 hc0
 have H:((slices_IndexFunc_int_int_impl_GoodSpray_lit1.f k l0).bind fun t201=>(some (decide (t201 ≥ 0))))=some r:=h
 clear h
 replace H:=bI_ H
 obtain⟨t201,A30,H⟩:=H
 have A3:=am A30
 clear A30
 obtain rfl:=Option.some.inj H
 go_enter Try.func113,Try.ntmps113
 go_wp2_with (first|((with_reducible refine gate_callee (f:=148) rfl ?_);refine goesA (some 7) rfl rfl Try.func148 #[.slice A0 l0.length c0,(.func (.func 114) #[] #[])] rfl ?_;(with_reducible refine(slices_IndexFunc_int_int_impl_GoodSpray_lit1.calls k _ _ l0  t201 _ ?side1 ?side2 A3.out).mono ?_);(case side1=>repeat (first|exact HR0.out|(with_reducible refine Kd.C_alloc ?_ _)|(with_reducible refine Kd.C_drewN ?_ _)|(with_reducible refine Kd.C_drew ?_)));(case side2=>exact HC0.out);rintro e w' ⟨rfl,⟨nd,rfl⟩⟩;refine⟨_,rfl,?_⟩))
 go_ret
 exact⟨bR,bW⟩

/-! ### impl_GoodSpray: function 44 -/
def impl_GoodSpray.j0:Nat→Bool→List Int→Int→Bool→Option (Bool)
 | 0,_,_,_,_=>none
 | k+1,x26,x203000,x203001,x203002=>if x26=true then (some false) else ((slices_ContainsFunc_int_int_impl_GoodSpray_lit1.f k x203000).bind fun t206=>(if t206=true then (some false) else ((impl_Spray_tokens.f k x203000 x203001 x203002).bind fun t207=>((impl_within.f t207 1 64).bind fun t208=>(some t208)))))
def impl_GoodSpray.f (k:Nat) (l0_0:List Int) (a0_1:Int) (a0_2:Bool):Option (Bool):=(impl_isWide.f (l0_0.length:Int)).bind fun t203=>(if t203=true then ((impl_within.f a0_1 0 (wrap64 ((l0_0.length:Int) - 1))).bind fun t204=>(if t204=true then (if 0≤a0_1 then (if a0_1 < (l0_0.length:Int) then (impl_GoodSpray.j0 k ((rd l0_0 a0_1) != 0) l0_0 a0_1 a0_2) else (none)) else (none)) else (impl_GoodSpray.j0 k true l0_0 a0_1 a0_2))) else (impl_GoodSpray.j0 k true l0_0 a0_1 a0_2))
theorem impl_GoodSpray.mono_l : ∀ k,(∀ y0 y1 y2 y3,LeO (impl_GoodSpray.j0 k y0 y1 y2 y3) (impl_GoodSpray.j0 (k+1) y0 y1 y2 y3))
 | 0=>fun _ _ _ _ r h=>by simp[impl_GoodSpray.j0] at h
 | k+1=>by
  have ih0:=impl_GoodSpray.mono_l k
  ·intro y0 y1 y2 y3
   unfold impl_GoodSpray.j0
   repeat' first
   | (with_reducible exact ih0 _ _ _ _)
   | (with_reducible exact impl_Spray_tokens.mono _ _ _ _)
   | (with_reducible exact slices_ContainsFunc_int_int_impl_GoodSpray_lit1.mono _ _)
   | (with_reducible exact LeO.refl _)
   | (with_reducible exact LeO.none _)
   | (with_reducible refine LeO.ite ?_ ?_)
   | (with_reducible refine LeO.bind ?_ (fun _ => ?_))
theorem impl_GoodSpray.mono : ∀ a0 a1 a2 k,LeO (impl_GoodSpray.f k a0 a1 a2) (impl_GoodSpray.f (k+1) a0 a1 a2):=by
 intro a0 a1 a2 k
 have ih0:=impl_GoodSpray.mono_l k
 unfold impl_GoodSpray.f
 repeat' first
  | (with_reducible exact ih0 _ _ _ _)
  | (with_reducible exact impl_Spray_tokens.mono _ _ _ _)
  | (with_reducible exact slices_ContainsFunc_int_int_impl_GoodSpray_lit1.mono _ _)
  | (with_reducible exact LeO.refl _)
  | (with_reducible exact LeO.none _)
  | (with_reducible refine LeO.ite ?_ ?_)
  | (with_reducible refine LeO.bind ?_ (fun _ => ?_))
set_option maxHeartbeats 8000000 in
set_option maxRecDepth 100000 in
theorem impl_GoodSpray.calls (k:Nat) (A0_0:Option Addr) (c0_0:Nat) (l0_0:List Int) (a0_1:Int) (a0_2:Bool) (r:Bool) (w:World) (hr0_0:Kd.C (Kd.int .i64) w A0_0 l0_0.length l0_0) (hc0_0:l0_0.length≤c0_0) (h:impl_GoodSpray.f k l0_0 a0_1 a0_2=some r) :
  Calls Try.prog 44 #[.agg #[.slice A0_0 l0_0.length c0_0,.int .i64 a0_1,.bool a0_2]] w fun e w'=>e=.returned (.bool r)∧Below w.heap.size w w':=by
 have hu62:=Try.underlying62
 have HR0_0:=am hr0_0
 have HC0_0:=am hc0_0
 clear hr0_0 hc0_0
 have HB:=am (Below.refl w.heap.size w)
 have H:((impl_isWide.f (l0_0.length:Int)).bind fun t203=>(if t203=true then ((impl_within.f a0_1 0 (wrap64 ((l0_0.length:Int) - 1))).bind fun t204=>(if t204=true then (if 0≤a0_1 then (if a0_1 < (l0_0.length:Int) then (impl_GoodSpray.j0 k ((rd l0_0 a0_1) != 0) l0_0 a0_1 a0_2) else (none)) else (none)) else (impl_GoodSpray.j0 k true l0_0 a0_1 a0_2))) else (impl_GoodSpray.j0 k true l0_0 a0_1 a0_2)))=some r:=h
 clear h
 have HC2:=am H
 clear H
 go_enter Try.func44,Try.ntmps44
 go_upto_region 1 with (first|((with_reducible refine gate_dst (N:=1) rfl ?_);(try (refine gate_guard (by rfl) ?_;dsimp only));refine box_event ?hg (N:=1) ?hd (cs:=#[.slice A0_0 l0_0.length c0_0,.int .i64 a0_1,.bool a0_2]) (t:=62) ?hr ?_;(case hd=>rfl);(case hg=>rfl);(case hr=>first|(go_simp;done)|(go_simp;rfl));intro gb202 hg w3 hbox hb;have n0_:=am (below_step (bB) hb);have n1_:=am (hbox);have n2_:=am ((bG:w.heap.size≤gb202));have n3_:=am ((bG:w.heap.size≤gb202));clear HB;have HB:=n0_;have BK202:=n1_;have GW202:=n2_;have GE202:=n3_;clear n0_ n1_ n2_ n3_;clear hb hbox hg))
 (try simp only[Act.put,zA,zB,zC])
 go_cut [26] (fun v26 wc => ∃ (kq:Nat) (x26_1:Bool),v26=.bool x26_1∧Aside0 (impl_GoodSpray.j0 kq x26_1 l0_0 a0_1 a0_2=some r)∧Aside0 (kq≤k)∧Aside0 (wc.heap[gb202]?=some (.cells #[(.slice A0_0 l0_0.length c0_0),.int .i64 a0_1,.bool a0_2] 62 (0,0)))∧Aside0 (Below w.heap.size w wc))
 case first =>
  have H:=HC2.out
  clear HC2
  replace H:=bI_ H
  obtain⟨t203,A40,H⟩:=H
  have A4:=am A40
  clear A40
  by_cases c5:t203=true
  ·subst c5
   have H1:((impl_within.f a0_1 0 (wrap64 ((l0_0.length:Int) - 1))).bind fun t204=>(if t204=true then (if 0≤a0_1 then (if a0_1 < (l0_0.length:Int) then (impl_GoodSpray.j0 k ((rd l0_0 a0_1) != 0) l0_0 a0_1 a0_2) else (none)) else (none)) else (impl_GoodSpray.j0 k true l0_0 a0_1 a0_2)))=some r:=by rw[if_pos rfl] at H;exact H
   clear H
   have H:=H1
   clear H1
   replace H:=bI_ H
   obtain⟨t204,A60,H⟩:=H
   have A6:=am A60
   clear A60
   by_cases c7:t204=true
   ·subst c7
    have H1:(if 0≤a0_1 then (if a0_1 < (l0_0.length:Int) then (impl_GoodSpray.j0 k ((rd l0_0 a0_1) != 0) l0_0 a0_1 a0_2) else (none)) else (none))=some r:=by rw[if_pos rfl] at H;exact H
    clear H
    have H:=H1
    clear H1
    by_cases c8:0≤a0_1
    ·rw[if_pos c8] at H
     have c8b0:decide (0≤a0_1)=true:=decide_eq_true c8
     clear c8
     (first|rw[c8b0]|(simp only[i64_w,i32_w];rw[c8b0])|skip)
     by_cases c9:a0_1 < (l0_0.length:Int)
     ·rw[if_pos c9] at H
      have c9b0:decide (a0_1 < (l0_0.length:Int))=true:=decide_eq_true c9
      clear c9
      have H':=am H
      clear H
      obtain⟨hcz10_0,hcz10_1,hcz10_2⟩:=cC3 BK202.out
      obtain⟨hfz10_0,hfz10_1,hfz10_2⟩:=cF3 BK202.out
      go_wp2_with (first|((with_reducible refine gate_callee (f:=112) rfl ?_);refine goesA (some 6) rfl rfl Try.func112 #[.int .i64 (l0_0.length:Int)] rfl ?_;(with_reducible refine(impl_isWide.calls (l0_0.length:Int) true _ A4.out).mono ?_);rintro e w' ⟨rfl,⟨nd,rfl⟩⟩;refine⟨_,rfl,?_⟩)|(go_at_call 79;(with_reducible refine(impl_within.calls a0_1 0 (wrap64 ((l0_0.length:Int) - 1)) true _ A6.out).mono ?_);rintro e w' ⟨rfl,⟨nd,rfl⟩⟩;have p205:0≤(a0_1:Int):=bD_;have q205:a0_1 < (l0_0.length:Int):=bD_;obtain⟨ad205,e205,hx205_0⟩:=Kd.at_int HR0_0.out a0_1 p205 q205;cases e205;replace hx205_0:=bQ_ HB.out hx205_0;replace p205:=eq_true p205;replace q205:=eq_true q205))
      go_meet
      case rel=>exact⟨_,(((rd l0_0 a0_1) != 0)),(bR),H',⟨by first|omega|exact Nat.le_refl _⟩,⟨by(with_reducible repeat (first|refine blk_drewN ?_ _|refine blk_drew ?_|refine blk_alloc ?_ _));exact BK202.out⟩,⟨bS GE202.out⟩⟩
     ·rw[if_neg c9] at H
      exact absurd H (by simp)
    ·rw[if_neg c8] at H
     exact absurd H (by simp)
   ·replace c7:=Bool.eq_false_iff.mpr c7
    subst c7
    have H1:(impl_GoodSpray.j0 k true l0_0 a0_1 a0_2)=some r:=by rw[if_neg (show ¬ (false=true) by decide)] at H;exact H
    clear H
    have H:=H1
    clear H1
    have H':=am H
    clear H
    obtain⟨hcz11_0,hcz11_1,hcz11_2⟩:=cC3 BK202.out
    obtain⟨hfz11_0,hfz11_1,hfz11_2⟩:=cF3 BK202.out
    go_wp2_with (first|((with_reducible refine gate_callee (f:=112) rfl ?_);refine goesA (some 6) rfl rfl Try.func112 #[.int .i64 (l0_0.length:Int)] rfl ?_;(with_reducible refine(impl_isWide.calls (l0_0.length:Int) true _ A4.out).mono ?_);rintro e w' ⟨rfl,⟨nd,rfl⟩⟩;refine⟨_,rfl,?_⟩)|(go_at_call 79;(with_reducible refine(impl_within.calls a0_1 0 (wrap64 ((l0_0.length:Int) - 1)) false _ A6.out).mono ?_);rintro e w' ⟨rfl,⟨nd,rfl⟩⟩))
    go_meet
    case rel=>exact⟨_,(true),(bR),H',⟨by first|omega|exact Nat.le_refl _⟩,⟨by(with_reducible repeat (first|refine blk_drewN ?_ _|refine blk_drew ?_|refine blk_alloc ?_ _));exact BK202.out⟩,⟨bS GE202.out⟩⟩
  ·replace c5:=Bool.eq_false_iff.mpr c5
   subst c5
   have H1:(impl_GoodSpray.j0 k true l0_0 a0_1 a0_2)=some r:=by rw[if_neg (show ¬ (false=true) by decide)] at H;exact H
   clear H
   have H:=H1
   clear H1
   have H':=am H
   clear H
   obtain⟨hcz12_0,hcz12_1,hcz12_2⟩:=cC3 BK202.out
   obtain⟨hfz12_0,hfz12_1,hfz12_2⟩:=cF3 BK202.out
   go_wp2_with (first|((with_reducible refine gate_callee (f:=112) rfl ?_);refine goesA (some 6) rfl rfl Try.func112 #[.int .i64 (l0_0.length:Int)] rfl ?_;(with_reducible refine(impl_isWide.calls (l0_0.length:Int) false _ A4.out).mono ?_);rintro e w' ⟨rfl,⟨nd,rfl⟩⟩;refine⟨_,rfl,?_⟩))
   go_meet
   case rel=>exact⟨_,(true),(bR),H',⟨by first|omega|exact Nat.le_refl _⟩,⟨by(with_reducible repeat (first|refine blk_drewN ?_ _|refine blk_drew ?_|refine blk_alloc ?_ _));exact BK202.out⟩,⟨bS GE202.out⟩⟩
 case rest =>
  clear HC2
  try clear c1
  try clear p2
  try clear q2
  try clear hx2
  try clear c4
  try clear c5
  try clear p6
  try clear c7
  try clear c8
  try clear c8b0
  try clear c9
  try clear c9b0
  try clear c11
  try clear hcz10_0 hcz10_1 hcz10_2
  try clear hcz11_0 hcz11_1 hcz11_2
  try clear hcz12_0 hcz12_1 hcz12_2
  try clear hfz10_0 hfz10_1 hfz10_2
  try clear hfz11_0 hfz11_1 hfz11_2
  try clear hfz12_0 hfz12_1 hfz12_2
  try clear hx205_0
  try clear p205
  try clear q205
  obtain⟨kq,x26_1,rfl,HA,HJ1,BK202,HB⟩:=hcut
  cases kq with
  | zero=>exact absurd HA.out (by simp[impl_GoodSpray.j0])
  | succ kj1 =>
   have H:=HA.out
   clear HA
   simp only[impl_GoodSpray.j0] at H
   by_cases c13:x26_1=true
   ·subst c13
    have H1:(some false)=some r:=by rw[if_pos rfl] at H;exact H
    clear H
    have H:=H1
    clear H1
    obtain rfl:=Option.some.inj H
    go_wp2
    go_ret
    exact⟨bE,bS GE202.out⟩
   ·replace c13:=Bool.eq_false_iff.mpr c13
    subst c13
    have H1:((slices_ContainsFunc_int_int_impl_GoodSpray_lit1.f kj1 l0_0).bind fun t206=>(if t206=true then (some false) else ((impl_Spray_tokens.f kj1 l0_0 a0_1 a0_2).bind fun t207=>((impl_within.f t207 1 64).bind fun t208=>(some t208)))))=some r:=by rw[if_neg (show ¬ (false=true) by decide)] at H;exact H
    clear H
    have H:=H1
    clear H1
    replace H:=bI_ H
    obtain⟨t206,A140,H⟩:=H
    have A14:=am A140
    clear A140
    by_cases c15:t206=true
    ·subst c15
     have H1:(some false)=some r:=by rw[if_pos rfl] at H;exact H
     clear H
     have H:=H1
     clear H1
     obtain rfl:=Option.some.inj H
     obtain⟨hcz16_0,hcz16_1,hcz16_2⟩:=cC3 BK202.out
     obtain⟨hfz16_0,hfz16_1,hfz16_2⟩:=cF3 BK202.out
     go_wp2_with (first|((with_reducible refine gate_callee (f:=113) rfl ?_);refine goesA (some 29) rfl rfl Try.func113 #[.slice A0_0 l0_0.length c0_0,(.func (.func 114) #[] #[])] rfl ?_;(with_reducible refine(slices_ContainsFunc_int_int_impl_GoodSpray_lit1.calls kj1 _ _ l0_0  true _ ?side1 ?side2 A14.out).mono ?_);(case side1=>exact bC HR0_0.out);(case side2=>exact HC0_0.out);rintro e w' ⟨rfl,⟨nd,rfl⟩⟩;refine⟨_,rfl,?_⟩))
     go_ret
     exact⟨bE,bS GE202.out⟩
    ·replace c15:=Bool.eq_false_iff.mpr c15
     subst c15
     have H1:((impl_Spray_tokens.f kj1 l0_0 a0_1 a0_2).bind fun t207=>((impl_within.f t207 1 64).bind fun t208=>(some t208)))=some r:=by rw[if_neg (show ¬ (false=true) by decide)] at H;exact H
     clear H
     have H:=H1
     clear H1
     replace H:=bI_ H
     obtain⟨t207,A170,H⟩:=H
     have A17:=am A170
     clear A170
     replace H:=bI_ H
     obtain⟨t208,A180,H⟩:=H
     have A18:=am A180
     clear A180
     obtain rfl:=Option.some.inj H
     obtain⟨hcz19_0,hcz19_1,hcz19_2⟩:=cC3 BK202.out
     obtain⟨hfz19_0,hfz19_1,hfz19_2⟩:=cF3 BK202.out
     go_wp2_with (first|((with_reducible refine gate_callee (f:=113) rfl ?_);refine goesA (some 29) rfl rfl Try.func113 #[.slice A0_0 l0_0.length c0_0,(.func (.func 114) #[] #[])] rfl ?_;(with_reducible refine(slices_ContainsFunc_int_int_impl_GoodSpray_lit1.calls kj1 _ _ l0_0  false _ ?side1 ?side2 A14.out).mono ?_);(case side1=>exact bC HR0_0.out);(case side2=>exact HC0_0.out);rintro e w' ⟨rfl,⟨nd,rfl⟩⟩;refine⟨_,rfl,?_⟩)|(go_at_call 110;(with_reducible refine(impl_Spray_tokens.calls kj1 _ _ l0_0 a0_1 a0_2 t207 _ ?side1 ?side2 A17.out).mono ?_);(case side1=>repeat (first|exact(Kd.C_below HR0_0.out (bS GE202.out))|(with_reducible refine Kd.C_alloc ?_ _)|(with_reducible refine Kd.C_drewN ?_ _)|(with_reducible refine Kd.C_drew ?_)));(case side2=>exact HC0_0.out);rintro e w20 ⟨rfl,hb⟩;have n0_:=am (bM BK202.out hb);have n1_:=am (below_step (bS GE202.out) hb);clear BK202 HB;have BK202:=n0_;have HB:=n1_;clear n0_ n1_;(try clear hb);(try clear hb2);(try clear hk);(try clear hi))|(go_at_call 79;(with_reducible refine(impl_within.calls t207 1 64 t208 _ A18.out).mono ?_);rintro e w' ⟨rfl,⟨nd,rfl⟩⟩))
     go_ret
     exact⟨bE,bS GE202.out⟩

/-! ### slices_Clone_int_int: function 98 -/
def slices_Clone_int_int.f (l0:List Int):Option (List Int):=(some (([]:List Int):List Int)).bind fun y209=>(if y209.length+l0.length < 17592186044416 then (some (y209++l0)) else (none))
set_option maxHeartbeats 8000000 in
set_option maxRecDepth 100000 in
theorem slices_Clone_int_int.calls (A0:Option Addr) (c0:Nat) (l0:List Int) (r:List Int) (w:World) (hr0:Kd.C (Kd.int .i64) w A0 l0.length l0) (hc0:l0.length≤c0) (h:slices_Clone_int_int.f l0=some r) :
  Calls Try.prog 98 #[.slice A0 l0.length c0] w fun e w' => ∃ v0_:Value,e=.returned (v0_)∧Kd.R (Kd.int .i64) 3 w' w.heap.size (fun _=>True) v0_ r∧Below w.heap.size w w':=by
 have HR0:=am hr0
 have HC0:=am hc0
 clear hr0 hc0
 by_cases hA_:A0=none
 ·have h0_:l0=[]:=by
   have z_:=HR0.out
   rw[hA_] at z_
   cases l0 with
   | nil=>rfl
   | cons x_ xs_ =>
    obtain⟨ad_,e_,_⟩:=z_.2.2 (by simp)
    cases e_
  subst hA_
  subst h0_
  have hr_:r=[]:=by simpa [slices_Clone_int_int.f] using h.symm
  subst hr_
  have hq_ : ∀ (w:World) (n c:Nat),(binOp .eql 37 (.slice none n c) (.slice none 0 0)).run Try.prog w=.ok (.bool true) w:=fun w n c=>by
   rw[Lib.run_eql_slice_nil w _ _ _ _ _ _ _ Try.underlying37]
   rfl
  go_enter Try.func98,Try.ntmps98
  go_wp2
  go_ret
  exact⟨_,rfl,Kd.R_nil _ _ _ _ _,Below.refl _ _⟩
 have hq_ : ∀ w,(binOp .eql 37 (.slice A0 l0.length c0) (.slice none 0 0)).run Try.prog w=.ok (.bool false) w:=fun w=>by
  rw[Lib.run_eql_slice_nil w _ _ _ _ _ _ _ Try.underlying37]
  cases A0 with
  | none=>exact absurd rfl hA_
  | some _=>rfl
 have HB:=am (Below.refl w.heap.size w)
 have H:((some (([]:List Int):List Int)).bind fun y209=>(if y209.length+l0.length < 17592186044416 then (some (y209++l0)) else (none)))=some r:=h
 clear h
 obtain⟨y209,hy209⟩ : ∃ y_:List Int,y_=(([]:List Int)):=⟨_,rfl⟩
 replace H:(if y209.length+l0.length < 17592186044416 then (some (y209++l0)) else (none))=some r:=by first|(rw[hy209];with_reducible exact H)|(have H2_:=(Option.bind_some _ _).symm.trans H;rw[hy209];with_reducible exact H2_)|(have H2_:=(Option.bind_some _ _).symm.trans H;with_reducible exact H2_)|with_reducible exact H|(rw[hy209];exact H)|exact H
 have Ny209:=am hy209
 clear hy209
 by_cases c2:y209.length+l0.length < 17592186044416
 ·rw[if_pos c2] at H
  have LMc2:=am c2
  clear c2
  obtain⟨y212,hy212⟩ : ∃ y_:List Int,y_=(y209++l0):=⟨_,rfl⟩
  replace H:(some y212)=some r:=by first|(rw[hy212];with_reducible exact H)|(have H2_:=(Option.bind_some _ _).symm.trans H;rw[hy212];with_reducible exact H2_)|(have H2_:=(Option.bind_some _ _).symm.trans H;with_reducible exact H2_)|with_reducible exact H|(rw[hy212];exact H)|exact H
  have Ny212:=am hy212
  clear hy212
  obtain rfl:=Option.some.inj H
  go_enter Try.func98,Try.ntmps98
  go_wp2_with (first|((with_reducible refine gate_dst (N:=5) rfl ?_);refine Kd.R_lit (Kd.int .i64) _ 3 ?hg (N:=5) ?hd (xs:=([]:List Int)) (inner:=[]) (ok:=fun _=>True) (okp:=fun _=>True) ?hr ?hp (fun _ hk=>hk) trivial (Below.refl _ _) (Nat.le_refl _) (by simp) ?_;(case hd=>rfl);(case hg=>rfl);(case hr=>first|(go_simp;done)|(go_simp;rfl));(case hp=>exact(Reps.none _ _));intro v210 w3 ho4 hb hg_ hnew_;clear hg_ hnew_;(first|rw[← Ny209.out] at ho4|(simp only[Int.reduceToNat] at ho4;rw[← Ny209.out] at ho4));have n0_:=am (Kd.R_lower ho4 (below_size (bB)));have n1_:=am (below_step (bB) hb);clear HB;have HO211:=n0_;have HB:=n1_;clear n0_ n1_;clear hb ho4)|((with_reducible refine gate_builtin (b:=.append) (xs:=#[.tmp 5,.tmp 6]) rfl ?_);at_builtin;refine Kd.R_append_rows (Kd.int .i64) (w0:=w) w.heap.size rfl (.tmp 5) (.tmp 6) 37 3 (.int .i64 0) 8 rfl Try.underlying37 info3 rfl (b17_) (by omega) v210 y209 l0 _ _ _ (fun _=>True) (fun _=>False) rfl rfl ?aO ?aR (fun _ _ h=>h) (fun _ h=>h.elim) ?aF ?aB ?aS ?aL ?_;(case aR=>exact bC HR0.out);(case aB=>exact(bB));(case aF=>exact(fun _ _=>trivial));(case aO=>exact(bK HO211.out));(case aS=>exact(below_size (bB)));(case aL=>have:=LMc2.out;omega);intro v213 w5 ho hb hg hat;rw[← Ny212.out] at ho;have n0_:=am (hb);have n1_:=am (ho);clear HB HO211;have HB:=n0_;have HO214:=n1_;clear n0_ n1_;clear ho hb hg hat))
  go_ret
  exact⟨_,by first|rfl|(simp[errW_none,errW_some]<;>rfl)|(simp[*,errW_none,errW_some]<;>rfl),by(with_reducible repeat (first|apply Kd.R_alloc|apply Kd.R_drewN|apply Kd.R_drew));exact HO214.out,bB⟩
 ·rw[if_neg c2] at H
  exact absurd H (by simp)

end Go.Proofs.Yteneeohaoplpbaa.XFnSpray
