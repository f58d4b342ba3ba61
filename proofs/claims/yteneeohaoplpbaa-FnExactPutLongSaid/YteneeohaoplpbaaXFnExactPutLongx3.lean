-- Written by this session's own program (wip/xprint.py) out of the translation; Lean checks it.
import Derived.Test.YteneeohaoplpbaaXFnExactPutLongx0
import Derived.Test.YteneeohaoplpbaaXFnExactPutLongx2
namespace Go.Proofs.Yteneeohaoplpbaa.XFnExactPutLong
open Go.RowKit Go.Proofs.YteneeohaoplpbaaW.PrintWords Go.Proofs.YteneeohaoplpbaaW.PrintLast Go.Proofs.YteneeohaoplpbaaW.PrintMore
attribute [local go_sem] max2_int min2_int max_two min_two max_three min_three max_four min_four   -- for this text's walks alone
set_option linter.unusedVariables false
set_option linter.unusedSimpArgs false

/-! ### slices_IndexFunc_int_int_impl_GoodTurns_lit1: function 148 -/
def slices_IndexFunc_int_int_impl_GoodTurns_lit1.l0:Nat→List Int→Int→Int→Option (Int)
 | 0,_,_,_=>none
 | k+1,x0,x7,x8=>if x8 < x7 then (if 0≤x8 then (if x8 < (x0.length:Int) then ((impl_GoodTurns_lit1.f (rd x0 x8)).bind fun t184=>(if t184=true then (some x8) else (slices_IndexFunc_int_int_impl_GoodTurns_lit1.l0 k x0 x7 (wrap64 (x8+1))))) else (none)) else (none)) else (some (-1))
def slices_IndexFunc_int_int_impl_GoodTurns_lit1.f (k:Nat) (l0:List Int)  : Option (Int):=slices_IndexFunc_int_int_impl_GoodTurns_lit1.l0 k l0 (l0.length:Int) 0
theorem slices_IndexFunc_int_int_impl_GoodTurns_lit1.mono_l : ∀ k,(∀ y0 y1 y2,LeO (slices_IndexFunc_int_int_impl_GoodTurns_lit1.l0 k y0 y1 y2) (slices_IndexFunc_int_int_impl_GoodTurns_lit1.l0 (k+1) y0 y1 y2))
 | 0=>fun _ _ _ r h=>by simp[slices_IndexFunc_int_int_impl_GoodTurns_lit1.l0] at h
 | k+1=>by
  have ih0:=slices_IndexFunc_int_int_impl_GoodTurns_lit1.mono_l k
  ·intro y0 y1 y2
   unfold slices_IndexFunc_int_int_impl_GoodTurns_lit1.l0
   repeat' first
   | (with_reducible exact ih0 _ _ _)
   | (with_reducible exact LeO.refl _)
   | (with_reducible exact LeO.none _)
   | (with_reducible refine LeO.ite ?_ ?_)
   | (with_reducible refine LeO.bind ?_ (fun _ => ?_))
   | exact ih0 _ _ _
   | exact LeO.none _
   | refine LeO.ite ?_ ?_
   | refine LeO.bind ?_ (fun _ => ?_)
theorem slices_IndexFunc_int_int_impl_GoodTurns_lit1.mono : ∀ a0 k,LeO (slices_IndexFunc_int_int_impl_GoodTurns_lit1.f k a0) (slices_IndexFunc_int_int_impl_GoodTurns_lit1.f (k+1) a0):=by
 intro a0 k
 have ih0:=slices_IndexFunc_int_int_impl_GoodTurns_lit1.mono_l k
 unfold slices_IndexFunc_int_int_impl_GoodTurns_lit1.f
 repeat' first
  | (with_reducible exact ih0 _ _ _)
  | (with_reducible exact LeO.refl _)
  | (with_reducible exact LeO.none _)
  | (with_reducible refine LeO.ite ?_ ?_)
  | (with_reducible refine LeO.bind ?_ (fun _ => ?_))
  | exact ih0 _ _ _
  | exact LeO.none _
  | refine LeO.ite ?_ ?_
  | refine LeO.bind ?_ (fun _ => ?_)
set_option maxHeartbeats 8000000 in
set_option maxRecDepth 100000 in
theorem slices_IndexFunc_int_int_impl_GoodTurns_lit1.calls (k:Nat) (A0:Option Addr) (c0:Nat) (l0:List Int)  (r:Int) (w:World) (hr0:Kd.C (Kd.int .i64) w A0 l0.length l0) (hc0:l0.length≤c0) (h:slices_IndexFunc_int_int_impl_GoodTurns_lit1.f k l0=some r) :
  Calls Try.prog 148 #[.slice A0 l0.length c0,(.func (.func 141) #[] #[])] w fun e w'=>e=.returned (.int .i64 r)∧Drawn0 w w':=by
 have HR0:=Aside0.mk hr0
 have HC0:=Aside0.mk hc0
 clear hr0 hc0
 have H:(slices_IndexFunc_int_int_impl_GoodTurns_lit1.l0 k l0 (l0.length:Int) 0)=some r:=h
 clear h
 have H':=Aside0.mk H
 clear H
 go_enter Try.func148,Try.ntmps148
 go_wp2
 go_loopg [8] k (fun kq v8 w' => ∃ (x8_1:Int),v8=.int .i64 x8_1∧Aside0 (slices_IndexFunc_int_int_impl_GoodTurns_lit1.l0 kq l0 (l0.length:Int) x8_1=some r)∧Aside0 (kq≤k)∧Drawn0 w w')
 case atStart=>exact⟨(0),(bR),H',⟨Nat.le_refl _⟩,bW⟩
 case round =>
  clear H'
  try clear p2
  obtain⟨x8_1,rfl,HA,HK1,⟨m1,rfl⟩⟩:=hrel
  cases gk with
  | zero=>exact absurd HA.out (by simp[slices_IndexFunc_int_int_impl_GoodTurns_lit1.l0])
  | succ k1 =>
   have H:=HA.out
   clear HA
   simp only[slices_IndexFunc_int_int_impl_GoodTurns_lit1.l0] at H
   by_cases c3:x8_1 < (l0.length:Int)
   ·rw[if_pos c3] at H
    have c3b0:decide (x8_1 < (l0.length:Int))=true:=decide_eq_true c3
    clear c3
    by_cases c4:0≤x8_1
    ·rw[if_pos c4] at H
     have c4b0:decide (0≤x8_1)=true:=decide_eq_true c4
     clear c4
     by_cases c5:x8_1 < (l0.length:Int)
     ·rw[if_pos c5] at H
      have c5b0:decide (x8_1 < (l0.length:Int))=true:=decide_eq_true c5
      clear c5
      replace H:=Option.bind_eq_some_iff.mp H
      obtain⟨t184,A60,H⟩:=H
      replace H:(if t184=true then (some x8_1) else (slices_IndexFunc_int_int_impl_GoodTurns_lit1.l0 k1 l0 (l0.length:Int) (wrap64 (x8_1+1))))=some r:=H
      have A6:=Aside0.mk A60
      clear A60
      by_cases c7:t184=true
      ·subst c7
       have H1:(some x8_1)=some r:=by rw[if_pos rfl] at H;exact H
       clear H
       have H:=H1
       clear H1
       obtain rfl:=Option.some.inj H
       have p183:0≤(x8_1:Int):=of_decide_eq_true (bD)
       have q183:x8_1 < (l0.length:Int):=of_decide_eq_true (bD)
       obtain⟨ad183,e183,hx183_0⟩:=Kd.at_int HR0.out x8_1 p183 q183
       cases e183
       replace p183:=eq_true p183
       replace q183:=eq_true q183
       go_wp2_with (first|(go_at_call 141;(with_reducible refine(impl_GoodTurns_lit1.calls (rd l0 x8_1) true _ A6.out).mono ?_);rintro e w' ⟨rfl,⟨nd,rfl⟩⟩))
       go_ret
       exact⟨bR,bW⟩
      ·replace c7:=Bool.eq_false_iff.mpr c7
       subst c7
       have H1:(slices_IndexFunc_int_int_impl_GoodTurns_lit1.l0 k1 l0 (l0.length:Int) (wrap64 (x8_1+1)))=some r:=by rw[if_neg (show ¬ (false=true) by decide)] at H;exact H
       clear H
       have H:=H1
       clear H1
       have H':=Aside0.mk H
       clear H
       have p183:0≤(x8_1:Int):=of_decide_eq_true (bD)
       have q183:x8_1 < (l0.length:Int):=of_decide_eq_true (bD)
       obtain⟨ad183,e183,hx183_0⟩:=Kd.at_int HR0.out x8_1 p183 q183
       cases e183
       replace p183:=eq_true p183
       replace q183:=eq_true q183
       go_wp2_with (first|(go_at_call 141;(with_reducible refine(impl_GoodTurns_lit1.calls (rd l0 x8_1) false _ A6.out).mono ?_);rintro e w' ⟨rfl,⟨nd,rfl⟩⟩))
       go_roundg k1
       case measure=>have:=HK1.out;omega
       case rel=>exact⟨(wrap64 (x8_1+1)),(bR),H',⟨by have:=HK1.out;omega⟩,bW⟩
     ·rw[if_neg c5] at H
      exact absurd H (by simp)
    ·rw[if_neg c4] at H
     exact absurd H (by simp)
   ·rw[if_neg c3] at H
    have c3b0:decide (x8_1 < (l0.length:Int))=false:=decide_eq_false c3
    clear c3
    obtain rfl:=Option.some.inj H
    go_wp2
    go_ret
    exact⟨bR,bW⟩

/-! ### slices_ContainsFunc_int_int_impl_GoodTurns_lit1: function 113 -/
def slices_ContainsFunc_int_int_impl_GoodTurns_lit1.f (k:Nat) (l0:List Int)  : Option (Bool):=(slices_IndexFunc_int_int_impl_GoodTurns_lit1.f k l0).bind fun t185=>(some (decide (t185 ≥ 0)))
theorem slices_ContainsFunc_int_int_impl_GoodTurns_lit1.mono : ∀ a0 k,LeO (slices_ContainsFunc_int_int_impl_GoodTurns_lit1.f k a0) (slices_ContainsFunc_int_int_impl_GoodTurns_lit1.f (k+1) a0):=by
 intro a0 k
 unfold slices_ContainsFunc_int_int_impl_GoodTurns_lit1.f
 repeat' first
  | (with_reducible exact slices_IndexFunc_int_int_impl_GoodTurns_lit1.mono _ _)
  | (with_reducible exact LeO.refl _)
  | (with_reducible exact LeO.none _)
  | (with_reducible refine LeO.ite ?_ ?_)
  | (with_reducible refine LeO.bind ?_ (fun _ => ?_))
  | exact slices_IndexFunc_int_int_impl_GoodTurns_lit1.mono _ _
  | exact LeO.none _
  | refine LeO.ite ?_ ?_
  | refine LeO.bind ?_ (fun _ => ?_)
set_option maxHeartbeats 8000000 in
set_option maxRecDepth 100000 in
theorem slices_ContainsFunc_int_int_impl_GoodTurns_lit1.calls (k:Nat) (A0:Option Addr) (c0:Nat) (l0:List Int)  (r:Bool) (w:World) (hr0:Kd.C (Kd.int .i64) w A0 l0.length l0) (hc0:l0.length≤c0) (h:slices_ContainsFunc_int_int_impl_GoodTurns_lit1.f k l0=some r) :
  Calls Try.prog 113 #[.slice A0 l0.length c0,(.func (.func 141) #[] #[])] w fun e w'=>e=.returned (.bool r)∧Drawn0 w w':=by
 have HR0:=Aside0.mk hr0
 have HC0:=Aside0.mk hc0
 clear hr0 hc0
 have H:((slices_IndexFunc_int_int_impl_GoodTurns_lit1.f k l0).bind fun t185=>(some (decide (t185 ≥ 0))))=some r:=h
 clear h
 replace H:=Option.bind_eq_some_iff.mp H
 obtain⟨t185,A30,H⟩:=H
 replace H:(some (decide (t185 ≥ 0)))=some r:=H
 have A3:=Aside0.mk A30
 clear A30
 obtain rfl:=Option.some.inj H
 go_enter Try.func113,Try.ntmps113
 go_wp2_with (first|((with_reducible refine gate_callee (f:=148) rfl ?_);refine goesA (some 7) rfl rfl Try.func148 #[.slice A0 l0.length c0,(.func (.func 141) #[] #[])] rfl ?_;(with_reducible refine(slices_IndexFunc_int_int_impl_GoodTurns_lit1.calls k _ _ l0  t185 _ ?side1 ?side2 A3.out).mono ?_);(case side1=>repeat (first|exact HR0.out|(with_reducible refine Kd.C_alloc ?_ _)|(with_reducible refine Kd.C_drewN ?_ _)|(with_reducible refine Kd.C_drew ?_)));(case side2=>exact HC0.out);rintro e w' ⟨rfl,⟨nd,rfl⟩⟩;refine⟨_,rfl,?_⟩))
 go_ret
 exact⟨bR,bW⟩

/-! ### impl_GoodTurns: function 78 -/
mutual
def impl_GoodTurns.j0:Nat→Bool→Int→List (S116)→Int→Option (Bool)
 | 0,_,_,_,_=>none
 | k+1,x21,x187000,x187001,x187002=>if x21=true then (some false) else (impl_GoodTurns.l0 k x187001 (x187001.length:Int) 0)
def impl_GoodTurns.l0:Nat→List (S116)→Int→Int→Option (Bool)
 | 0,_,_,_=>none
 | k+1,x23,x24,x25=>if x25 < x24 then (if 0≤x25 then (if x25 < (x23.length:Int) then (if (((rd_T116 x23 x25).f0).length:Int) > 40 then (some false) else ((slices_ContainsFunc_int_int_impl_GoodTurns_lit1.f k ((rd_T116 x23 x25).f0)).bind fun t192=>(if t192=true then (some false) else ((impl_within.f ((rd_T116 x23 x25).f1) 0 100).bind fun t193=>(if t193=true then ((impl_isTime.f ((rd_T116 x23 x25).f2)).bind fun t194=>(if t194=true then (if (((rd_T116 x23 x25).f0).length:Int)=0 then (if ((rd_T116 x23 x25).f1)=0 then (impl_GoodTurns.l0 k x23 x24 (wrap64 (x25+1))) else (some false)) else (impl_GoodTurns.l0 k x23 x24 (wrap64 (x25+1)))) else (some false))) else (some false)))))) else (none)) else (none)) else (some true)
end
def impl_GoodTurns.f (k:Nat) (a0_0:Int) (l0_1:List (S116)) (a0_2:Int):Option (Bool):=(impl_within.f a0_0 1 50).bind fun t187=>(if t187=true then ((impl_within.f (l0_1.length:Int) 1 6).bind fun t188=>(if t188=true then ((impl_isTime.f a0_2).bind fun t189=>(impl_GoodTurns.j0 k (!t189) a0_0 l0_1 a0_2)) else (impl_GoodTurns.j0 k true a0_0 l0_1 a0_2))) else (impl_GoodTurns.j0 k true a0_0 l0_1 a0_2))
theorem impl_GoodTurns.mono_l : ∀ k,(∀ y0 y1 y2 y3,LeO (impl_GoodTurns.j0 k y0 y1 y2 y3) (impl_GoodTurns.j0 (k+1) y0 y1 y2 y3))∧(∀ y0 y1 y2,LeO (impl_GoodTurns.l0 k y0 y1 y2) (impl_GoodTurns.l0 (k+1) y0 y1 y2))
 | 0=>⟨fun _ _ _ _ r h=>by simp[impl_GoodTurns.j0] at h,fun _ _ _ r h=>by simp[impl_GoodTurns.l0] at h⟩
 | k+1=>by
  obtain⟨ih0,ih1⟩:=impl_GoodTurns.mono_l k
  refine⟨?_,?_⟩
  ·intro y0 y1 y2 y3
   unfold impl_GoodTurns.j0
   repeat' first
   | (with_reducible exact ih0 _ _ _ _)
   | (with_reducible exact ih1 _ _ _)
   | (with_reducible exact slices_ContainsFunc_int_int_impl_GoodTurns_lit1.mono _ _)
   | (with_reducible exact LeO.refl _)
   | (with_reducible exact LeO.none _)
   | (with_reducible refine LeO.ite ?_ ?_)
   | (with_reducible refine LeO.bind ?_ (fun _ => ?_))
   | exact ih0 _ _ _ _
   | exact ih1 _ _ _
   | exact slices_ContainsFunc_int_int_impl_GoodTurns_lit1.mono _ _
   | exact LeO.none _
   | refine LeO.ite ?_ ?_
   | refine LeO.bind ?_ (fun _ => ?_)
  ·intro y0 y1 y2
   unfold impl_GoodTurns.l0
   repeat' first
   | (with_reducible exact ih0 _ _ _ _)
   | (with_reducible exact ih1 _ _ _)
   | (with_reducible exact slices_ContainsFunc_int_int_impl_GoodTurns_lit1.mono _ _)
   | (with_reducible exact LeO.refl _)
   | (with_reducible exact LeO.none _)
   | (with_reducible refine LeO.ite ?_ ?_)
   | (with_reducible refine LeO.bind ?_ (fun _ => ?_))
   | exact ih0 _ _ _ _
   | exact ih1 _ _ _
   | exact slices_ContainsFunc_int_int_impl_GoodTurns_lit1.mono _ _
   | exact LeO.none _
   | refine LeO.ite ?_ ?_
   | refine LeO.bind ?_ (fun _ => ?_)
theorem impl_GoodTurns.mono : ∀ a0 a1 a2 k,LeO (impl_GoodTurns.f k a0 a1 a2) (impl_GoodTurns.f (k+1) a0 a1 a2):=by
 intro a0 a1 a2 k
 obtain⟨ih0,ih1⟩:=impl_GoodTurns.mono_l k
 unfold impl_GoodTurns.f
 repeat' first
  | (with_reducible exact ih0 _ _ _ _)
  | (with_reducible exact ih1 _ _ _)
  | (with_reducible exact slices_ContainsFunc_int_int_impl_GoodTurns_lit1.mono _ _)
  | (with_reducible exact LeO.refl _)
  | (with_reducible exact LeO.none _)
  | (with_reducible refine LeO.ite ?_ ?_)
  | (with_reducible refine LeO.bind ?_ (fun _ => ?_))
  | exact ih0 _ _ _ _
  | exact ih1 _ _ _
  | exact slices_ContainsFunc_int_int_impl_GoodTurns_lit1.mono _ _
  | exact LeO.none _
  | refine LeO.ite ?_ ?_
  | refine LeO.bind ?_ (fun _ => ?_)
set_option maxHeartbeats 8000000 in
set_option maxRecDepth 100000 in
theorem impl_GoodTurns.calls (k:Nat) (a0_0:Int) (A0_1:Option Addr) (c0_1:Nat) (l0_1:List (S116)) (a0_2:Int) (r:Bool) (w:World) (hr0_1:Kd.C k116 w A0_1 l0_1.length l0_1) (hc0_1:l0_1.length≤c0_1) (h:impl_GoodTurns.f k a0_0 l0_1 a0_2=some r) :
  Calls Try.prog 78 #[.agg #[.int .i64 a0_0,.slice A0_1 l0_1.length c0_1,.int .i64 a0_2]] w fun e w'=>e=.returned (.bool r)∧Below w.heap.size w w':=by
 have hu28:=Try.underlying28
 have hu116:=Try.underlying116
 have HR0_1:=Aside0.mk hr0_1
 have HC0_1:=Aside0.mk hc0_1
 clear hr0_1 hc0_1
 have HB:=Aside0.mk (Below.refl w.heap.size w)
 have H:((impl_within.f a0_0 1 50).bind fun t187=>(if t187=true then ((impl_within.f (l0_1.length:Int) 1 6).bind fun t188=>(if t188=true then ((impl_isTime.f a0_2).bind fun t189=>(impl_GoodTurns.j0 k (!t189) a0_0 l0_1 a0_2)) else (impl_GoodTurns.j0 k true a0_0 l0_1 a0_2))) else (impl_GoodTurns.j0 k true a0_0 l0_1 a0_2)))=some r:=h
 clear h
 have HC2:=Aside0.mk H
 clear H
 go_enter Try.func78,Try.ntmps78
 go_upto_region 1 with (first|((with_reducible refine gate_dst (N:=1) rfl ?_);(try (refine gate_guard (by rfl) ?_;dsimp only));refine box_event ?hg (N:=1) ?hd (cs:=#[.int .i64 a0_0,.slice A0_1 l0_1.length c0_1,.int .i64 a0_2]) (t:=28) ?hr ?_;(case hd=>rfl);(case hg=>rfl);(case hr=>first|(go_simp;done)|(go_simp;rfl));intro gb186 hg w3 hbox hb;have n0_:=Aside0.mk (below_step (bB) hb);have n1_:=Aside0.mk (hbox);have n2_:=Aside0.mk ((bG:w.heap.size≤gb186));have n3_:=Aside0.mk ((bG:w.heap.size≤gb186));clear HB;have HB:=n0_;have BK186:=n1_;have GW186:=n2_;have GE186:=n3_;clear n0_ n1_ n2_ n3_;clear hb hbox hg))
 (try simp only[Act.put,List.setIfInBounds_toArray,List.set_cons_zero,List.set_cons_succ])
 go_cut [21] (fun v21 wc => ∃ (kq:Nat) (x21_1:Bool),v21=.bool x21_1∧Aside0 (impl_GoodTurns.j0 kq x21_1 a0_0 l0_1 a0_2=some r)∧Aside0 (kq≤k)∧Aside0 (wc.heap[gb186]?=some (.cells #[.int .i64 a0_0,(.slice A0_1 l0_1.length c0_1),.int .i64 a0_2] 28 (0,0)))∧Aside0 (Below w.heap.size w wc))
 case first =>
  have H:=HC2.out
  clear HC2
  replace H:=Option.bind_eq_some_iff.mp H
  obtain⟨t187,A40,H⟩:=H
  replace H:(if t187=true then ((impl_within.f (l0_1.length:Int) 1 6).bind fun t188=>(if t188=true then ((impl_isTime.f a0_2).bind fun t189=>(impl_GoodTurns.j0 k (!t189) a0_0 l0_1 a0_2)) else (impl_GoodTurns.j0 k true a0_0 l0_1 a0_2))) else (impl_GoodTurns.j0 k true a0_0 l0_1 a0_2))=some r:=H
  have A4:=Aside0.mk A40
  clear A40
  by_cases c5:t187=true
  ·subst c5
   have H1:((impl_within.f (l0_1.length:Int) 1 6).bind fun t188=>(if t188=true then ((impl_isTime.f a0_2).bind fun t189=>(impl_GoodTurns.j0 k (!t189) a0_0 l0_1 a0_2)) else (impl_GoodTurns.j0 k true a0_0 l0_1 a0_2)))=some r:=by rw[if_pos rfl] at H;exact H
   clear H
   have H:=H1
   clear H1
   replace H:=Option.bind_eq_some_iff.mp H
   obtain⟨t188,A60,H⟩:=H
   replace H:(if t188=true then ((impl_isTime.f a0_2).bind fun t189=>(impl_GoodTurns.j0 k (!t189) a0_0 l0_1 a0_2)) else (impl_GoodTurns.j0 k true a0_0 l0_1 a0_2))=some r:=H
   have A6:=Aside0.mk A60
   clear A60
   by_cases c7:t188=true
   ·subst c7
    have H1:((impl_isTime.f a0_2).bind fun t189=>(impl_GoodTurns.j0 k (!t189) a0_0 l0_1 a0_2))=some r:=by rw[if_pos rfl] at H;exact H
    clear H
    have H:=H1
    clear H1
    replace H:=Option.bind_eq_some_iff.mp H
    obtain⟨t189,A80,H⟩:=H
    replace H:(impl_GoodTurns.j0 k (!t189) a0_0 l0_1 a0_2)=some r:=H
    have A8:=Aside0.mk A80
    clear A80
    have H':=Aside0.mk H
    clear H
    obtain⟨hcz9_0,hcz9_1,hcz9_2⟩:=cC3 BK186.out
    obtain⟨hfz9_0,hfz9_1,hfz9_2⟩:=cF3 BK186.out
    go_wp2_with (first|((with_reducible refine gate_callee (f:=79) rfl ?_);refine goesA (some 7) rfl rfl Try.func79 #[.int .i64 a0_0,.int .i64 1,.int .i64 50] rfl ?_;(with_reducible refine(impl_within.calls a0_0 1 50 true _ A4.out).mono ?_);rintro e w' ⟨rfl,⟨nd,rfl⟩⟩;refine⟨_,rfl,?_⟩)|(go_at_call 79;(with_reducible refine(impl_within.calls (l0_1.length:Int) 1 6 true _ A6.out).mono ?_);rintro e w' ⟨rfl,⟨nd,rfl⟩⟩)|(go_at_call 140;(with_reducible refine(impl_isTime.calls a0_2 t189 _ A8.out).mono ?_);rintro e w' ⟨rfl,⟨nd,rfl⟩⟩))
    go_meet
    case rel=>exact⟨_,(!t189),(bR),H',⟨by first|omega|exact Nat.le_refl _⟩,⟨by(with_reducible repeat (first|refine blk_drewN ?_ _|refine blk_drew ?_|refine blk_alloc ?_ _));exact BK186.out⟩,⟨bS GE186.out⟩⟩
   ·replace c7:=Bool.eq_false_iff.mpr c7
    subst c7
    have H1:(impl_GoodTurns.j0 k true a0_0 l0_1 a0_2)=some r:=by rw[if_neg (show ¬ (false=true) by decide)] at H;exact H
    clear H
    have H:=H1
    clear H1
    have H':=Aside0.mk H
    clear H
    obtain⟨hcz10_0,hcz10_1,hcz10_2⟩:=cC3 BK186.out
    obtain⟨hfz10_0,hfz10_1,hfz10_2⟩:=cF3 BK186.out
    go_wp2_with (first|((with_reducible refine gate_callee (f:=79) rfl ?_);refine goesA (some 7) rfl rfl Try.func79 #[.int .i64 a0_0,.int .i64 1,.int .i64 50] rfl ?_;(with_reducible refine(impl_within.calls a0_0 1 50 true _ A4.out).mono ?_);rintro e w' ⟨rfl,⟨nd,rfl⟩⟩;refine⟨_,rfl,?_⟩)|(go_at_call 79;(with_reducible refine(impl_within.calls (l0_1.length:Int) 1 6 false _ A6.out).mono ?_);rintro e w' ⟨rfl,⟨nd,rfl⟩⟩))
    go_meet
    case rel=>exact⟨_,(true),(bR),H',⟨by first|omega|exact Nat.le_refl _⟩,⟨by(with_reducible repeat (first|refine blk_drewN ?_ _|refine blk_drew ?_|refine blk_alloc ?_ _));exact BK186.out⟩,⟨bS GE186.out⟩⟩
  ·replace c5:=Bool.eq_false_iff.mpr c5
   subst c5
   have H1:(impl_GoodTurns.j0 k true a0_0 l0_1 a0_2)=some r:=by rw[if_neg (show ¬ (false=true) by decide)] at H;exact H
   clear H
   have H:=H1
   clear H1
   have H':=Aside0.mk H
   clear H
   obtain⟨hcz11_0,hcz11_1,hcz11_2⟩:=cC3 BK186.out
   obtain⟨hfz11_0,hfz11_1,hfz11_2⟩:=cF3 BK186.out
   go_wp2_with (first|((with_reducible refine gate_callee (f:=79) rfl ?_);refine goesA (some 7) rfl rfl Try.func79 #[.int .i64 a0_0,.int .i64 1,.int .i64 50] rfl ?_;(with_reducible refine(impl_within.calls a0_0 1 50 false _ A4.out).mono ?_);rintro e w' ⟨rfl,⟨nd,rfl⟩⟩;refine⟨_,rfl,?_⟩))
   go_meet
   case rel=>exact⟨_,(true),(bR),H',⟨by first|omega|exact Nat.le_refl _⟩,⟨by(with_reducible repeat (first|refine blk_drewN ?_ _|refine blk_drew ?_|refine blk_alloc ?_ _));exact BK186.out⟩,⟨bS GE186.out⟩⟩
 case rest =>
  clear HC2
  try clear p2
  try clear c5
  try clear c7
  try clear hcz10_0 hcz10_1 hcz10_2
  try clear hcz11_0 hcz11_1 hcz11_2
  try clear hcz9_0 hcz9_1 hcz9_2
  try clear hfz10_0 hfz10_1 hfz10_2
  try clear hfz11_0 hfz11_1 hfz11_2
  try clear hfz9_0 hfz9_1 hfz9_2
  obtain⟨kq,x21_1,rfl,HA,HJ1,BK186,HB⟩:=hcut
  cases kq with
  | zero=>exact absurd HA.out (by simp[impl_GoodTurns.j0])
  | succ kj1 =>
   have H:=HA.out
   clear HA
   simp only[impl_GoodTurns.j0] at H
   by_cases c12:x21_1=true
   ·subst c12
    have H1:(some false)=some r:=by rw[if_pos rfl] at H;exact H
    clear H
    have H:=H1
    clear H1
    obtain rfl:=Option.some.inj H
    go_wp2
    go_ret
    exact⟨bE,bS GE186.out⟩
   ·replace c12:=Bool.eq_false_iff.mpr c12
    subst c12
    have H1:(impl_GoodTurns.l0 kj1 l0_1 (l0_1.length:Int) 0)=some r:=by rw[if_neg (show ¬ (false=true) by decide)] at H;exact H
    clear H
    have H:=H1
    clear H1
    have H':=Aside0.mk H
    clear H
    obtain⟨hcz13_0,hcz13_1,hcz13_2⟩:=cC3 BK186.out
    obtain⟨hfz13_0,hfz13_1,hfz13_2⟩:=cF3 BK186.out
    go_wp2
    go_loopg [25] kj1 (fun kq v25 w' => ∃ (x25_2:Int),v25=.int .i64 x25_2∧Aside0 (impl_GoodTurns.l0 kq l0_1 (l0_1.length:Int) x25_2=some r)∧Aside0 (kq≤kj1)∧Aside0 (w'.heap[gb186]?=some (.cells #[.int .i64 a0_0,(.slice A0_1 l0_1.length c0_1),.int .i64 a0_2] 28 (0,0)))∧Aside0 (Below w.heap.size w w'))
    case atStart=>exact⟨(0),(bR),H',⟨Nat.le_refl _⟩,⟨by(with_reducible repeat (first|refine blk_drewN ?_ _|refine blk_drew ?_|refine blk_alloc ?_ _));exact BK186.out⟩,⟨bS GE186.out⟩⟩
    case round =>
     clear H'
     try clear c1
     try clear p2
     try clear c5
     try clear c7
     try clear c12
     try clear hcz10_0 hcz10_1 hcz10_2
     try clear hcz11_0 hcz11_1 hcz11_2
     try clear hcz13_0 hcz13_1 hcz13_2
     try clear hcz9_0 hcz9_1 hcz9_2
     try clear hfz10_0 hfz10_1 hfz10_2
     try clear hfz11_0 hfz11_1 hfz11_2
     try clear hfz13_0 hfz13_1 hfz13_2
     try clear hfz9_0 hfz9_1 hfz9_2
     try clear p2
     obtain⟨x25_2,rfl,HA,HK2,BK186,HB⟩:=hrel
     cases gk with
     | zero=>exact absurd HA.out (by simp[impl_GoodTurns.l0])
     | succ k2 =>
      have H:=HA.out
      clear HA
      simp only[impl_GoodTurns.l0] at H
      by_cases c14:x25_2 < (l0_1.length:Int)
      ·rw[if_pos c14] at H
       have c14b0:decide (x25_2 < (l0_1.length:Int))=true:=decide_eq_true c14
       clear c14
       by_cases c15:0≤x25_2
       ·rw[if_pos c15] at H
        have c15b0:decide (0≤x25_2)=true:=decide_eq_true c15
        clear c15
        by_cases c16:x25_2 < (l0_1.length:Int)
        ·rw[if_pos c16] at H
         have c16b0:decide (x25_2 < (l0_1.length:Int))=true:=decide_eq_true c16
         clear c16
         by_cases c17:(((rd_T116 l0_1 x25_2).f0).length:Int) > 40
         ·rw[if_pos c17] at H
          have c17b0:decide (40 < (((rd_T116 l0_1 x25_2).f0).length:Int))=true:=decide_eq_true c17
          have c17b1:decide (40 < ((rd_T116 l0_1 x25_2).f0).length)=true:=decide_eq_true (by omega)
          clear c17
          obtain rfl:=Option.some.inj H
          have p190:0≤(x25_2:Int):=of_decide_eq_true (bD)
          have q190:x25_2 < (l0_1.length:Int):=of_decide_eq_true (bD)
          obtain⟨ad190,A190_0,c190_0,e190,hx190_0,hx190_1,hx190_2,hl190_0,hi190_0⟩:=at_T116 HR0_1.out x25_2 p190 q190
          cases e190
          replace hx190_0:=(HB.out.cell (World.block_lt_of_cell? w _ hx190_0)).trans hx190_0
          replace hx190_1:=(HB.out.cell (World.block_lt_of_cell? w _ hx190_1)).trans hx190_1
          replace hx190_2:=(HB.out.cell (World.block_lt_of_cell? w _ hx190_2)).trans hx190_2
          have HR190_0:=Aside0.mk hi190_0
          have HC190_0:=Aside0.mk hl190_0
          clear hi190_0 hl190_0
          replace p190:=eq_true p190
          replace q190:=eq_true q190
          go_wp2_with (first|((with_reducible refine gate_dst (N:=4) rfl ?_);(try (refine gate_guard (by rfl) ?_;dsimp only));refine box_event ?hg (N:=4) ?hd (cs:=#[.slice none 0 0,.int .i64 0,.int .i64 0]) (t:=116) ?hr ?_;(case hd=>rfl);(case hg=>rfl);(case hr=>first|(go_simp;done)|(go_simp;rfl));intro gb191 hg w18 hbox hb;have n0_:=Aside0.mk (bM BK186.out hb);have n1_:=Aside0.mk (below_step (bS GE186.out) hb);have n2_:=Aside0.mk (hbox);have n3_:=Aside0.mk ((by rw[hg];exact(below_size (bS GE186.out)):w.heap.size≤gb191));have n4_:=Aside0.mk ((by rw[hg];exact(below_size (bS GE186.out)):w.heap.size≤gb191));have n5_:=Aside0.mk ((bN BK186.out hg:gb186≠gb191));have n6_:=Aside0.mk ((bO BK186.out hg:gb191≠gb186));clear BK186 HB;have BK186:=n0_;have HB:=n1_;have BK191:=n2_;have GW191:=n3_;have GE191:=n4_;have NB186_191:=n5_;have NB191_186:=n6_;clear n0_ n1_ n2_ n3_ n4_ n5_ n6_;clear hb hbox hg;have hnb19:=NB191_186.out;have hnc19:=NB186_191.out;obtain⟨hcz20_0,hcz20_1,hcz20_2⟩:=cC3 BK191.out;obtain⟨hfz20_0,hfz20_1,hfz20_2⟩:=cF3 BK191.out))
          go_ret
          exact⟨bE,bS2 GE186.out GE191.out⟩
         ·rw[if_neg c17] at H
          have c17b0:decide (40 < (((rd_T116 l0_1 x25_2).f0).length:Int))=false:=decide_eq_false c17
          have c17b1:decide (40 < ((rd_T116 l0_1 x25_2).f0).length)=false:=decide_eq_false (by omega)
          clear c17
          replace H:=Option.bind_eq_some_iff.mp H
          obtain⟨t192,A210,H⟩:=H
          replace H:(if t192=true then (some false) else ((impl_within.f ((rd_T116 l0_1 x25_2).f1) 0 100).bind fun t193=>(if t193=true then ((impl_isTime.f ((rd_T116 l0_1 x25_2).f2)).bind fun t194=>(if t194=true then (if (((rd_T116 l0_1 x25_2).f0).length:Int)=0 then (if ((rd_T116 l0_1 x25_2).f1)=0 then (impl_GoodTurns.l0 k2 l0_1 (l0_1.length:Int) (wrap64 (x25_2+1))) else (some false)) else (impl_GoodTurns.l0 k2 l0_1 (l0_1.length:Int) (wrap64 (x25_2+1)))) else (some false))) else (some false))))=some r:=H
          have A21:=Aside0.mk A210
          clear A210
          by_cases c22:t192=true
          ·subst c22
           have H1:(some false)=some r:=by rw[if_pos rfl] at H;exact H
           clear H
           have H:=H1
           clear H1
           obtain rfl:=Option.some.inj H
           have p190:0≤(x25_2:Int):=of_decide_eq_true (bD)
           have q190:x25_2 < (l0_1.length:Int):=of_decide_eq_true (bD)
           obtain⟨ad190,A190_0,c190_0,e190,hx190_0,hx190_1,hx190_2,hl190_0,hi190_0⟩:=at_T116 HR0_1.out x25_2 p190 q190
           cases e190
           replace hx190_0:=(HB.out.cell (World.block_lt_of_cell? w _ hx190_0)).trans hx190_0
           replace hx190_1:=(HB.out.cell (World.block_lt_of_cell? w _ hx190_1)).trans hx190_1
           replace hx190_2:=(HB.out.cell (World.block_lt_of_cell? w _ hx190_2)).trans hx190_2
           have HR190_0:=Aside0.mk hi190_0
           have HC190_0:=Aside0.mk hl190_0
           clear hi190_0 hl190_0
           replace p190:=eq_true p190
           replace q190:=eq_true q190
           go_wp2_with (first|((with_reducible refine gate_dst (N:=4) rfl ?_);(try (refine gate_guard (by rfl) ?_;dsimp only));refine box_event ?hg (N:=4) ?hd (cs:=#[.slice none 0 0,.int .i64 0,.int .i64 0]) (t:=116) ?hr ?_;(case hd=>rfl);(case hg=>rfl);(case hr=>first|(go_simp;done)|(go_simp;rfl));intro gb191 hg w23 hbox hb;have n0_:=Aside0.mk (bM BK186.out hb);have n1_:=Aside0.mk (below_step (bS GE186.out) hb);have n2_:=Aside0.mk (hbox);have n3_:=Aside0.mk ((by rw[hg];exact(below_size (bS GE186.out)):w.heap.size≤gb191));have n4_:=Aside0.mk ((by rw[hg];exact(below_size (bS GE186.out)):w.heap.size≤gb191));have n5_:=Aside0.mk ((bN BK186.out hg:gb186≠gb191));have n6_:=Aside0.mk ((bO BK186.out hg:gb191≠gb186));clear BK186 HB;have BK186:=n0_;have HB:=n1_;have BK191:=n2_;have GW191:=n3_;have GE191:=n4_;have NB186_191:=n5_;have NB191_186:=n6_;clear n0_ n1_ n2_ n3_ n4_ n5_ n6_;clear hb hbox hg;have hnb24:=NB191_186.out;have hnc24:=NB186_191.out;obtain⟨hcz25_0,hcz25_1,hcz25_2⟩:=cC3 BK191.out;obtain⟨hfz25_0,hfz25_1,hfz25_2⟩:=cF3 BK191.out)|(go_at_call 113;(with_reducible refine(slices_ContainsFunc_int_int_impl_GoodTurns_lit1.calls k2 _ _ ((rd_T116 l0_1 x25_2).f0)  true _ ?side1 ?side2 A21.out).mono ?_);(case side1=>exact Kd.C_below HR190_0.out (bS2 GE186.out GE191.out));(case side2=>exact HC190_0.out);rintro e w' ⟨rfl,⟨nd,rfl⟩⟩))
           go_ret
           exact⟨bE,bS2 GE186.out GE191.out⟩
          ·replace c22:=Bool.eq_false_iff.mpr c22
           subst c22
           have H1:((impl_within.f ((rd_T116 l0_1 x25_2).f1) 0 100).bind fun t193=>(if t193=true then ((impl_isTime.f ((rd_T116 l0_1 x25_2).f2)).bind fun t194=>(if t194=true then (if (((rd_T116 l0_1 x25_2).f0).length:Int)=0 then (if ((rd_T116 l0_1 x25_2).f1)=0 then (impl_GoodTurns.l0 k2 l0_1 (l0_1.length:Int) (wrap64 (x25_2+1))) else (some false)) else (impl_GoodTurns.l0 k2 l0_1 (l0_1.length:Int) (wrap64 (x25_2+1)))) else (some false))) else (some false)))=some r:=by rw[if_neg (show ¬ (false=true) by decide)] at H;exact H
           clear H
           have H:=H1
           clear H1
           replace H:=Option.bind_eq_some_iff.mp H
           obtain⟨t193,A260,H⟩:=H
           replace H:(if t193=true then ((impl_isTime.f ((rd_T116 l0_1 x25_2).f2)).bind fun t194=>(if t194=true then (if (((rd_T116 l0_1 x25_2).f0).length:Int)=0 then (if ((rd_T116 l0_1 x25_2).f1)=0 then (impl_GoodTurns.l0 k2 l0_1 (l0_1.length:Int) (wrap64 (x25_2+1))) else (some false)) else (impl_GoodTurns.l0 k2 l0_1 (l0_1.length:Int) (wrap64 (x25_2+1)))) else (some false))) else (some false))=some r:=H
           have A26:=Aside0.mk A260
           clear A260
           by_cases c27:t193=true
           ·subst c27
            have H1:((impl_isTime.f ((rd_T116 l0_1 x25_2).f2)).bind fun t194=>(if t194=true then (if (((rd_T116 l0_1 x25_2).f0).length:Int)=0 then (if ((rd_T116 l0_1 x25_2).f1)=0 then (impl_GoodTurns.l0 k2 l0_1 (l0_1.length:Int) (wrap64 (x25_2+1))) else (some false)) else (impl_GoodTurns.l0 k2 l0_1 (l0_1.length:Int) (wrap64 (x25_2+1)))) else (some false)))=some r:=by rw[if_pos rfl] at H;exact H
            clear H
            have H:=H1
            clear H1
            replace H:=Option.bind_eq_some_iff.mp H
            obtain⟨t194,A280,H⟩:=H
            replace H:(if t194=true then (if (((rd_T116 l0_1 x25_2).f0).length:Int)=0 then (if ((rd_T116 l0_1 x25_2).f1)=0 then (impl_GoodTurns.l0 k2 l0_1 (l0_1.length:Int) (wrap64 (x25_2+1))) else (some false)) else (impl_GoodTurns.l0 k2 l0_1 (l0_1.length:Int) (wrap64 (x25_2+1)))) else (some false))=some r:=H
            have A28:=Aside0.mk A280
            clear A280
            by_cases c29:t194=true
            ·subst c29
             have H1:(if (((rd_T116 l0_1 x25_2).f0).length:Int)=0 then (if ((rd_T116 l0_1 x25_2).f1)=0 then (impl_GoodTurns.l0 k2 l0_1 (l0_1.length:Int) (wrap64 (x25_2+1))) else (some false)) else (impl_GoodTurns.l0 k2 l0_1 (l0_1.length:Int) (wrap64 (x25_2+1))))=some r:=by rw[if_pos rfl] at H;exact H
             clear H
             have H:=H1
             clear H1
             by_cases c30:(((rd_T116 l0_1 x25_2).f0).length:Int)=0
             ·rw[if_pos c30] at H
              have c30b0:((((rd_T116 l0_1 x25_2).f0).length:Int) == 0)=true:=beq_iff_eq.mpr c30
              have c30b1:((((rd_T116 l0_1 x25_2).f0).length:Int) != 0)=false:=bne_eq_false_iff_eq.mpr c30
              clear c30
              by_cases c31:((rd_T116 l0_1 x25_2).f1)=0
              ·rw[if_pos c31] at H
               have c31b0:(((rd_T116 l0_1 x25_2).f1) == 0)=true:=beq_iff_eq.mpr c31
               have c31b1:(((rd_T116 l0_1 x25_2).f1) != 0)=false:=bne_eq_false_iff_eq.mpr c31
               clear c31
               have H':=Aside0.mk H
               clear H
               have p190:0≤(x25_2:Int):=of_decide_eq_true (bD)
               have q190:x25_2 < (l0_1.length:Int):=of_decide_eq_true (bD)
               obtain⟨ad190,A190_0,c190_0,e190,hx190_0,hx190_1,hx190_2,hl190_0,hi190_0⟩:=at_T116 HR0_1.out x25_2 p190 q190
               cases e190
               replace hx190_0:=(HB.out.cell (World.block_lt_of_cell? w _ hx190_0)).trans hx190_0
               replace hx190_1:=(HB.out.cell (World.block_lt_of_cell? w _ hx190_1)).trans hx190_1
               replace hx190_2:=(HB.out.cell (World.block_lt_of_cell? w _ hx190_2)).trans hx190_2
               have HR190_0:=Aside0.mk hi190_0
               have HC190_0:=Aside0.mk hl190_0
               clear hi190_0 hl190_0
               replace p190:=eq_true p190
               replace q190:=eq_true q190
               go_wp2_with (first|((with_reducible refine gate_dst (N:=4) rfl ?_);(try (refine gate_guard (by rfl) ?_;dsimp only));refine box_event ?hg (N:=4) ?hd (cs:=#[.slice none 0 0,.int .i64 0,.int .i64 0]) (t:=116) ?hr ?_;(case hd=>rfl);(case hg=>rfl);(case hr=>first|(go_simp;done)|(go_simp;rfl));intro gb191 hg w32 hbox hb;have n0_:=Aside0.mk (bM BK186.out hb);have n1_:=Aside0.mk (below_step (bS GE186.out) hb);have n2_:=Aside0.mk (hbox);have n3_:=Aside0.mk ((by rw[hg];exact(below_size (bS GE186.out)):w.heap.size≤gb191));have n4_:=Aside0.mk ((by rw[hg];exact(below_size (bS GE186.out)):w.heap.size≤gb191));have n5_:=Aside0.mk ((bN BK186.out hg:gb186≠gb191));have n6_:=Aside0.mk ((bO BK186.out hg:gb191≠gb186));clear BK186 HB;have BK186:=n0_;have HB:=n1_;have BK191:=n2_;have GW191:=n3_;have GE191:=n4_;have NB186_191:=n5_;have NB191_186:=n6_;clear n0_ n1_ n2_ n3_ n4_ n5_ n6_;clear hb hbox hg;have hnb33:=NB191_186.out;have hnc33:=NB186_191.out;obtain⟨hcz34_0,hcz34_1,hcz34_2⟩:=cC3 BK191.out;obtain⟨hfz34_0,hfz34_1,hfz34_2⟩:=cF3 BK191.out)|(go_at_call 113;(with_reducible refine(slices_ContainsFunc_int_int_impl_GoodTurns_lit1.calls k2 _ _ ((rd_T116 l0_1 x25_2).f0)  false _ ?side1 ?side2 A21.out).mono ?_);(case side1=>exact Kd.C_below HR190_0.out (bS2 GE186.out GE191.out));(case side2=>exact HC190_0.out);rintro e w' ⟨rfl,⟨nd,rfl⟩⟩)|(go_at_call 79;(with_reducible refine(impl_within.calls ((rd_T116 l0_1 x25_2).f1) 0 100 true _ A26.out).mono ?_);rintro e w' ⟨rfl,⟨nd,rfl⟩⟩)|(go_at_call 140;(with_reducible refine(impl_isTime.calls ((rd_T116 l0_1 x25_2).f2) true _ A28.out).mono ?_);rintro e w' ⟨rfl,⟨nd,rfl⟩⟩))
               go_roundg k2
               case measure=>have:=HJ1.out;have:=HK2.out;omega
               case rel=>exact⟨(wrap64 (x25_2+1)),(bR),H',⟨by have:=HJ1.out;have:=HK2.out;omega⟩,⟨by(with_reducible repeat (first|refine blk_drewN ?_ _|refine blk_drew ?_|refine blk_alloc ?_ _));refine blk_far ?_ NB186_191.out _;(with_reducible repeat (first|refine blk_drewN ?_ _|refine blk_drew ?_|refine blk_alloc ?_ _));refine blk_far ?_ NB186_191.out _;(with_reducible repeat (first|refine blk_drewN ?_ _|refine blk_drew ?_|refine blk_alloc ?_ _));refine blk_far ?_ NB186_191.out _;(with_reducible repeat (first|refine blk_drewN ?_ _|refine blk_drew ?_|refine blk_alloc ?_ _));exact BK186.out⟩,⟨bS2 GE186.out GE191.out⟩⟩
              ·rw[if_neg c31] at H
               have c31b0:(((rd_T116 l0_1 x25_2).f1) == 0)=false:=beq_eq_false_iff_ne.mpr c31
               have c31b1:(((rd_T116 l0_1 x25_2).f1) != 0)=true:=bne_iff_ne.mpr c31
               obtain rfl:=Option.some.inj H
               have p190:0≤(x25_2:Int):=of_decide_eq_true (bD)
               have q190:x25_2 < (l0_1.length:Int):=of_decide_eq_true (bD)
               obtain⟨ad190,A190_0,c190_0,e190,hx190_0,hx190_1,hx190_2,hl190_0,hi190_0⟩:=at_T116 HR0_1.out x25_2 p190 q190
               cases e190
               replace hx190_0:=(HB.out.cell (World.block_lt_of_cell? w _ hx190_0)).trans hx190_0
               replace hx190_1:=(HB.out.cell (World.block_lt_of_cell? w _ hx190_1)).trans hx190_1
               replace hx190_2:=(HB.out.cell (World.block_lt_of_cell? w _ hx190_2)).trans hx190_2
               have HR190_0:=Aside0.mk hi190_0
               have HC190_0:=Aside0.mk hl190_0
               clear hi190_0 hl190_0
               replace p190:=eq_true p190
               replace q190:=eq_true q190
               go_wp2_with (first|((with_reducible refine gate_dst (N:=4) rfl ?_);(try (refine gate_guard (by rfl) ?_;dsimp only));refine box_event ?hg (N:=4) ?hd (cs:=#[.slice none 0 0,.int .i64 0,.int .i64 0]) (t:=116) ?hr ?_;(case hd=>rfl);(case hg=>rfl);(case hr=>first|(go_simp;done)|(go_simp;rfl));intro gb191 hg w35 hbox hb;have n0_:=Aside0.mk (bM BK186.out hb);have n1_:=Aside0.mk (below_step (bS GE186.out) hb);have n2_:=Aside0.mk (hbox);have n3_:=Aside0.mk ((by rw[hg];exact(below_size (bS GE186.out)):w.heap.size≤gb191));have n4_:=Aside0.mk ((by rw[hg];exact(below_size (bS GE186.out)):w.heap.size≤gb191));have n5_:=Aside0.mk ((bN BK186.out hg:gb186≠gb191));have n6_:=Aside0.mk ((bO BK186.out hg:gb191≠gb186));clear BK186 HB;have BK186:=n0_;have HB:=n1_;have BK191:=n2_;have GW191:=n3_;have GE191:=n4_;have NB186_191:=n5_;have NB191_186:=n6_;clear n0_ n1_ n2_ n3_ n4_ n5_ n6_;clear hb hbox hg;have hnb36:=NB191_186.out;have hnc36:=NB186_191.out;obtain⟨hcz37_0,hcz37_1,hcz37_2⟩:=cC3 BK191.out;obtain⟨hfz37_0,hfz37_1,hfz37_2⟩:=cF3 BK191.out)|(go_at_call 113;(with_reducible refine(slices_ContainsFunc_int_int_impl_GoodTurns_lit1.calls k2 _ _ ((rd_T116 l0_1 x25_2).f0)  false _ ?side1 ?side2 A21.out).mono ?_);(case side1=>exact Kd.C_below HR190_0.out (bS2 GE186.out GE191.out));(case side2=>exact HC190_0.out);rintro e w' ⟨rfl,⟨nd,rfl⟩⟩)|(go_at_call 79;(with_reducible refine(impl_within.calls ((rd_T116 l0_1 x25_2).f1) 0 100 true _ A26.out).mono ?_);rintro e w' ⟨rfl,⟨nd,rfl⟩⟩)|(go_at_call 140;(with_reducible refine(impl_isTime.calls ((rd_T116 l0_1 x25_2).f2) true _ A28.out).mono ?_);rintro e w' ⟨rfl,⟨nd,rfl⟩⟩))
               go_ret
               exact⟨bE,bS2 GE186.out GE191.out⟩
             ·rw[if_neg c30] at H
              have c30b0:((((rd_T116 l0_1 x25_2).f0).length:Int) == 0)=false:=beq_eq_false_iff_ne.mpr c30
              have c30b1:((((rd_T116 l0_1 x25_2).f0).length:Int) != 0)=true:=bne_iff_ne.mpr c30
              have c30b2 : ¬ (((rd_T116 l0_1 x25_2).f0)=[]):=fun h_=>c30 (by rw[h_];rfl)
              have H':=Aside0.mk H
              clear H
              have p190:0≤(x25_2:Int):=of_decide_eq_true (bD)
              have q190:x25_2 < (l0_1.length:Int):=of_decide_eq_true (bD)
              obtain⟨ad190,A190_0,c190_0,e190,hx190_0,hx190_1,hx190_2,hl190_0,hi190_0⟩:=at_T116 HR0_1.out x25_2 p190 q190
              cases e190
              replace hx190_0:=(HB.out.cell (World.block_lt_of_cell? w _ hx190_0)).trans hx190_0
              replace hx190_1:=(HB.out.cell (World.block_lt_of_cell? w _ hx190_1)).trans hx190_1
              replace hx190_2:=(HB.out.cell (World.block_lt_of_cell? w _ hx190_2)).trans hx190_2
              have HR190_0:=Aside0.mk hi190_0
              have HC190_0:=Aside0.mk hl190_0
              clear hi190_0 hl190_0
              replace p190:=eq_true p190
              replace q190:=eq_true q190
              go_wp2_with (first|((with_reducible refine gate_dst (N:=4) rfl ?_);(try (refine gate_guard (by rfl) ?_;dsimp only));refine box_event ?hg (N:=4) ?hd (cs:=#[.slice none 0 0,.int .i64 0,.int .i64 0]) (t:=116) ?hr ?_;(case hd=>rfl);(case hg=>rfl);(case hr=>first|(go_simp;done)|(go_simp;rfl));intro gb191 hg w38 hbox hb;have n0_:=Aside0.mk (bM BK186.out hb);have n1_:=Aside0.mk (below_step (bS GE186.out) hb);have n2_:=Aside0.mk (hbox);have n3_:=Aside0.mk ((by rw[hg];exact(below_size (bS GE186.out)):w.heap.size≤gb191));have n4_:=Aside0.mk ((by rw[hg];exact(below_size (bS GE186.out)):w.heap.size≤gb191));have n5_:=Aside0.mk ((bN BK186.out hg:gb186≠gb191));have n6_:=Aside0.mk ((bO BK186.out hg:gb191≠gb186));clear BK186 HB;have BK186:=n0_;have HB:=n1_;have BK191:=n2_;have GW191:=n3_;have GE191:=n4_;have NB186_191:=n5_;have NB191_186:=n6_;clear n0_ n1_ n2_ n3_ n4_ n5_ n6_;clear hb hbox hg;have hnb39:=NB191_186.out;have hnc39:=NB186_191.out;obtain⟨hcz40_0,hcz40_1,hcz40_2⟩:=cC3 BK191.out;obtain⟨hfz40_0,hfz40_1,hfz40_2⟩:=cF3 BK191.out)|(go_at_call 113;(with_reducible refine(slices_ContainsFunc_int_int_impl_GoodTurns_lit1.calls k2 _ _ ((rd_T116 l0_1 x25_2).f0)  false _ ?side1 ?side2 A21.out).mono ?_);(case side1=>exact Kd.C_below HR190_0.out (bS2 GE186.out GE191.out));(case side2=>exact HC190_0.out);rintro e w' ⟨rfl,⟨nd,rfl⟩⟩)|(go_at_call 79;(with_reducible refine(impl_within.calls ((rd_T116 l0_1 x25_2).f1) 0 100 true _ A26.out).mono ?_);rintro e w' ⟨rfl,⟨nd,rfl⟩⟩)|(go_at_call 140;(with_reducible refine(impl_isTime.calls ((rd_T116 l0_1 x25_2).f2) true _ A28.out).mono ?_);rintro e w' ⟨rfl,⟨nd,rfl⟩⟩))
              go_roundg k2
              case measure=>have:=HJ1.out;have:=HK2.out;omega
              case rel=>exact⟨(wrap64 (x25_2+1)),(bR),H',⟨by have:=HJ1.out;have:=HK2.out;omega⟩,⟨by(with_reducible repeat (first|refine blk_drewN ?_ _|refine blk_drew ?_|refine blk_alloc ?_ _));refine blk_far ?_ NB186_191.out _;(with_reducible repeat (first|refine blk_drewN ?_ _|refine blk_drew ?_|refine blk_alloc ?_ _));refine blk_far ?_ NB186_191.out _;(with_reducible repeat (first|refine blk_drewN ?_ _|refine blk_drew ?_|refine blk_alloc ?_ _));refine blk_far ?_ NB186_191.out _;(with_reducible repeat (first|refine blk_drewN ?_ _|refine blk_drew ?_|refine blk_alloc ?_ _));exact BK186.out⟩,⟨bS2 GE186.out GE191.out⟩⟩
            ·replace c29:=Bool.eq_false_iff.mpr c29
             subst c29
             have H1:(some false)=some r:=by rw[if_neg (show ¬ (false=true) by decide)] at H;exact H
             clear H
             have H:=H1
             clear H1
             obtain rfl:=Option.some.inj H
             have p190:0≤(x25_2:Int):=of_decide_eq_true (bD)
             have q190:x25_2 < (l0_1.length:Int):=of_decide_eq_true (bD)
             obtain⟨ad190,A190_0,c190_0,e190,hx190_0,hx190_1,hx190_2,hl190_0,hi190_0⟩:=at_T116 HR0_1.out x25_2 p190 q190
             cases e190
             replace hx190_0:=(HB.out.cell (World.block_lt_of_cell? w _ hx190_0)).trans hx190_0
             replace hx190_1:=(HB.out.cell (World.block_lt_of_cell? w _ hx190_1)).trans hx190_1
             replace hx190_2:=(HB.out.cell (World.block_lt_of_cell? w _ hx190_2)).trans hx190_2
             have HR190_0:=Aside0.mk hi190_0
             have HC190_0:=Aside0.mk hl190_0
             clear hi190_0 hl190_0
             replace p190:=eq_true p190
             replace q190:=eq_true q190
             go_wp2_with (first|((with_reducible refine gate_dst (N:=4) rfl ?_);(try (refine gate_guard (by rfl) ?_;dsimp only));refine box_event ?hg (N:=4) ?hd (cs:=#[.slice none 0 0,.int .i64 0,.int .i64 0]) (t:=116) ?hr ?_;(case hd=>rfl);(case hg=>rfl);(case hr=>first|(go_simp;done)|(go_simp;rfl));intro gb191 hg w41 hbox hb;have n0_:=Aside0.mk (bM BK186.out hb);have n1_:=Aside0.mk (below_step (bS GE186.out) hb);have n2_:=Aside0.mk (hbox);have n3_:=Aside0.mk ((by rw[hg];exact(below_size (bS GE186.out)):w.heap.size≤gb191));have n4_:=Aside0.mk ((by rw[hg];exact(below_size (bS GE186.out)):w.heap.size≤gb191));have n5_:=Aside0.mk ((bN BK186.out hg:gb186≠gb191));have n6_:=Aside0.mk ((bO BK186.out hg:gb191≠gb186));clear BK186 HB;have BK186:=n0_;have HB:=n1_;have BK191:=n2_;have GW191:=n3_;have GE191:=n4_;have NB186_191:=n5_;have NB191_186:=n6_;clear n0_ n1_ n2_ n3_ n4_ n5_ n6_;clear hb hbox hg;have hnb42:=NB191_186.out;have hnc42:=NB186_191.out;obtain⟨hcz43_0,hcz43_1,hcz43_2⟩:=cC3 BK191.out;obtain⟨hfz43_0,hfz43_1,hfz43_2⟩:=cF3 BK191.out)|(go_at_call 113;(with_reducible refine(slices_ContainsFunc_int_int_impl_GoodTurns_lit1.calls k2 _ _ ((rd_T116 l0_1 x25_2).f0)  false _ ?side1 ?side2 A21.out).mono ?_);(case side1=>exact Kd.C_below HR190_0.out (bS2 GE186.out GE191.out));(case side2=>exact HC190_0.out);rintro e w' ⟨rfl,⟨nd,rfl⟩⟩)|(go_at_call 79;(with_reducible refine(impl_within.calls ((rd_T116 l0_1 x25_2).f1) 0 100 true _ A26.out).mono ?_);rintro e w' ⟨rfl,⟨nd,rfl⟩⟩)|(go_at_call 140;(with_reducible refine(impl_isTime.calls ((rd_T116 l0_1 x25_2).f2) false _ A28.out).mono ?_);rintro e w' ⟨rfl,⟨nd,rfl⟩⟩))
             go_ret
             exact⟨bE,bS2 GE186.out GE191.out⟩
           ·replace c27:=Bool.eq_false_iff.mpr c27
            subst c27
            have H1:(some false)=some r:=by rw[if_neg (show ¬ (false=true) by decide)] at H;exact H
            clear H
            have H:=H1
            clear H1
            obtain rfl:=Option.some.inj H
            have p190:0≤(x25_2:Int):=of_decide_eq_true (bD)
            have q190:x25_2 < (l0_1.length:Int):=of_decide_eq_true (bD)
            obtain⟨ad190,A190_0,c190_0,e190,hx190_0,hx190_1,hx190_2,hl190_0,hi190_0⟩:=at_T116 HR0_1.out x25_2 p190 q190
            cases e190
            replace hx190_0:=(HB.out.cell (World.block_lt_of_cell? w _ hx190_0)).trans hx190_0
            replace hx190_1:=(HB.out.cell (World.block_lt_of_cell? w _ hx190_1)).trans hx190_1
            replace hx190_2:=(HB.out.cell (World.block_lt_of_cell? w _ hx190_2)).trans hx190_2
            have HR190_0:=Aside0.mk hi190_0
            have HC190_0:=Aside0.mk hl190_0
            clear hi190_0 hl190_0
            replace p190:=eq_true p190
            replace q190:=eq_true q190
            go_wp2_with (first|((with_reducible refine gate_dst (N:=4) rfl ?_);(try (refine gate_guard (by rfl) ?_;dsimp only));refine box_event ?hg (N:=4) ?hd (cs:=#[.slice none 0 0,.int .i64 0,.int .i64 0]) (t:=116) ?hr ?_;(case hd=>rfl);(case hg=>rfl);(case hr=>first|(go_simp;done)|(go_simp;rfl));intro gb191 hg w44 hbox hb;have n0_:=Aside0.mk (bM BK186.out hb);have n1_:=Aside0.mk (below_step (bS GE186.out) hb);have n2_:=Aside0.mk (hbox);have n3_:=Aside0.mk ((by rw[hg];exact(below_size (bS GE186.out)):w.heap.size≤gb191));have n4_:=Aside0.mk ((by rw[hg];exact(below_size (bS GE186.out)):w.heap.size≤gb191));have n5_:=Aside0.mk ((bN BK186.out hg:gb186≠gb191));have n6_:=Aside0.mk ((bO BK186.out hg:gb191≠gb186));clear BK186 HB;have BK186:=n0_;have HB:=n1_;have BK191:=n2_;have GW191:=n3_;have GE191:=n4_;have NB186_191:=n5_;have NB191_186:=n6_;clear n0_ n1_ n2_ n3_ n4_ n5_ n6_;clear hb hbox hg;have hnb45:=NB191_186.out;have hnc45:=NB186_191.out;obtain⟨hcz46_0,hcz46_1,hcz46_2⟩:=cC3 BK191.out;obtain⟨hfz46_0,hfz46_1,hfz46_2⟩:=cF3 BK191.out)|(go_at_call 113;(with_reducible refine(slices_ContainsFunc_int_int_impl_GoodTurns_lit1.calls k2 _ _ ((rd_T116 l0_1 x25_2).f0)  false _ ?side1 ?side2 A21.out).mono ?_);(case side1=>exact Kd.C_below HR190_0.out (bS2 GE186.out GE191.out));(case side2=>exact HC190_0.out);rintro e w' ⟨rfl,⟨nd,rfl⟩⟩)|(go_at_call 79;(with_reducible refine(impl_within.calls ((rd_T116 l0_1 x25_2).f1) 0 100 false _ A26.out).mono ?_);rintro e w' ⟨rfl,⟨nd,rfl⟩⟩))
            go_ret
            exact⟨bE,bS2 GE186.out GE191.out⟩
        ·rw[if_neg c16] at H
         exact absurd H (by simp)
       ·rw[if_neg c15] at H
        exact absurd H (by simp)
      ·rw[if_neg c14] at H
       have c14b0:decide (x25_2 < (l0_1.length:Int))=false:=decide_eq_false c14
       clear c14
       obtain rfl:=Option.some.inj H
       go_wp2
       go_ret
       exact⟨bE,bS GE186.out⟩

/-! ### slices_Clone_int_int: function 98 -/
def slices_Clone_int_int.f (l0:List Int):Option (List Int):=(some (([]:List Int):List Int)).bind fun y195=>(if y195.length+l0.length < 17592186044416 then (some (y195++l0)) else (none))
set_option maxHeartbeats 8000000 in
set_option maxRecDepth 100000 in
theorem slices_Clone_int_int.calls (A0:Option Addr) (c0:Nat) (l0:List Int) (r:List Int) (w:World) (hr0:Kd.C (Kd.int .i64) w A0 l0.length l0) (hc0:l0.length≤c0) (h:slices_Clone_int_int.f l0=some r) :
  Calls Try.prog 98 #[.slice A0 l0.length c0] w fun e w' => ∃ v0_:Value,e=.returned (v0_)∧Kd.R (Kd.int .i64) 3 w' w.heap.size (fun _=>True) v0_ r∧Below w.heap.size w w':=by
 have HR0:=Aside0.mk hr0
 have HC0:=Aside0.mk hc0
 clear hr0 hc0
 by_cases hA_:A0=none
 ·have h0_:l0=[]:=by
   have z_:=HR0.out
   rw[hA_] at z_
   cases l0 with
   | nil=>rfl
   | cons x_ xs_ =>
    obtain⟨ad_,e_,_⟩:=z_.2.2 (by simp)
    cases e_
  subst hA_
  subst h0_
  have hr_:r=[]:=by simpa [slices_Clone_int_int.f] using h.symm
  subst hr_
  have hq_ : ∀ (w:World) (n c:Nat),(binOp .eql 37 (.slice none n c) (.slice none 0 0)).run Try.prog w=.ok (.bool true) w:=fun w n c=>by
   rw[Lib.run_eql_slice_nil w _ _ _ _ _ _ _ Try.underlying37]
   rfl
  go_enter Try.func98,Try.ntmps98
  go_wp2
  go_ret
  exact⟨_,rfl,Kd.R_nil _ _ _ _ _,Below.refl _ _⟩
 have hq_ : ∀ w,(binOp .eql 37 (.slice A0 l0.length c0) (.slice none 0 0)).run Try.prog w=.ok (.bool false) w:=fun w=>by
  rw[Lib.run_eql_slice_nil w _ _ _ _ _ _ _ Try.underlying37]
  cases A0 with
  | none=>exact absurd rfl hA_
  | some _=>rfl
 have HB:=Aside0.mk (Below.refl w.heap.size w)
 have H:((some (([]:List Int):List Int)).bind fun y195=>(if y195.length+l0.length < 17592186044416 then (some (y195++l0)) else (none)))=some r:=h
 clear h
 obtain⟨y195,hy195⟩ : ∃ y_:List Int,y_=(([]:List Int)):=⟨_,rfl⟩
 replace H:(if y195.length+l0.length < 17592186044416 then (some (y195++l0)) else (none))=some r:=by first|(rw[hy195];with_reducible exact H)|(have H2_:=(Option.bind_some _ _).symm.trans H;rw[hy195];with_reducible exact H2_)|(have H2_:=(Option.bind_some _ _).symm.trans H;with_reducible exact H2_)|with_reducible exact H|(rw[hy195];exact H)|exact H
 have Ny195:=Aside0.mk hy195
 clear hy195
 by_cases c2:y195.length+l0.length < 17592186044416
 ·rw[if_pos c2] at H
  have LMc2:=Aside0.mk c2
  clear c2
  obtain⟨y198,hy198⟩ : ∃ y_:List Int,y_=(y195++l0):=⟨_,rfl⟩
  replace H:(some y198)=some r:=by first|(rw[hy198];with_reducible exact H)|(have H2_:=(Option.bind_some _ _).symm.trans H;rw[hy198];with_reducible exact H2_)|(have H2_:=(Option.bind_some _ _).symm.trans H;with_reducible exact H2_)|with_reducible exact H|(rw[hy198];exact H)|exact H
  have Ny198:=Aside0.mk hy198
  clear hy198
  obtain rfl:=Option.some.inj H
  go_enter Try.func98,Try.ntmps98
  go_wp2_with (first|((with_reducible refine gate_dst (N:=5) rfl ?_);refine Kd.R_lit (Kd.int .i64) _ 3 ?hg (N:=5) ?hd (xs:=([]:List Int)) (inner:=[]) (ok:=fun _=>True) (okp:=fun _=>True) ?hr ?hp (fun _ hk=>hk) trivial (Below.refl _ _) (Nat.le_refl _) (by simp) ?_;(case hd=>rfl);(case hg=>rfl);(case hr=>first|(go_simp;done)|(go_simp;rfl));(case hp=>exact(Reps.none _ _));intro v196 w3 ho4 hb hg_ hnew_;clear hg_ hnew_;(first|rw[← Ny195.out] at ho4|(simp only[Int.reduceToNat] at ho4;rw[← Ny195.out] at ho4));have n0_:=Aside0.mk (Kd.R_lower ho4 (below_size (bB)));have n1_:=Aside0.mk (below_step (bB) hb);clear HB;have HO197:=n0_;have HB:=n1_;clear n0_ n1_;clear hb ho4)|((with_reducible refine gate_builtin (b:=.append) (xs:=#[.tmp 5,.tmp 6]) rfl ?_);at_builtin;refine Kd.R_append_rows (Kd.int .i64) (w0:=w) w.heap.size rfl (.tmp 5) (.tmp 6) 37 3 (.int .i64 0) 8 rfl Try.underlying37 info3 rfl (by decide) (by omega) v196 y195 l0 _ _ _ (fun _=>True) (fun _=>False) rfl rfl ?aO ?aR (fun _ _ h=>h) (fun _ h=>h.elim) ?aF ?aB ?aS ?aL ?_;(case aR=>exact bC HR0.out);(case aB=>exact(bB));(case aF=>exact(fun _ _=>trivial));(case aO=>exact(bK HO197.out));(case aS=>exact(below_size (bB)));(case aL=>have:=LMc2.out;omega);intro v199 w5 ho hb hg hat;rw[← Ny198.out] at ho;have n0_:=Aside0.mk (hb);have n1_:=Aside0.mk (ho);clear HB HO197;have HB:=n0_;have HO200:=n1_;clear n0_ n1_;clear ho hb hg hat))
  go_ret
  exact⟨_,by first|rfl|(simp[errW_none,errW_some]<;>rfl)|(simp[*,errW_none,errW_some]<;>rfl),by(with_reducible repeat (first|apply Kd.R_alloc|apply Kd.R_drewN|apply Kd.R_drew));exact HO200.out,bB⟩
 ·rw[if_neg c2] at H
  exact absurd H (by simp)

-- NOT PRINTED: function 142 (impl_Queue)

end Go.Proofs.Yteneeohaoplpbaa.XFnExactPutLong
