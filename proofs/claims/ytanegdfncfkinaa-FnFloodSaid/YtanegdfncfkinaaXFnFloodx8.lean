-- Written by this session's own program (wip/xprint.py) out of the translation; Lean checks it.
import Derived.Test.YtanegdfncfkinaaXFnFloodx0
import Derived.Test.YtanegdfncfkinaaXFnFloodx2
import Derived.Test.YtanegdfncfkinaaXFnFloodx4
import Derived.Test.YtanegdfncfkinaaXFnFloodx5
import Derived.Test.YtanegdfncfkinaaXFnFloodx7
namespace Go.Proofs.Ytanegdfncfkinaa.XFnFlood
open Go.RowKit Go.Proofs.YtanegdfncfkinaaW.PrintWords Go.Proofs.YtanegdfncfkinaaW.PrintLast Go.Proofs.YtanegdfncfkinaaW.PrintMore
attribute [local go_sem] max2_int min2_int max_two min_two max_three min_three max_four min_four   -- for this text's walks alone
set_option linter.unusedVariables false
set_option linter.unusedSimpArgs false

/-! ### laws_sameInts: function 13 -/
def laws_sameInts.l0:Nat→List Int→List Int→Int→Int→Option (Bool)
 | 0,_,_,_,_=>none
 | k+1,x0,x1,x12,x13=>if x13 < x12 then (if 0≤x13 then (if x13 < (x0.length:Int) then (if x13 < (x1.length:Int) then (if (rd x0 x13)=(rd x1 x13) then (laws_sameInts.l0 k x0 x1 x12 (wrap64 (x13+1))) else (some false)) else (none)) else (none)) else (none)) else (some true)
def laws_sameInts.f (k:Nat) (l0:List Int) (l1:List Int):Option (Bool):=if (l0.length:Int)=(l1.length:Int) then (laws_sameInts.l0 k l0 l1 (l0.length:Int) 0) else (some false)
theorem laws_sameInts.mono_l : ∀ k,(∀ y0 y1 y2 y3,LeO (laws_sameInts.l0 k y0 y1 y2 y3) (laws_sameInts.l0 (k+1) y0 y1 y2 y3))
 | 0=>fun _ _ _ _ r h=>by simp[laws_sameInts.l0] at h
 | k+1=>by
  have ih0:=laws_sameInts.mono_l k
  ·intro y0 y1 y2 y3
   unfold laws_sameInts.l0
   repeat' first
   | (with_reducible exact ih0 _ _ _ _)
   | (with_reducible exact LeO.refl _)
   | (with_reducible exact LeO.none _)
   | (with_reducible refine LeO.ite ?_ ?_)
   | (with_reducible refine LeO.bind ?_ (fun _ => ?_))
   | exact ih0 _ _ _ _
   | exact LeO.none _
   | refine LeO.ite ?_ ?_
   | refine LeO.bind ?_ (fun _ => ?_)
theorem laws_sameInts.mono : ∀ a0 a1 k,LeO (laws_sameInts.f k a0 a1) (laws_sameInts.f (k+1) a0 a1):=by
 intro a0 a1 k
 have ih0:=laws_sameInts.mono_l k
 unfold laws_sameInts.f
 repeat' first
  | (with_reducible exact ih0 _ _ _ _)
  | (with_reducible exact LeO.refl _)
  | (with_reducible exact LeO.none _)
  | (with_reducible refine LeO.ite ?_ ?_)
  | (with_reducible refine LeO.bind ?_ (fun _ => ?_))
  | exact ih0 _ _ _ _
  | exact LeO.none _
  | refine LeO.ite ?_ ?_
  | refine LeO.bind ?_ (fun _ => ?_)
set_option maxHeartbeats 8000000 in
set_option maxRecDepth 100000 in
theorem laws_sameInts.calls (k:Nat) (A0:Option Addr) (c0:Nat) (l0:List Int) (A1:Option Addr) (c1:Nat) (l1:List Int) (r:Bool) (w:World) (hr0:Kd.C (Kd.int .i64) w A0 l0.length l0) (hc0:l0.length≤c0) (hr1:Kd.C (Kd.int .i64) w A1 l1.length l1) (hc1:l1.length≤c1) (h:laws_sameInts.f k l0 l1=some r) :
  Calls Try.prog 13 #[.slice A0 l0.length c0,.slice A1 l1.length c1] w fun e w'=>e=.returned (.bool r)∧Drawn0 w w':=by
 have HR0:=Aside0.mk hr0
 have HC0:=Aside0.mk hc0
 clear hr0 hc0
 have HR1:=Aside0.mk hr1
 have HC1:=Aside0.mk hc1
 clear hr1 hc1
 have H:(if (l0.length:Int)=(l1.length:Int) then (laws_sameInts.l0 k l0 l1 (l0.length:Int) 0) else (some false))=some r:=h
 clear h
 by_cases c3:(l0.length:Int)=(l1.length:Int)
 ·rw[if_pos c3] at H
  have c3b0:((l0.length:Int) == (l1.length:Int))=true:=beq_iff_eq.mpr c3
  have c3b1:((l0.length:Int) != (l1.length:Int))=false:=bne_eq_false_iff_eq.mpr c3
  have c3b2:(l0.length == l1.length)=true:=by first|simpa using c3|(simp at c3 ⊢;omega)
  clear c3
  have H':=Aside0.mk H
  clear H
  go_enter Try.func13,Try.ntmps13
  go_wp2
  repeat (go_quiet (fail);try go_wp2)
  go_loopg [13] k (fun kq v13 w' => ∃ (x13_1:Int),v13=.int .i64 x13_1∧Aside0 (laws_sameInts.l0 kq l0 l1 (l0.length:Int) x13_1=some r)∧Aside0 (kq≤k)∧Drawn0 w w')
  case atStart=>exact⟨(0),(bR),H',⟨Nat.le_refl _⟩,bW⟩
  case round =>
   clear H'
   try clear c1
   try clear p2
   try clear c3
   try clear c3b0
   try clear c3b1
   try clear c3b2
   obtain⟨x13_1,rfl,HA,HK1,⟨m1,rfl⟩⟩:=hrel
   cases gk with
   | zero=>exact absurd HA.out (by simp[laws_sameInts.l0])
   | succ k1 =>
    have H:=HA.out
    clear HA
    simp only[laws_sameInts.l0] at H
    by_cases c4:x13_1 < (l0.length:Int)
    ·rw[if_pos c4] at H
     have c4b0:decide (x13_1 < (l0.length:Int))=true:=decide_eq_true c4
     clear c4
     by_cases c5:0≤x13_1
     ·rw[if_pos c5] at H
      have c5b0:decide (0≤x13_1)=true:=decide_eq_true c5
      clear c5
      by_cases c6:x13_1 < (l0.length:Int)
      ·rw[if_pos c6] at H
       have c6b0:decide (x13_1 < (l0.length:Int))=true:=decide_eq_true c6
       clear c6
       by_cases c7:x13_1 < (l1.length:Int)
       ·rw[if_pos c7] at H
        have c7b0:decide (x13_1 < (l1.length:Int))=true:=decide_eq_true c7
        clear c7
        by_cases c8:(rd l0 x13_1)=(rd l1 x13_1)
        ·rw[if_pos c8] at H
         have c8b0:((rd l0 x13_1) == (rd l1 x13_1))=true:=beq_iff_eq.mpr c8
         have c8b1:((rd l0 x13_1) != (rd l1 x13_1))=false:=bne_eq_false_iff_eq.mpr c8
         clear c8
         have H':=Aside0.mk H
         clear H
         have p277:0≤(x13_1:Int):=of_decide_eq_true (bD)
         have q277:x13_1 < (l0.length:Int):=of_decide_eq_true (bD)
         obtain⟨ad277,e277,hx277_0⟩:=Kd.at_int HR0.out x13_1 p277 q277
         cases e277
         replace p277:=eq_true p277
         replace q277:=eq_true q277
         have p278:0≤(x13_1:Int):=of_decide_eq_true (bD)
         have q278:x13_1 < (l1.length:Int):=of_decide_eq_true (bD)
         obtain⟨ad278,e278,hx278_0⟩:=Kd.at_int HR1.out x13_1 p278 q278
         cases e278
         replace p278:=eq_true p278
         replace q278:=eq_true q278
         go_wp2
         repeat (go_quiet (fail);try go_wp2)
         go_roundg k1
         case measure=>have:=HK1.out;omega
         case rel=>exact⟨(wrap64 (x13_1+1)),(bR),H',⟨by have:=HK1.out;omega⟩,bW⟩
        ·rw[if_neg c8] at H
         have c8b0:((rd l0 x13_1) == (rd l1 x13_1))=false:=beq_eq_false_iff_ne.mpr c8
         have c8b1:((rd l0 x13_1) != (rd l1 x13_1))=true:=bne_iff_ne.mpr c8
         obtain rfl:=Option.some.inj H
         have p277:0≤(x13_1:Int):=of_decide_eq_true (bD)
         have q277:x13_1 < (l0.length:Int):=of_decide_eq_true (bD)
         obtain⟨ad277,e277,hx277_0⟩:=Kd.at_int HR0.out x13_1 p277 q277
         cases e277
         replace p277:=eq_true p277
         replace q277:=eq_true q277
         have p278:0≤(x13_1:Int):=of_decide_eq_true (bD)
         have q278:x13_1 < (l1.length:Int):=of_decide_eq_true (bD)
         obtain⟨ad278,e278,hx278_0⟩:=Kd.at_int HR1.out x13_1 p278 q278
         cases e278
         replace p278:=eq_true p278
         replace q278:=eq_true q278
         go_wp2
         repeat (go_quiet (fail);try go_wp2)
         go_ret
         exact⟨bR,bW⟩
       ·rw[if_neg c7] at H
        exact absurd H (by simp)
      ·rw[if_neg c6] at H
       exact absurd H (by simp)
     ·rw[if_neg c5] at H
      exact absurd H (by simp)
    ·rw[if_neg c4] at H
     have c4b0:decide (x13_1 < (l0.length:Int))=false:=decide_eq_false c4
     clear c4
     obtain rfl:=Option.some.inj H
     go_wp2
     repeat (go_quiet (fail);try go_wp2)
     go_ret
     exact⟨bR,bW⟩
 ·rw[if_neg c3] at H
  have c3b0:((l0.length:Int) == (l1.length:Int))=false:=beq_eq_false_iff_ne.mpr c3
  have c3b1:((l0.length:Int) != (l1.length:Int))=true:=bne_iff_ne.mpr c3
  have c3b2:(l0.length == l1.length)=false:=by first|simpa using c3|(simp at c3 ⊢;omega)
  obtain rfl:=Option.some.inj H
  go_enter Try.func13,Try.ntmps13
  go_wp2
  repeat (go_quiet (fail);try go_wp2)
  go_ret
  exact⟨bR,bW⟩

/-! ### impl_EarliestFrom: function 14 -/
def impl_EarliestFrom.f (k:Nat) (l0:List (S58)) (a1:Int) (a2:Int):Option (List Int × Bool):=(impl_GoodPlan.f k l0).bind fun t279=>(if t279=true then ((impl_isNode.f a1).bind fun t280=>(if t280=true then ((impl_isWhen.f a2).bind fun t281=>(if t281=true then ((impl_reach.f k l0 a1 a2).bind fun bt282=>(some (bt282.1,true))) else (some (([]:List Int),false)))) else (some (([]:List Int),false)))) else (some (([]:List Int),false)))
theorem impl_EarliestFrom.mono : ∀ a0 a1 a2 k,LeO (impl_EarliestFrom.f k a0 a1 a2) (impl_EarliestFrom.f (k+1) a0 a1 a2):=by
 intro a0 a1 a2 k
 unfold impl_EarliestFrom.f
 repeat' first
  | (with_reducible exact impl_GoodPlan.mono _ _)
  | (with_reducible exact impl_reach.mono _ _ _ _)
  | (with_reducible exact LeO.refl _)
  | (with_reducible exact LeO.none _)
  | (with_reducible refine LeO.ite ?_ ?_)
  | (with_reducible refine LeO.bind ?_ (fun _ => ?_))
  | exact impl_GoodPlan.mono _ _
  | exact impl_reach.mono _ _ _ _
  | exact LeO.none _
  | refine LeO.ite ?_ ?_
  | refine LeO.bind ?_ (fun _ => ?_)
set_option maxHeartbeats 8000000 in
set_option maxRecDepth 100000 in
theorem impl_EarliestFrom.calls (k:Nat) (A0:Option Addr) (c0:Nat) (l0:List (S58)) (a1:Int) (a2:Int) (r1:List Int) (r2:Bool) (w:World) (hr0:Kd.C k58 w A0 l0.length l0) (hc0:l0.length≤c0) (h:impl_EarliestFrom.f k l0 a1 a2=some (r1,r2)) :
  Calls Try.prog 14 #[.slice A0 l0.length c0,.int .i64 a1,.int .i64 a2] w fun e w' => ∃ v0_:Value,e=.returned (.tuple #[v0_,.bool r2])∧Kd.R (Kd.int .i64) 3 w' w.heap.size (fun _=>True) v0_ r1∧Below w.heap.size w w':=by
 have HR0:=Aside0.mk hr0
 have HC0:=Aside0.mk hc0
 clear hr0 hc0
 have HB:=Aside0.mk (Below.refl w.heap.size w)
 have H:((impl_GoodPlan.f k l0).bind fun t279=>(if t279=true then ((impl_isNode.f a1).bind fun t280=>(if t280=true then ((impl_isWhen.f a2).bind fun t281=>(if t281=true then ((impl_reach.f k l0 a1 a2).bind fun bt282=>(some (bt282.1,true))) else (some (([]:List Int),false)))) else (some (([]:List Int),false)))) else (some (([]:List Int),false))))=some (r1,r2):=h
 clear h
 replace H:=Option.bind_eq_some_iff.mp H
 obtain⟨t279,A40,H⟩:=H
 replace H:(if t279=true then ((impl_isNode.f a1).bind fun t280=>(if t280=true then ((impl_isWhen.f a2).bind fun t281=>(if t281=true then ((impl_reach.f k l0 a1 a2).bind fun bt282=>(some (bt282.1,true))) else (some (([]:List Int),false)))) else (some (([]:List Int),false)))) else (some (([]:List Int),false)))=some (r1,r2):=H
 have A4:=Aside0.mk A40
 clear A40
 by_cases c5:t279=true
 ·subst c5
  have H1:((impl_isNode.f a1).bind fun t280=>(if t280=true then ((impl_isWhen.f a2).bind fun t281=>(if t281=true then ((impl_reach.f k l0 a1 a2).bind fun bt282=>(some (bt282.1,true))) else (some (([]:List Int),false)))) else (some (([]:List Int),false))))=some (r1,r2):=by rw[if_pos rfl] at H;exact H
  clear H
  have H:=H1
  clear H1
  replace H:=Option.bind_eq_some_iff.mp H
  obtain⟨t280,A60,H⟩:=H
  replace H:(if t280=true then ((impl_isWhen.f a2).bind fun t281=>(if t281=true then ((impl_reach.f k l0 a1 a2).bind fun bt282=>(some (bt282.1,true))) else (some (([]:List Int),false)))) else (some (([]:List Int),false)))=some (r1,r2):=H
  have A6:=Aside0.mk A60
  clear A60
  by_cases c7:t280=true
  ·subst c7
   have H1:((impl_isWhen.f a2).bind fun t281=>(if t281=true then ((impl_reach.f k l0 a1 a2).bind fun bt282=>(some (bt282.1,true))) else (some (([]:List Int),false))))=some (r1,r2):=by rw[if_pos rfl] at H;exact H
   clear H
   have H:=H1
   clear H1
   replace H:=Option.bind_eq_some_iff.mp H
   obtain⟨t281,A80,H⟩:=H
   replace H:(if t281=true then ((impl_reach.f k l0 a1 a2).bind fun bt282=>(some (bt282.1,true))) else (some (([]:List Int),false)))=some (r1,r2):=H
   have A8:=Aside0.mk A80
   clear A80
   by_cases c9:t281=true
   ·subst c9
    have H1:((impl_reach.f k l0 a1 a2).bind fun bt282=>(some (bt282.1,true)))=some (r1,r2):=by rw[if_pos rfl] at H;exact H
    clear H
    have H:=H1
    clear H1
    replace H:=Option.bind_eq_some_iff.mp H
    obtain⟨⟨t282,t283⟩,A100,H⟩:=H
    replace H:(some (t282,true))=some (r1,r2):=H
    have A10:=Aside0.mk A100
    clear A100
    simp only[Option.some.injEq,Prod.mk.injEq] at H
    obtain⟨rfl,rfl⟩:=H
    go_enter Try.func14,Try.ntmps14
    go_wp2_with (first|((with_reducible refine gate_callee (f:=24) rfl ?_);refine goesA (some 11) rfl rfl Try.func24 #[.slice A0 l0.length c0] rfl ?_;(with_reducible refine(impl_GoodPlan.calls k _ _ l0 true _ ?side1 ?side2 A4.out).mono ?_);(case side1=>exact b12_);(case side2=>exact HC0.out);rintro e w11 ⟨rfl,hb⟩;refine⟨_,rfl,?_⟩;have n0_:=Aside0.mk (below_step (bB) hb);clear HB;have HB:=n0_;clear n0_;(try clear hb);(try clear hb2);(try clear hk);(try clear hi))|(go_at_call 25;(with_reducible refine(impl_isNode.calls a1 true _ A6.out).mono ?_);rintro e w' ⟨rfl,⟨nd,rfl⟩⟩)|(go_at_call 26;(with_reducible refine(impl_isWhen.calls a2 true _ A8.out).mono ?_);rintro e w' ⟨rfl,⟨nd,rfl⟩⟩)|((with_reducible refine gate_callee (f:=27) rfl ?_);refine goesA (some 27) rfl rfl Try.func27 #[.slice A0 l0.length c0,.int .i64 a1,.int .i64 a2] rfl ?_;(with_reducible refine(impl_reach.calls k _ _ l0 a1 a2 t282 t283 _ ?side1 ?side2 A10.out).mono ?_);(case side1=>repeat (first|exact(Kd.C_below HR0.out (bB))|(with_reducible refine Kd.C_alloc ?_ _)|(with_reducible refine Kd.C_drewN ?_ _)|(with_reducible refine Kd.C_drew ?_)));(case side2=>exact HC0.out);rintro e w12 ⟨v284,v286,rfl,ho0,ho1,hb⟩;refine⟨_,rfl,?_⟩;have n0_:=Aside0.mk (Kd.R_lower ho0 (below_size (bB)));have n1_:=Aside0.mk (Kd.R_lower ho1 (below_size (bB)));have n2_:=Aside0.mk (below_step (bB) hb);clear HB;have HO285:=n0_;have HO287:=n1_;have HB:=n2_;clear n0_ n1_ n2_;(try clear hb);(try clear hb2);(try clear hk);(try clear hi);(try clear ho0);(try clear ho1)))
    go_ret2
    exact⟨_,by first|rfl|(simp[errW_none,errW_some]<;>rfl)|(simp[*,errW_none,errW_some]<;>rfl),by(with_reducible repeat (first|apply Kd.R_alloc|apply Kd.R_drewN|apply Kd.R_drew));exact Kd.R_mono HO285.out (fun _ hk=>trivial),bB⟩
   ·replace c9:=Bool.eq_false_iff.mpr c9
    subst c9
    have H1:(some (([]:List Int),false))=some (r1,r2):=by rw[if_neg (show ¬ (false=true) by decide)] at H;exact H
    clear H
    have H:=H1
    clear H1
    simp only[Option.some.injEq,Prod.mk.injEq] at H
    obtain⟨rfl,rfl⟩:=H
    go_enter Try.func14,Try.ntmps14
    go_wp2_with (first|((with_reducible refine gate_callee (f:=24) rfl ?_);refine goesA (some 11) rfl rfl Try.func24 #[.slice A0 l0.length c0] rfl ?_;(with_reducible refine(impl_GoodPlan.calls k _ _ l0 true _ ?side1 ?side2 A4.out).mono ?_);(case side1=>exact b12_);(case side2=>exact HC0.out);rintro e w13 ⟨rfl,hb⟩;refine⟨_,rfl,?_⟩;have n0_:=Aside0.mk (below_step (bB) hb);clear HB;have HB:=n0_;clear n0_;(try clear hb);(try clear hb2);(try clear hk);(try clear hi))|(go_at_call 25;(with_reducible refine(impl_isNode.calls a1 true _ A6.out).mono ?_);rintro e w' ⟨rfl,⟨nd,rfl⟩⟩)|(go_at_call 26;(with_reducible refine(impl_isWhen.calls a2 false _ A8.out).mono ?_);rintro e w' ⟨rfl,⟨nd,rfl⟩⟩))
    go_ret2
    exact⟨_,by first|rfl|(simp[errW_none,errW_some]<;>rfl)|(simp[*,errW_none,errW_some]<;>rfl),by first|exact Kd.R_nil _ _ _ _ _|exact Kd.N_nil _ _ _ _ _|exact Kd.V_nil _ _ _ _ _|exact Kd.Q_nil _ _ _ _ _|exact Kd.S_nil _ _ _ _ _,bB⟩
  ·replace c7:=Bool.eq_false_iff.mpr c7
   subst c7
   have H1:(some (([]:List Int),false))=some (r1,r2):=by rw[if_neg (show ¬ (false=true) by decide)] at H;exact H
   clear H
   have H:=H1
   clear H1
   simp only[Option.some.injEq,Prod.mk.injEq] at H
   obtain⟨rfl,rfl⟩:=H
   go_enter Try.func14,Try.ntmps14
   go_wp2_with (first|((with_reducible refine gate_callee (f:=24) rfl ?_);refine goesA (some 11) rfl rfl Try.func24 #[.slice A0 l0.length c0] rfl ?_;(with_reducible refine(impl_GoodPlan.calls k _ _ l0 true _ ?side1 ?side2 A4.out).mono ?_);(case side1=>exact b12_);(case side2=>exact HC0.out);rintro e w14 ⟨rfl,hb⟩;refine⟨_,rfl,?_⟩;have n0_:=Aside0.mk (below_step (bB) hb);clear HB;have HB:=n0_;clear n0_;(try clear hb);(try clear hb2);(try clear hk);(try clear hi))|(go_at_call 25;(with_reducible refine(impl_isNode.calls a1 false _ A6.out).mono ?_);rintro e w' ⟨rfl,⟨nd,rfl⟩⟩))
   go_ret2
   exact⟨_,by first|rfl|(simp[errW_none,errW_some]<;>rfl)|(simp[*,errW_none,errW_some]<;>rfl),by first|exact Kd.R_nil _ _ _ _ _|exact Kd.N_nil _ _ _ _ _|exact Kd.V_nil _ _ _ _ _|exact Kd.Q_nil _ _ _ _ _|exact Kd.S_nil _ _ _ _ _,bB⟩
 ·replace c5:=Bool.eq_false_iff.mpr c5
  subst c5
  have H1:(some (([]:List Int),false))=some (r1,r2):=by rw[if_neg (show ¬ (false=true) by decide)] at H;exact H
  clear H
  have H:=H1
  clear H1
  simp only[Option.some.injEq,Prod.mk.injEq] at H
  obtain⟨rfl,rfl⟩:=H
  go_enter Try.func14,Try.ntmps14
  go_wp2_with (first|((with_reducible refine gate_callee (f:=24) rfl ?_);refine goesA (some 11) rfl rfl Try.func24 #[.slice A0 l0.length c0] rfl ?_;(with_reducible refine(impl_GoodPlan.calls k _ _ l0 false _ ?side1 ?side2 A4.out).mono ?_);(case side1=>exact b12_);(case side2=>exact HC0.out);rintro e w15 ⟨rfl,hb⟩;refine⟨_,rfl,?_⟩;have n0_:=Aside0.mk (below_step (bB) hb);clear HB;have HB:=n0_;clear n0_;(try clear hb);(try clear hb2);(try clear hk);(try clear hi)))
  go_ret2
  exact⟨_,by first|rfl|(simp[errW_none,errW_some]<;>rfl)|(simp[*,errW_none,errW_some]<;>rfl),by first|exact Kd.R_nil _ _ _ _ _|exact Kd.N_nil _ _ _ _ _|exact Kd.V_nil _ _ _ _ _|exact Kd.Q_nil _ _ _ _ _|exact Kd.S_nil _ _ _ _ _,bB⟩

/-! ### laws_has: function 15 -/
def laws_has.l0:Nat→Int→List Int→Int→Int→Option (Bool)
 | 0,_,_,_,_=>none
 | k+1,x1,x7,x8,x9=>if x9 < x8 then (if 0≤x9 then (if x9 < (x7.length:Int) then (if (rd x7 x9)=x1 then (some true) else (laws_has.l0 k x1 x7 x8 (wrap64 (x9+1)))) else (none)) else (none)) else (some false)
def laws_has.f (k:Nat) (l0:List Int) (a1:Int):Option (Bool):=laws_has.l0 k a1 l0 (l0.length:Int) 0
theorem laws_has.mono_l : ∀ k,(∀ y0 y1 y2 y3,LeO (laws_has.l0 k y0 y1 y2 y3) (laws_has.l0 (k+1) y0 y1 y2 y3))
 | 0=>fun _ _ _ _ r h=>by simp[laws_has.l0] at h
 | k+1=>by
  have ih0:=laws_has.mono_l k
  ·intro y0 y1 y2 y3
   unfold laws_has.l0
   repeat' first
   | (with_reducible exact ih0 _ _ _ _)
   | (with_reducible exact LeO.refl _)
   | (with_reducible exact LeO.none _)
   | (with_reducible refine LeO.ite ?_ ?_)
   | (with_reducible refine LeO.bind ?_ (fun _ => ?_))
   | exact ih0 _ _ _ _
   | exact LeO.none _
   | refine LeO.ite ?_ ?_
   | refine LeO.bind ?_ (fun _ => ?_)
theorem laws_has.mono : ∀ a0 a1 k,LeO (laws_has.f k a0 a1) (laws_has.f (k+1) a0 a1):=by
 intro a0 a1 k
 have ih0:=laws_has.mono_l k
 unfold laws_has.f
 repeat' first
  | (with_reducible exact ih0 _ _ _ _)
  | (with_reducible exact LeO.refl _)
  | (with_reducible exact LeO.none _)
  | (with_reducible refine LeO.ite ?_ ?_)
  | (with_reducible refine LeO.bind ?_ (fun _ => ?_))
  | exact ih0 _ _ _ _
  | exact LeO.none _
  | refine LeO.ite ?_ ?_
  | refine LeO.bind ?_ (fun _ => ?_)
set_option maxHeartbeats 8000000 in
set_option maxRecDepth 100000 in
theorem laws_has.calls (k:Nat) (A0:Option Addr) (c0:Nat) (l0:List Int) (a1:Int) (r:Bool) (w:World) (hr0:Kd.C (Kd.int .i64) w A0 l0.length l0) (hc0:l0.length≤c0) (h:laws_has.f k l0 a1=some r) :
  Calls Try.prog 15 #[.slice A0 l0.length c0,.int .i64 a1] w fun e w'=>e=.returned (.bool r)∧Drawn0 w w':=by
 have HR0:=Aside0.mk hr0
 have HC0:=Aside0.mk hc0
 clear hr0 hc0
 have H:(laws_has.l0 k a1 l0 (l0.length:Int) 0)=some r:=h
 clear h
 have H':=Aside0.mk H
 clear H
 go_enter Try.func15,Try.ntmps15
 go_wp2
 go_loopg [9] k (fun kq v9 w' => ∃ (x9_1:Int),v9=.int .i64 x9_1∧Aside0 (laws_has.l0 kq a1 l0 (l0.length:Int) x9_1=some r)∧Aside0 (kq≤k)∧Drawn0 w w')
 case atStart=>exact⟨(0),(bR),H',⟨Nat.le_refl _⟩,bW⟩
 case round =>
  clear H'
  try clear c1
  try clear p2
  obtain⟨x9_1,rfl,HA,HK1,⟨m1,rfl⟩⟩:=hrel
  cases gk with
  | zero=>exact absurd HA.out (by simp[laws_has.l0])
  | succ k1 =>
   have H:=HA.out
   clear HA
   simp only[laws_has.l0] at H
   by_cases c3:x9_1 < (l0.length:Int)
   ·rw[if_pos c3] at H
    have c3b0:decide (x9_1 < (l0.length:Int))=true:=decide_eq_true c3
    clear c3
    by_cases c4:0≤x9_1
    ·rw[if_pos c4] at H
     have c4b0:decide (0≤x9_1)=true:=decide_eq_true c4
     clear c4
     by_cases c5:x9_1 < (l0.length:Int)
     ·rw[if_pos c5] at H
      have c5b0:decide (x9_1 < (l0.length:Int))=true:=decide_eq_true c5
      clear c5
      by_cases c6:(rd l0 x9_1)=a1
      ·rw[if_pos c6] at H
       have c6b0:((rd l0 x9_1) == a1)=true:=beq_iff_eq.mpr c6
       have c6b1:((rd l0 x9_1) != a1)=false:=bne_eq_false_iff_eq.mpr c6
       clear c6
       obtain rfl:=Option.some.inj H
       have p288:0≤(x9_1:Int):=of_decide_eq_true (bD)
       have q288:x9_1 < (l0.length:Int):=of_decide_eq_true (bD)
       obtain⟨ad288,e288,hx288_0⟩:=Kd.at_int HR0.out x9_1 p288 q288
       cases e288
       replace p288:=eq_true p288
       replace q288:=eq_true q288
       go_wp2
       go_ret
       exact⟨bR,bW⟩
      ·rw[if_neg c6] at H
       have c6b0:((rd l0 x9_1) == a1)=false:=beq_eq_false_iff_ne.mpr c6
       have c6b1:((rd l0 x9_1) != a1)=true:=bne_iff_ne.mpr c6
       have H':=Aside0.mk H
       clear H
       have p288:0≤(x9_1:Int):=of_decide_eq_true (bD)
       have q288:x9_1 < (l0.length:Int):=of_decide_eq_true (bD)
       obtain⟨ad288,e288,hx288_0⟩:=Kd.at_int HR0.out x9_1 p288 q288
       cases e288
       replace p288:=eq_true p288
       replace q288:=eq_true q288
       go_wp2
       go_roundg k1
       case measure=>have:=HK1.out;omega
       case rel=>exact⟨(wrap64 (x9_1+1)),(bR),H',⟨by have:=HK1.out;omega⟩,bW⟩
     ·rw[if_neg c5] at H
      exact absurd H (by simp)
    ·rw[if_neg c4] at H
     exact absurd H (by simp)
   ·rw[if_neg c3] at H
    have c3b0:decide (x9_1 < (l0.length:Int))=false:=decide_eq_false c3
    clear c3
    obtain rfl:=Option.some.inj H
    go_wp2
    go_ret
    exact⟨bR,bW⟩

/-! ### laws_FnFlood: function 4 -/
mutual
def laws_FnFlood.j0:Nat→List (S58)→Int→Int→Int→List Int→Bool→Bool→Option (Bool)
 | 0,_,_,_,_,_,_,_=>none
 | k+1,x3,x4,x5,x6,x7,x8,x49=>if x49=true then (some false) else (if x8=true then ((impl_EarliestFrom.f k x3 x4 x5).bind fun bt304=>(if bt304.2=true then (laws_FnFlood.l0 k x6 x7 bt304.1 (bt304.1.length:Int) 0) else (some false))) else (some ((x7.length:Int) == 0)))
def laws_FnFlood.l0:Nat→Int→List Int→List Int→Int→Int→Option (Bool)
 | 0,_,_,_,_,_=>none
 | k+1,x6,x7,x64,x65,x66=>if x66 < x65 then (if 0≤x66 then (if x66 < (x64.length:Int) then ((laws_has.f k x7 x66).bind fun t309=>(if (rd x64 x66) ≥ 0 then (if (t309 != (decide ((rd x64 x66)≤x6)))=true then (some false) else (laws_FnFlood.l0 k x6 x7 x64 x65 (wrap64 (x66+1)))) else (if (t309 != false)=true then (some false) else (laws_FnFlood.l0 k x6 x7 x64 x65 (wrap64 (x66+1)))))) else (none)) else (none)) else (some true)
end
def laws_FnFlood.f (k:Nat) (l0:List Int):Option (Bool):=if (l0.length:Int) > 1048576 then (some true) else ((spec_DrawFloodUntil.f k l0).bind fun bt289=>((impl_FloodUntil.f k bt289.1 bt289.2.1 bt289.2.2.1 bt289.2.2.2).bind fun bt295=>((spec_FloodUntil.f k bt289.1 bt289.2.1 bt289.2.2.1 bt289.2.2.2).bind fun bt299=>(if (bt295.2 != bt299.2)=true then (laws_FnFlood.j0 k bt289.1 bt289.2.1 bt289.2.2.1 bt289.2.2.2 bt295.1 bt295.2 true) else ((laws_sameInts.f k bt295.1 bt299.1).bind fun t303=>(laws_FnFlood.j0 k bt289.1 bt289.2.1 bt289.2.2.1 bt289.2.2.2 bt295.1 bt295.2 (!t303)))))))
theorem laws_FnFlood.mono_l : ∀ k,(∀ y0 y1 y2 y3 y4 y5 y6,LeO (laws_FnFlood.j0 k y0 y1 y2 y3 y4 y5 y6) (laws_FnFlood.j0 (k+1) y0 y1 y2 y3 y4 y5 y6))∧(∀ y0 y1 y2 y3 y4,LeO (laws_FnFlood.l0 k y0 y1 y2 y3 y4) (laws_FnFlood.l0 (k+1) y0 y1 y2 y3 y4))
 | 0=>⟨fun _ _ _ _ _ _ _ r h=>by simp[laws_FnFlood.j0] at h,fun _ _ _ _ _ r h=>by simp[laws_FnFlood.l0] at h⟩
 | k+1=>by
  obtain⟨ih0,ih1⟩:=laws_FnFlood.mono_l k
  refine⟨?_,?_⟩
  ·intro y0 y1 y2 y3 y4 y5 y6
   unfold laws_FnFlood.j0
   repeat' first
   | (with_reducible exact ih0 _ _ _ _ _ _ _)
   | (with_reducible exact ih1 _ _ _ _ _)
   | (with_reducible exact impl_EarliestFrom.mono _ _ _ _)
   | (with_reducible exact impl_FloodUntil.mono _ _ _ _ _)
   | (with_reducible exact laws_has.mono _ _ _)
   | (with_reducible exact laws_sameInts.mono _ _ _)
   | (with_reducible exact spec_DrawFloodUntil.mono _ _)
   | (with_reducible exact spec_FloodUntil.mono _ _ _ _ _)
   | (with_reducible exact LeO.refl _)
   | (with_reducible exact LeO.none _)
   | (with_reducible refine LeO.ite ?_ ?_)
   | (with_reducible refine LeO.bind ?_ (fun _ => ?_))
   | exact ih0 _ _ _ _ _ _ _
   | exact ih1 _ _ _ _ _
   | exact impl_EarliestFrom.mono _ _ _ _
   | exact impl_FloodUntil.mono _ _ _ _ _
   | exact laws_has.mono _ _ _
   | exact laws_sameInts.mono _ _ _
   | exact spec_DrawFloodUntil.mono _ _
   | exact spec_FloodUntil.mono _ _ _ _ _
   | exact LeO.none _
   | refine LeO.ite ?_ ?_
   | refine LeO.bind ?_ (fun _ => ?_)
  ·intro y0 y1 y2 y3 y4
   unfold laws_FnFlood.l0
   repeat' first
   | (with_reducible exact ih0 _ _ _ _ _ _ _)
   | (with_reducible exact ih1 _ _ _ _ _)
   | (with_reducible exact impl_EarliestFrom.mono _ _ _ _)
   | (with_reducible exact impl_FloodUntil.mono _ _ _ _ _)
   | (with_reducible exact laws_has.mono _ _ _)
   | (with_reducible exact laws_sameInts.mono _ _ _)
   | (with_reducible exact spec_DrawFloodUntil.mono _ _)
   | (with_reducible exact spec_FloodUntil.mono _ _ _ _ _)
   | (with_reducible exact LeO.refl _)
   | (with_reducible exact LeO.none _)
   | (with_reducible refine LeO.ite ?_ ?_)
   | (with_reducible refine LeO.bind ?_ (fun _ => ?_))
   | exact ih0 _ _ _ _ _ _ _
   | exact ih1 _ _ _ _ _
   | exact impl_EarliestFrom.mono _ _ _ _
   | exact impl_FloodUntil.mono _ _ _ _ _
   | exact laws_has.mono _ _ _
   | exact laws_sameInts.mono _ _ _
   | exact spec_DrawFloodUntil.mono _ _
   | exact spec_FloodUntil.mono _ _ _ _ _
   | exact LeO.none _
   | refine LeO.ite ?_ ?_
   | refine LeO.bind ?_ (fun _ => ?_)
theorem laws_FnFlood.mono : ∀ a0 k,LeO (laws_FnFlood.f k a0) (laws_FnFlood.f (k+1) a0):=by
 intro a0 k
 obtain⟨ih0,ih1⟩:=laws_FnFlood.mono_l k
 unfold laws_FnFlood.f
 repeat' first
  | (with_reducible exact ih0 _ _ _ _ _ _ _)
  | (with_reducible exact ih1 _ _ _ _ _)
  | (with_reducible exact impl_EarliestFrom.mono _ _ _ _)
  | (with_reducible exact impl_FloodUntil.mono _ _ _ _ _)
  | (with_reducible exact laws_has.mono _ _ _)
  | (with_reducible exact laws_sameInts.mono _ _ _)
  | (with_reducible exact spec_DrawFloodUntil.mono _ _)
  | (with_reducible exact spec_FloodUntil.mono _ _ _ _ _)
  | (with_reducible exact LeO.refl _)
  | (with_reducible exact LeO.none _)
  | (with_reducible refine LeO.ite ?_ ?_)
  | (with_reducible refine LeO.bind ?_ (fun _ => ?_))
  | exact ih0 _ _ _ _ _ _ _
  | exact ih1 _ _ _ _ _
  | exact impl_EarliestFrom.mono _ _ _ _
  | exact impl_FloodUntil.mono _ _ _ _ _
  | exact laws_has.mono _ _ _
  | exact laws_sameInts.mono _ _ _
  | exact spec_DrawFloodUntil.mono _ _
  | exact spec_FloodUntil.mono _ _ _ _ _
  | exact LeO.none _
  | refine LeO.ite ?_ ?_
  | refine LeO.bind ?_ (fun _ => ?_)
set_option maxHeartbeats 8000000 in
set_option maxRecDepth 100000 in
theorem laws_FnFlood.calls (k:Nat) (A0:Option Addr) (c0:Nat) (l0:List Int) (r:Bool) (w:World) (hr0:Kd.C (Kd.int .u8) w A0 l0.length l0) (hc0:l0.length≤c0) (h:laws_FnFlood.f k l0=some r) :
  Calls Try.prog 4 #[.slice A0 l0.length c0] w fun e w'=>e=.returned (.bool r)∧Below w.heap.size w w':=by
 have HR0:=Aside0.mk hr0
 have HC0:=Aside0.mk hc0
 clear hr0 hc0
 have HB:=Aside0.mk (Below.refl w.heap.size w)
 have H:(if (l0.length:Int) > 1048576 then (some true) else ((spec_DrawFloodUntil.f k l0).bind fun bt289=>((impl_FloodUntil.f k bt289.1 bt289.2.1 bt289.2.2.1 bt289.2.2.2).bind fun bt295=>((spec_FloodUntil.f k bt289.1 bt289.2.1 bt289.2.2.1 bt289.2.2.2).bind fun bt299=>(if (bt295.2 != bt299.2)=true then (laws_FnFlood.j0 k bt289.1 bt289.2.1 bt289.2.2.1 bt289.2.2.2 bt295.1 bt295.2 true) else ((laws_sameInts.f k bt295.1 bt299.1).bind fun t303=>(laws_FnFlood.j0 k bt289.1 bt289.2.1 bt289.2.2.1 bt289.2.2.2 bt295.1 bt295.2 (!t303))))))))=some r:=h
 clear h
 by_cases c2:(l0.length:Int) > 1048576
 ·rw[if_pos c2] at H
  have c2b0:decide (1048576 < (l0.length:Int))=true:=decide_eq_true c2
  have c2b1:decide (1048576 < l0.length)=true:=decide_eq_true (b9_)
  clear c2
  obtain rfl:=Option.some.inj H
  go_enter Try.func4,Try.ntmps4
  go_wp2
  go_ret
  exact⟨bE,bB⟩
 ·rw[if_neg c2] at H
  have c2b0:decide (1048576 < (l0.length:Int))=false:=decide_eq_false c2
  have c2b1:decide (1048576 < l0.length)=false:=decide_eq_false (b9_)
  clear c2
  replace H:=Option.bind_eq_some_iff.mp H
  obtain⟨⟨t289,t290,t291,t292⟩,A30,H⟩:=H
  have A3:=Aside0.mk A30
  clear A30
  replace H:=Option.bind_eq_some_iff.mp H
  obtain⟨⟨t295,t296⟩,A40,H⟩:=H
  have A4:=Aside0.mk A40
  clear A40
  replace H:=Option.bind_eq_some_iff.mp H
  obtain⟨⟨t299,t300⟩,A50,H⟩:=H
  have A5:=Aside0.mk A50
  clear A50
  have HC6:=Aside0.mk H
  clear H
  go_enter Try.func4,Try.ntmps4
  go_upto_region 6 with (first|((with_reducible refine gate_callee (f:=10) rfl ?_);refine goesA (some 20) rfl rfl Try.func10 #[.slice A0 l0.length c0] rfl ?_;(with_reducible refine(spec_DrawFloodUntil.calls k _ _ l0 t289 t290 t291 t292 _ ?side1 ?side2 A3.out).mono ?_);(case side1=>exact b12_);(case side2=>exact HC0.out);rintro e w7 ⟨v293,rfl,ho0,hb⟩;refine⟨_,rfl,?_⟩;have n0_:=Aside0.mk (Kd.R_lower ho0 (below_size (bB)));have n1_:=Aside0.mk (below_step (bB) hb);clear HB;have HO294:=n0_;have HB:=n1_;clear n0_ n1_;(try clear hb);(try clear hb2);(try clear hk);(try clear hi);(try clear ho0);obtain⟨Ao8,co8,eo8⟩:=Kd.R_slice HO294.out;subst eo8)|((with_reducible refine gate_callee (f:=11) rfl ?_);refine goesA (some 30) rfl rfl Try.func11 #[.slice Ao8 t289.length co8,.int .i64 t290,.int .i64 t291,.int .i64 t292] rfl ?_;(with_reducible refine(impl_FloodUntil.calls k _ _ t289 t290 t291 t292 t295 t296 _ ?side1 ?side2 A4.out).mono ?_);(case side1=>exact bT HO294.out);(case side2=>exact(Kd.R_reads' HO294.out).2.1);rintro e w9 ⟨v297,rfl,ho0,hb⟩;refine⟨_,rfl,?_⟩;have n0_:=Aside0.mk (Kd.R_below (bK HO294.out) hb);have n1_:=Aside0.mk (Kd.R_lower ho0 (below_size (bB)));have n2_:=Aside0.mk (below_step (bB) hb);clear HO294 HB;have HO294:=n0_;have HO298:=n1_;have HB:=n2_;clear n0_ n1_ n2_;(try clear hb);(try clear hb2);(try clear hk);(try clear hi);(try clear ho0))|((with_reducible refine gate_callee (f:=12) rfl ?_);refine goesA (some 38) rfl rfl Try.func12 #[.slice Ao8 t289.length co8,.int .i64 t290,.int .i64 t291,.int .i64 t292] rfl ?_;(with_reducible refine(spec_FloodUntil.calls k _ _ t289 t290 t291 t292 t299 t300 _ ?side1 ?side2 A5.out).mono ?_);(case side1=>exact bT HO294.out);(case side2=>exact(Kd.R_reads' HO294.out).2.1);rintro e w10 ⟨v301,rfl,ho0,hb⟩;refine⟨_,rfl,?_⟩;have n0_:=Aside0.mk (Kd.R_below (bK HO294.out) hb);have n1_:=Aside0.mk (Kd.R_elder' (bK HO298.out) (Kd.R_base ho0) hb);have n2_:=Aside0.mk (Kd.R_lower (Kd.R_new' ho0 (Kd.R_lt (bK HO298.out))) (below_size (bB)));have n3_:=Aside0.mk (below_step (bB) hb);clear HO294 HO298 HB;have HO294:=n0_;have HO298:=n1_;have HO302:=n2_;have HB:=n3_;clear n0_ n1_ n2_ n3_;(try clear hb);(try clear hb2);(try clear hk);(try clear hi);(try clear ho0)))
  (try simp only[Act.put,List.setIfInBounds_toArray,List.set_cons_zero,List.set_cons_succ])
  go_cut [49] (fun v49 wc => ∃ (kq:Nat) (x49_5:Bool),v49=.bool x49_5∧Aside0 (laws_FnFlood.j0 kq t289 t290 t291 t292 t295 t296 x49_5=some r)∧Aside0 (kq≤k)∧Aside0 (Kd.R k58 58 wc w.heap.size (fun _=>True) (.slice Ao8 t289.length co8) t289)∧Aside0 (Kd.R (Kd.int .i64) 3 wc w.heap.size (fun _=>True) v297 t295)∧Aside0 (Below w.heap.size w wc))
  case first =>
   have H:=HC6.out
   clear HC6
   by_cases c11:(t296 != t300)=true
   ·rw[if_pos c11] at H
    have c11b0:(t296 != t300)=true:=c11
    (try (have c11b1:decide (t296=t300)=false:=by simpa using c11))
    (try (have c11b2:(t296 == t300)=false:=by simpa using c11))
    (try (have c11b3 : ¬ (t296=t300):=by simpa using c11))
    clear c11
    (first|rw[c11b0]|(simp only[i64_w,i32_w];rw[c11b0])|skip)
    have H':=Aside0.mk H
    clear H
    go_wp2
    go_meet
    case rel=>exact⟨_,(true),(bR),H',⟨by first|omega|exact Nat.le_refl _⟩,⟨by(with_reducible repeat (first|apply Kd.R_alloc|apply Kd.R_drewN|apply Kd.R_drew));exact HO294.out⟩,⟨by(with_reducible repeat (first|apply Kd.R_alloc|apply Kd.R_drewN|apply Kd.R_drew));exact Kd.R_mono HO298.out (fun _ hk=>trivial)⟩,⟨by repeat (first|(with_reducible first|exact HB.out|apply below_alloc|apply pw_below_drewN|apply below_drew1)|exact HB.out)⟩⟩
   ·rw[if_neg c11] at H
    have c11b0:(t296 != t300)=false:=by simpa using c11
    (try (have c11b1:decide (t296=t300)=true:=by simpa using c11))
    (try (have c11b2:(t296 == t300)=true:=by simpa using c11))
    clear c11
    (first|rw[c11b0]|(simp only[i64_w,i32_w];rw[c11b0])|skip)
    replace H:=Option.bind_eq_some_iff.mp H
    obtain⟨t303,A120,H⟩:=H
    have A12:=Aside0.mk A120
    clear A120
    have H':=Aside0.mk H
    clear H
    obtain⟨Ao13,co13,eo13⟩:=Kd.R_slice HO298.out
    subst eo13
    obtain⟨Ao14,co14,eo14⟩:=Kd.R_slice HO302.out
    subst eo14
    go_wp2_with (first|(go_at_call 13;(with_reducible refine(laws_sameInts.calls k _ _ t295 _ _ t299 t303 _ ?side1 ?side2 ?side3 ?side4 A12.out).mono ?_);(case side1=>exact bT HO298.out);(case side2=>exact(Kd.R_reads' HO298.out).2.1);(case side3=>exact bT HO302.out);(case side4=>exact(Kd.R_reads' HO302.out).2.1);rintro e w' ⟨rfl,⟨nd,rfl⟩⟩))
    go_meet
    case rel=>exact⟨_,(!t303),(bR),H',⟨by first|omega|exact Nat.le_refl _⟩,⟨by(with_reducible repeat (first|apply Kd.R_alloc|apply Kd.R_drewN|apply Kd.R_drew));exact HO294.out⟩,⟨by(with_reducible repeat (first|apply Kd.R_alloc|apply Kd.R_drewN|apply Kd.R_drew));exact Kd.R_mono HO298.out (fun _ hk=>trivial)⟩,⟨by repeat (first|(with_reducible first|exact HB.out|apply below_alloc|apply pw_below_drewN|apply below_drew1)|exact HB.out)⟩⟩
  case rest =>
   clear HC6
   try clear c1
   try clear c2
   try clear c2b0
   try clear c2b1
   try clear p2
   try clear c4
   try clear c10
   try clear c11
   try clear c11b0
   try clear c11b1
   try clear c11b2
   try clear c12
   obtain⟨kq,x49_5,rfl,HA,HJ5,HO_3,HO_7,HB⟩:=hcut
   cases kq with
   | zero=>exact absurd HA.out (by simp[laws_FnFlood.j0])
   | succ kj5 =>
    have H:=HA.out
    clear HA
    simp only[laws_FnFlood.j0] at H
    by_cases c15:x49_5=true
    ·subst c15
     have H1:(some false)=some r:=by rw[if_pos rfl] at H;exact H
     clear H
     have H:=H1
     clear H1
     obtain rfl:=Option.some.inj H
     go_wp2
     go_ret
     exact⟨bE,bB⟩
    ·replace c15:=Bool.eq_false_iff.mpr c15
     subst c15
     have H1:(if t296=true then ((impl_EarliestFrom.f kj5 t289 t290 t291).bind fun bt304=>(if bt304.2=true then (laws_FnFlood.l0 kj5 t292 t295 bt304.1 (bt304.1.length:Int) 0) else (some false))) else (some ((t295.length:Int) == 0)))=some r:=by rw[if_neg (show ¬ (false=true) by decide)] at H;exact H
     clear H
     have H:=H1
     clear H1
     by_cases c16:t296=true
     ·subst c16
      have H1:((impl_EarliestFrom.f kj5 t289 t290 t291).bind fun bt304=>(if bt304.2=true then (laws_FnFlood.l0 kj5 t292 t295 bt304.1 (bt304.1.length:Int) 0) else (some false)))=some r:=by rw[if_pos rfl] at H;exact H
      clear H
      have H:=H1
      clear H1
      replace H:=Option.bind_eq_some_iff.mp H
      obtain⟨⟨t304,t305⟩,A170,H⟩:=H
      have A17:=Aside0.mk A170
      clear A170
      by_cases c18:t305=true
      ·subst c18
       have H1:(laws_FnFlood.l0 kj5 t292 t295 t304 (t304.length:Int) 0)=some r:=by rw[if_pos rfl] at H;exact H
       clear H
       have H:=H1
       clear H1
       have H':=Aside0.mk H
       clear H
       go_wp2_with (first|((with_reducible refine gate_callee (f:=14) rfl ?_);refine goesA (some 59) rfl rfl Try.func14 #[.slice Ao8 t289.length co8,.int .i64 t290,.int .i64 t291] rfl ?_;(with_reducible refine(impl_EarliestFrom.calls kj5 _ _ t289 t290 t291 t304 true _ ?side1 ?side2 A17.out).mono ?_);(case side1=>exact bT HO_3.out);(case side2=>exact(Kd.R_reads' HO_3.out).2.1);rintro e w19 ⟨v306,rfl,ho0,hb⟩;refine⟨_,rfl,?_⟩;have n0_:=Aside0.mk (Kd.R_below (bK HO_3.out) hb);have n1_:=Aside0.mk (Kd.R_elder' (bK HO_7.out) (Kd.R_base ho0) hb);have n2_:=Aside0.mk (Kd.R_lower (Kd.R_new' ho0 (Kd.R_lt (bK HO_7.out))) (below_size (bB)));have n3_:=Aside0.mk (below_step (bB) hb);clear HO_3 HO_7 HB;have HO_3:=n0_;have HO_7:=n1_;have HO307:=n2_;have HB:=n3_;clear n0_ n1_ n2_ n3_;(try clear hb);(try clear hb2);(try clear hk);(try clear hi);(try clear ho0);obtain⟨Ao20,co20,eo20⟩:=Kd.R_slice HO307.out;subst eo20))
       go_loopg [66] kj5 (fun kq v66 w' => ∃ (x66_2:Int),v66=.int .i64 x66_2∧Aside0 (laws_FnFlood.l0 kq t292 t295 t304 (t304.length:Int) x66_2=some r)∧Aside0 (kq≤kj5)∧Aside0 (Kd.R (Kd.int .i64) 3 w' w.heap.size (fun k_=>some k_≠((.slice Ao20 t304.length co20):Value).ownBlock) v297 t295)∧Aside0 (Kd.R (Kd.int .i64) 3 w' w.heap.size (fun k_=>some k_≠(v297:Value).ownBlock) (.slice Ao20 t304.length co20) t304)∧Aside0 (Below w.heap.size w w'))
       case atStart=>exact⟨(0),(bR),H',⟨Nat.le_refl _⟩,⟨by(with_reducible repeat (first|apply Kd.R_alloc|apply Kd.R_drewN|apply Kd.R_drew));exact Kd.R_mono HO_7.out (fun _ hk=>hk.2)⟩,⟨by(with_reducible repeat (first|apply Kd.R_alloc|apply Kd.R_drewN|apply Kd.R_drew));exact Kd.R_mono HO307.out (fun _ hk=>hk.2)⟩,⟨by repeat (first|(with_reducible first|exact HB.out|apply below_alloc|apply pw_below_drewN|apply below_drew1)|exact HB.out)⟩⟩
       case round =>
        clear H'
        try clear c1
        try clear c2
        try clear c2b0
        try clear c2b1
        try clear p2
        try clear c4
        try clear c10
        try clear c11
        try clear c11b0
        try clear c11b1
        try clear c11b2
        try clear c12
        try clear c14
        try clear c15
        try clear c16
        try clear c18
        try clear p2
        obtain⟨x66_2,rfl,HA,HK2,HO_7,HO_64,HB⟩:=hrel
        cases gk with
        | zero=>exact absurd HA.out (by simp[laws_FnFlood.l0])
        | succ k2 =>
         have H:=HA.out
         clear HA
         simp only[laws_FnFlood.l0] at H
         by_cases c21:x66_2 < (t304.length:Int)
         ·rw[if_pos c21] at H
          have c21b0:decide (x66_2 < (t304.length:Int))=true:=decide_eq_true c21
          clear c21
          by_cases c22:0≤x66_2
          ·rw[if_pos c22] at H
           have c22b0:decide (0≤x66_2)=true:=decide_eq_true c22
           clear c22
           by_cases c23:x66_2 < (t304.length:Int)
           ·rw[if_pos c23] at H
            have c23b0:decide (x66_2 < (t304.length:Int))=true:=decide_eq_true c23
            clear c23
            replace H:=Option.bind_eq_some_iff.mp H
            obtain⟨t309,A240,H⟩:=H
            have A24:=Aside0.mk A240
            clear A240
            by_cases c25:(rd t304 x66_2) ≥ 0
            ·rw[if_pos c25] at H
             have c25b0:decide (0≤(rd t304 x66_2))=true:=decide_eq_true c25
             clear c25
             by_cases c26:(t309 != (decide ((rd t304 x66_2)≤t292)))=true
             ·rw[if_pos c26] at H
              have c26b0:(t309 != (decide ((rd t304 x66_2)≤t292)))=true:=c26
              (try (have c26b1:decide (t309=(decide ((rd t304 x66_2)≤t292)))=false:=by simpa using c26))
              (try (have c26b2:(t309 == (decide ((rd t304 x66_2)≤t292)))=false:=by simpa using c26))
              (try (have c26b3 : ¬ (t309=(decide ((rd t304 x66_2)≤t292))):=by simpa using c26))
              clear c26
              obtain rfl:=Option.some.inj H
              have p308:0≤(x66_2:Int):=of_decide_eq_true (bD)
              have q308:x66_2 < (t304.length:Int):=of_decide_eq_true (bD)
              obtain⟨ad308,e308,hx308_0⟩:=Kd.at_int (Kd.R_reads' HO_64.out).2.2 x66_2 p308 q308
              cases e308
              replace p308:=eq_true p308
              replace q308:=eq_true q308
              obtain⟨Ao27,co27,eo27⟩:=Kd.R_slice HO_7.out
              subst eo27
              go_wp2_with (first|((with_reducible refine gate_callee (f:=15) rfl ?_);refine goesA (some 73) rfl rfl Try.func15 #[.slice Ao27 t295.length co27,.int .i64 x66_2] rfl ?_;(with_reducible refine(laws_has.calls k2 _ _ t295 x66_2 t309 _ ?side1 ?side2 A24.out).mono ?_);(case side1=>exact bT HO_7.out);(case side2=>exact(Kd.R_reads' HO_7.out).2.1);rintro e w' ⟨rfl,⟨nd,rfl⟩⟩;refine⟨_,rfl,?_⟩))
              go_ret
              exact⟨bE,bB⟩
             ·rw[if_neg c26] at H
              have c26b0:(t309 != (decide ((rd t304 x66_2)≤t292)))=false:=by simpa using c26
              (try (have c26b1:decide (t309=(decide ((rd t304 x66_2)≤t292)))=true:=by simpa using c26))
              (try (have c26b2:(t309 == (decide ((rd t304 x66_2)≤t292)))=true:=by simpa using c26))
              clear c26
              have H':=Aside0.mk H
              clear H
              have p308:0≤(x66_2:Int):=of_decide_eq_true (bD)
              have q308:x66_2 < (t304.length:Int):=of_decide_eq_true (bD)
              obtain⟨ad308,e308,hx308_0⟩:=Kd.at_int (Kd.R_reads' HO_64.out).2.2 x66_2 p308 q308
              cases e308
              replace p308:=eq_true p308
              replace q308:=eq_true q308
              obtain⟨Ao28,co28,eo28⟩:=Kd.R_slice HO_7.out
              subst eo28
              go_wp2_with (first|((with_reducible refine gate_callee (f:=15) rfl ?_);refine goesA (some 73) rfl rfl Try.func15 #[.slice Ao28 t295.length co28,.int .i64 x66_2] rfl ?_;(with_reducible refine(laws_has.calls k2 _ _ t295 x66_2 t309 _ ?side1 ?side2 A24.out).mono ?_);(case side1=>exact bT HO_7.out);(case side2=>exact(Kd.R_reads' HO_7.out).2.1);rintro e w' ⟨rfl,⟨nd,rfl⟩⟩;refine⟨_,rfl,?_⟩))
              go_roundg k2
              case measure=>have:=HJ5.out;have:=HK2.out;omega
              case rel=>exact⟨(wrap64 (x66_2+1)),(bR),H',⟨by have:=HJ5.out;have:=HK2.out;omega⟩,⟨by(with_reducible repeat (first|apply Kd.R_alloc|apply Kd.R_drewN|apply Kd.R_drew));exact HO_7.out⟩,⟨by(with_reducible repeat (first|apply Kd.R_alloc|apply Kd.R_drewN|apply Kd.R_drew));exact HO_64.out⟩,⟨by repeat (first|(with_reducible first|exact HB.out|apply below_alloc|apply pw_below_drewN|apply below_drew1)|exact HB.out)⟩⟩
            ·rw[if_neg c25] at H
             have c25b0:decide (0≤(rd t304 x66_2))=false:=decide_eq_false c25
             clear c25
             by_cases c29:(t309 != false)=true
             ·rw[if_pos c29] at H
              have c29b0:(t309 != false)=true:=c29
              (try (have c29b1:decide (t309=false)=false:=by simpa using c29))
              (try (have c29b2:(t309 == false)=false:=by simpa using c29))
              (try (have c29b3 : ¬ (t309=false):=by simpa using c29))
              clear c29
              obtain rfl:=Option.some.inj H
              have p308:0≤(x66_2:Int):=of_decide_eq_true (bD)
              have q308:x66_2 < (t304.length:Int):=of_decide_eq_true (bD)
              obtain⟨ad308,e308,hx308_0⟩:=Kd.at_int (Kd.R_reads' HO_64.out).2.2 x66_2 p308 q308
              cases e308
              replace p308:=eq_true p308
              replace q308:=eq_true q308
              obtain⟨Ao30,co30,eo30⟩:=Kd.R_slice HO_7.out
              subst eo30
              go_wp2_with (first|((with_reducible refine gate_callee (f:=15) rfl ?_);refine goesA (some 73) rfl rfl Try.func15 #[.slice Ao30 t295.length co30,.int .i64 x66_2] rfl ?_;(with_reducible refine(laws_has.calls k2 _ _ t295 x66_2 t309 _ ?side1 ?side2 A24.out).mono ?_);(case side1=>exact bT HO_7.out);(case side2=>exact(Kd.R_reads' HO_7.out).2.1);rintro e w' ⟨rfl,⟨nd,rfl⟩⟩;refine⟨_,rfl,?_⟩))
              go_ret
              exact⟨bE,bB⟩
             ·rw[if_neg c29] at H
              have c29b0:(t309 != false)=false:=by simpa using c29
              (try (have c29b1:decide (t309=false)=true:=by simpa using c29))
              (try (have c29b2:(t309 == false)=true:=by simpa using c29))
              clear c29
              have H':=Aside0.mk H
              clear H
              have p308:0≤(x66_2:Int):=of_decide_eq_true (bD)
              have q308:x66_2 < (t304.length:Int):=of_decide_eq_true (bD)
              obtain⟨ad308,e308,hx308_0⟩:=Kd.at_int (Kd.R_reads' HO_64.out).2.2 x66_2 p308 q308
              cases e308
              replace p308:=eq_true p308
              replace q308:=eq_true q308
              obtain⟨Ao31,co31,eo31⟩:=Kd.R_slice HO_7.out
              subst eo31
              go_wp2_with (first|((with_reducible refine gate_callee (f:=15) rfl ?_);refine goesA (some 73) rfl rfl Try.func15 #[.slice Ao31 t295.length co31,.int .i64 x66_2] rfl ?_;(with_reducible refine(laws_has.calls k2 _ _ t295 x66_2 t309 _ ?side1 ?side2 A24.out).mono ?_);(case side1=>exact bT HO_7.out);(case side2=>exact(Kd.R_reads' HO_7.out).2.1);rintro e w' ⟨rfl,⟨nd,rfl⟩⟩;refine⟨_,rfl,?_⟩))
              go_roundg k2
              case measure=>have:=HJ5.out;have:=HK2.out;omega
              case rel=>exact⟨(wrap64 (x66_2+1)),(bR),H',⟨by have:=HJ5.out;have:=HK2.out;omega⟩,⟨by(with_reducible repeat (first|apply Kd.R_alloc|apply Kd.R_drewN|apply Kd.R_drew));exact HO_7.out⟩,⟨by(with_reducible repeat (first|apply Kd.R_alloc|apply Kd.R_drewN|apply Kd.R_drew));exact HO_64.out⟩,⟨by repeat (first|(with_reducible first|exact HB.out|apply below_alloc|apply pw_below_drewN|apply below_drew1)|exact HB.out)⟩⟩
           ·rw[if_neg c23] at H
            exact absurd H (by simp)
          ·rw[if_neg c22] at H
           exact absurd H (by simp)
         ·rw[if_neg c21] at H
          have c21b0:decide (x66_2 < (t304.length:Int))=false:=decide_eq_false c21
          clear c21
          obtain rfl:=Option.some.inj H
          go_wp2
          go_ret
          exact⟨bE,bB⟩
      ·replace c18:=Bool.eq_false_iff.mpr c18
       subst c18
       have H1:(some false)=some r:=by rw[if_neg (show ¬ (false=true) by decide)] at H;exact H
       clear H
       have H:=H1
       clear H1
       obtain rfl:=Option.some.inj H
       go_wp2_with (first|((with_reducible refine gate_callee (f:=14) rfl ?_);refine goesA (some 59) rfl rfl Try.func14 #[.slice Ao8 t289.length co8,.int .i64 t290,.int .i64 t291] rfl ?_;(with_reducible refine(impl_EarliestFrom.calls kj5 _ _ t289 t290 t291 t304 false _ ?side1 ?side2 A17.out).mono ?_);(case side1=>exact bT HO_3.out);(case side2=>exact(Kd.R_reads' HO_3.out).2.1);rintro e w32 ⟨v306,rfl,ho0,hb⟩;refine⟨_,rfl,?_⟩;have n0_:=Aside0.mk (Kd.R_below (bK HO_3.out) hb);have n1_:=Aside0.mk (Kd.R_elder' (bK HO_7.out) (Kd.R_base ho0) hb);have n2_:=Aside0.mk (Kd.R_lower (Kd.R_new' ho0 (Kd.R_lt (bK HO_7.out))) (below_size (bB)));have n3_:=Aside0.mk (below_step (bB) hb);clear HO_3 HO_7 HB;have HO_3:=n0_;have HO_7:=n1_;have HO307:=n2_;have HB:=n3_;clear n0_ n1_ n2_ n3_;(try clear hb);(try clear hb2);(try clear hk);(try clear hi);(try clear ho0)))
       go_ret
       exact⟨bE,bB⟩
     ·replace c16:=Bool.eq_false_iff.mpr c16
      subst c16
      have H1:(some ((t295.length:Int) == 0))=some r:=by rw[if_neg (show ¬ (false=true) by decide)] at H;exact H
      clear H
      have H:=H1
      clear H1
      obtain rfl:=Option.some.inj H
      obtain⟨Ao33,co33,eo33⟩:=Kd.R_slice HO_7.out
      subst eo33
      go_wp2
      go_ret
      exact⟨bE,bB⟩

/-- THE ONE PURE STATEMENT of laws_FnFlood: yours. -/
def laws_FnFlood.Pure:Prop:=∀ (l0:List Int),l0.length≤maxLen→l0.length * 1≤140737488351232→(∀ x ∈ l0,(Lit.int .u8 x).wf=true) → ∃ k,laws_FnFlood.f k l0=some true
theorem laws_FnFlood.walk (P:laws_FnFlood.Pure) (a0:Option Addr) (len0 cap0:Nat) (z0:List Int) (w:World) (w0:(a0=none∧len0=0∧cap0=0∧z0=[]) ∨ ∃ x,a0=some x∧len0≤cap0∧cap0≤maxLen∧z0.length=cap0∧(∀ i,i < z0.length→w.cell? (x.add i)=some (.int .u8 (z0.getD i 0))) ∧ ∀ n ∈ z0,(Lit.int .u8 n).wf=true) (y0:len0 * 1≤140737488351232) :
  Calls Try.prog 4 #[.slice a0 len0 cap0] w fun e w'=>e=.returned (.bool true)∧Below w.heap.size w w':=by
 obtain⟨l0,rfl,hr0,hm0,hw0,hc0⟩:=ReadsInt.ofRowC w0
 obtain⟨k,h⟩:=P l0 hm0 y0 hw0
 refine(laws_FnFlood.calls k _ _ l0 true w (Kd.C_of_reads (d:=(0:Int)) (h1:=fun _=>rfl) hr0) hc0 h).mono ?_
 rintro e w' ⟨rfl,hd⟩
 exact⟨rfl,hd⟩

end Go.Proofs.Ytanegdfncfkinaa.XFnFlood
