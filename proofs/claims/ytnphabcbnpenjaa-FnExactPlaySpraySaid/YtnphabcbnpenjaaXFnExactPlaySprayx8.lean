-- Written by this session's own program (wip/xprint.py) out of the translation; Lean checks it.
import Derived.Test.YtnphabcbnpenjaaXFnExactPlaySprayx0
import Derived.Test.YtnphabcbnpenjaaXFnExactPlaySprayx1
import Derived.Test.YtnphabcbnpenjaaXFnExactPlaySprayx3
import Derived.Test.YtnphabcbnpenjaaXFnExactPlaySprayx6
import Derived.Test.YtnphabcbnpenjaaXFnExactPlaySprayx7
namespace Go.Proofs.Ytnphabcbnpenjaa.XFnExactPlaySpray
open Go.RowKit Go.Proofs.YtnphabcbnpenjaaW.PrintWords Go.Proofs.YtnphabcbnpenjaaW.PrintLast Go.Proofs.YtnphabcbnpenjaaW.PrintMore
attribute [local go_sem] max2_int min2_int max_two min_two max_three min_three max_four min_four   -- for this text's walks alone
set_option linter.unusedVariables false
set_option linter.unusedSimpArgs false

/-! ### laws_FnExactPlaySpray: function 11 -/
mutual
def laws_FnExactPlaySpray.j0:Nat→Int→Int→Int→Int→List (S57)→Int→Bool→List (S60)→Int→Bool→Bool→List Int→Int→Bool→List Int→Int→Bool→Option (Bool)
 | 0,_,_,_,_,_,_,_,_,_,_,_,_,_,_,_,_,_=>none
 | k+1,x0,x1,x2,x3,x4,x13,x14,x15,x17,x18,x66,x284000,x284001,x284002,x295000,x295001,x295002=>if x66=true then (some false) else ((laws_toMeetS.f k x4).bind fun t296=>((laws_eqMeetS.f k x15 t296).bind fun t299=>(if t299=true then ((laws_markMeetS.f k x15 1).bind fun bt300=>(if bt300.1 < 0 then (laws_FnExactPlaySpray.j1 k x0 x1 x2 x3 x4 x13 x14 true x284000 x284001 x284002 x295000 x295001 x295002) else ((laws_eqSpray.f k x295000 x295001 x295002 x284000 x284001 x284002).bind fun t302=>(if t302=true then (if x17=x13 then (laws_FnExactPlaySpray.j1 k x0 x1 x2 x3 x4 x13 x14 (x18 != x14) x284000 x284001 x284002 x295000 x295001 x295002) else (laws_FnExactPlaySpray.j1 k x0 x1 x2 x3 x4 x13 x14 true x284000 x284001 x284002 x295000 x295001 x295002)) else (laws_FnExactPlaySpray.j1 k x0 x1 x2 x3 x4 x13 x14 true x284000 x284001 x284002 x295000 x295001 x295002))))) else (some false))))
def laws_FnExactPlaySpray.j1:Nat→Int→Int→Int→Int→List (S57)→Int→Bool→Bool→List Int→Int→Bool→List Int→Int→Bool→Option (Bool)
 | 0,_,_,_,_,_,_,_,_,_,_,_,_,_,_=>none
 | k+1,x0,x1,x2,x3,x4,x13,x14,x92,x284000,x284001,x284002,x295000,x295001,x295002=>if x92=true then (some false) else ((laws_markSpray.f k x295000 x295001 x295002 1).bind fun bt303=>((laws_heldSpray.f k bt303.2 x295001 x295002 1).bind fun t305=>(if t305 < 0 then (some false) else (if t305=bt303.1 then ((laws_toMeetS.f k x4).bind fun t306=>((impl_PlaySpray.f k x0 x1 x2 x3 t306).bind fun bt309=>((laws_eqSpray.f k bt309.1 bt309.2.1 bt309.2.2.1 x284000 x284001 x284002).bind fun t317=>(if t317=true then (if bt309.2.2.2.1=x13 then (laws_FnExactPlaySpray.j2 k bt303.1 (bt309.2.2.2.2 != x14) bt303.2 x295001 x295002) else (laws_FnExactPlaySpray.j2 k bt303.1 true bt303.2 x295001 x295002)) else (laws_FnExactPlaySpray.j2 k bt303.1 true bt303.2 x295001 x295002))))) else (some false)))))
def laws_FnExactPlaySpray.j2:Nat→Int→Bool→List Int→Int→Bool→Option (Bool)
 | 0,_,_,_,_,_=>none
 | k+1,x20,x128,x295000,x295001,x295002=>if x128=true then (some false) else ((laws_heldSpray.f k x295000 x295001 x295002 1).bind fun t318=>(if t318 < 0 then (some false) else (if t318=x20 then (some true) else (some false))))
end
def laws_FnExactPlaySpray.f (k:Nat) (a0:Int) (a1:Int) (a2:Int) (a3:Int) (l4:List (S57)):Option (Bool):=(laws_szMeetS.f l4 1048576).bind fun t272=>(if t272 < 0 then (some true) else ((laws_toMeetS.f k l4).bind fun t273=>((spec_PlaySpray.f k a0 a1 a2 a3 t273).bind fun bt276=>((laws_toMeetS.f k l4).bind fun t284=>((impl_PlaySpray.f k a0 a1 a2 a3 t284).bind fun bt287=>((laws_eqSpray.f k bt287.1 bt287.2.1 bt287.2.2.1 bt276.1 bt276.2.1 bt276.2.2.1).bind fun t295=>(if t295=true then (if bt287.2.2.2.1=bt276.2.2.2.1 then (laws_FnExactPlaySpray.j0 k a0 a1 a2 a3 l4 bt276.2.2.2.1 bt276.2.2.2.2 t284 bt287.2.2.2.1 bt287.2.2.2.2 (bt287.2.2.2.2 != bt276.2.2.2.2) bt276.1 bt276.2.1 bt276.2.2.1 bt287.1 bt287.2.1 bt287.2.2.1) else (laws_FnExactPlaySpray.j0 k a0 a1 a2 a3 l4 bt276.2.2.2.1 bt276.2.2.2.2 t284 bt287.2.2.2.1 bt287.2.2.2.2 true bt276.1 bt276.2.1 bt276.2.2.1 bt287.1 bt287.2.1 bt287.2.2.1)) else (laws_FnExactPlaySpray.j0 k a0 a1 a2 a3 l4 bt276.2.2.2.1 bt276.2.2.2.2 t284 bt287.2.2.2.1 bt287.2.2.2.2 true bt276.1 bt276.2.1 bt276.2.2.1 bt287.1 bt287.2.1 bt287.2.2.1))))))))
theorem laws_FnExactPlaySpray.mono_l : ∀ k,(∀ y0 y1 y2 y3 y4 y5 y6 y7 y8 y9 y10 y11 y12 y13 y14 y15 y16,LeO (laws_FnExactPlaySpray.j0 k y0 y1 y2 y3 y4 y5 y6 y7 y8 y9 y10 y11 y12 y13 y14 y15 y16) (laws_FnExactPlaySpray.j0 (k+1) y0 y1 y2 y3 y4 y5 y6 y7 y8 y9 y10 y11 y12 y13 y14 y15 y16))∧(∀ y0 y1 y2 y3 y4 y5 y6 y7 y8 y9 y10 y11 y12 y13,LeO (laws_FnExactPlaySpray.j1 k y0 y1 y2 y3 y4 y5 y6 y7 y8 y9 y10 y11 y12 y13) (laws_FnExactPlaySpray.j1 (k+1) y0 y1 y2 y3 y4 y5 y6 y7 y8 y9 y10 y11 y12 y13))∧(∀ y0 y1 y2 y3 y4,LeO (laws_FnExactPlaySpray.j2 k y0 y1 y2 y3 y4) (laws_FnExactPlaySpray.j2 (k+1) y0 y1 y2 y3 y4))
 | 0=>⟨fun _ _ _ _ _ _ _ _ _ _ _ _ _ _ _ _ _ r h=>by simp[laws_FnExactPlaySpray.j0] at h,fun _ _ _ _ _ _ _ _ _ _ _ _ _ _ r h=>by simp[laws_FnExactPlaySpray.j1] at h,fun _ _ _ _ _ r h=>by simp[laws_FnExactPlaySpray.j2] at h⟩
 | k+1=>by
  obtain⟨ih0,ih1,ih2⟩:=laws_FnExactPlaySpray.mono_l k
  refine⟨?_,?_,?_⟩
  ·intro y0 y1 y2 y3 y4 y5 y6 y7 y8 y9 y10 y11 y12 y13 y14 y15 y16
   unfold laws_FnExactPlaySpray.j0
   repeat' first
   | (with_reducible exact ih0 _ _ _ _ _ _ _ _ _ _ _ _ _ _ _ _ _)
   | (with_reducible exact ih1 _ _ _ _ _ _ _ _ _ _ _ _ _ _)
   | (with_reducible exact ih2 _ _ _ _ _)
   | (with_reducible exact impl_PlaySpray.mono _ _ _ _ _ _)
   | (with_reducible exact laws_eqMeetS.mono _ _ _)
   | (with_reducible exact laws_eqSpray.mono _ _ _ _ _ _ _)
   | (with_reducible exact laws_heldSpray.mono _ _ _ _ _)
   | (with_reducible exact laws_markMeetS.mono _ _ _)
   | (with_reducible exact laws_markSpray.mono _ _ _ _ _)
   | (with_reducible exact laws_toMeetS.mono _ _)
   | (with_reducible exact spec_PlaySpray.mono _ _ _ _ _ _)
   | (with_reducible exact LeO.refl _)
   | (with_reducible exact LeO.none _)
   | (with_reducible refine LeO.ite ?_ ?_)
   | (with_reducible refine LeO.bind ?_ (fun _ => ?_))
   | exact ih0 _ _ _ _ _ _ _ _ _ _ _ _ _ _ _ _ _
   | exact ih1 _ _ _ _ _ _ _ _ _ _ _ _ _ _
   | exact ih2 _ _ _ _ _
   | exact impl_PlaySpray.mono _ _ _ _ _ _
   | exact laws_eqMeetS.mono _ _ _
   | exact laws_eqSpray.mono _ _ _ _ _ _ _
   | exact laws_heldSpray.mono _ _ _ _ _
   | exact laws_markMeetS.mono _ _ _
   | exact laws_markSpray.mono _ _ _ _ _
   | exact laws_toMeetS.mono _ _
   | exact spec_PlaySpray.mono _ _ _ _ _ _
   | exact LeO.none _
   | refine LeO.ite ?_ ?_
   | refine LeO.bind ?_ (fun _ => ?_)
  ·intro y0 y1 y2 y3 y4 y5 y6 y7 y8 y9 y10 y11 y12 y13
   unfold laws_FnExactPlaySpray.j1
   repeat' first
   | (with_reducible exact ih0 _ _ _ _ _ _ _ _ _ _ _ _ _ _ _ _ _)
   | (with_reducible exact ih1 _ _ _ _ _ _ _ _ _ _ _ _ _ _)
   | (with_reducible exact ih2 _ _ _ _ _)
   | (with_reducible exact impl_PlaySpray.mono _ _ _ _ _ _)
   | (with_reducible exact laws_eqMeetS.mono _ _ _)
   | (with_reducible exact laws_eqSpray.mono _ _ _ _ _ _ _)
   | (with_reducible exact laws_heldSpray.mono _ _ _ _ _)
   | (with_reducible exact laws_markMeetS.mono _ _ _)
   | (with_reducible exact laws_markSpray.mono _ _ _ _ _)
   | (with_reducible exact laws_toMeetS.mono _ _)
   | (with_reducible exact spec_PlaySpray.mono _ _ _ _ _ _)
   | (with_reducible exact LeO.refl _)
   | (with_reducible exact LeO.none _)
   | (with_reducible refine LeO.ite ?_ ?_)
   | (with_reducible refine LeO.bind ?_ (fun _ => ?_))
   | exact ih0 _ _ _ _ _ _ _ _ _ _ _ _ _ _ _ _ _
   | exact ih1 _ _ _ _ _ _ _ _ _ _ _ _ _ _
   | exact ih2 _ _ _ _ _
   | exact impl_PlaySpray.mono _ _ _ _ _ _
   | exact laws_eqMeetS.mono _ _ _
   | exact laws_eqSpray.mono _ _ _ _ _ _ _
   | exact laws_heldSpray.mono _ _ _ _ _
   | exact laws_markMeetS.mono _ _ _
   | exact laws_markSpray.mono _ _ _ _ _
   | exact laws_toMeetS.mono _ _
   | exact spec_PlaySpray.mono _ _ _ _ _ _
   | exact LeO.none _
   | refine LeO.ite ?_ ?_
   | refine LeO.bind ?_ (fun _ => ?_)
  ·intro y0 y1 y2 y3 y4
   unfold laws_FnExactPlaySpray.j2
   repeat' first
   | (with_reducible exact ih0 _ _ _ _ _ _ _ _ _ _ _ _ _ _ _ _ _)
   | (with_reducible exact ih1 _ _ _ _ _ _ _ _ _ _ _ _ _ _)
   | (with_reducible exact ih2 _ _ _ _ _)
   | (with_reducible exact impl_PlaySpray.mono _ _ _ _ _ _)
   | (with_reducible exact laws_eqMeetS.mono _ _ _)
   | (with_reducible exact laws_eqSpray.mono _ _ _ _ _ _ _)
   | (with_reducible exact laws_heldSpray.mono _ _ _ _ _)
   | (with_reducible exact laws_markMeetS.mono _ _ _)
   | (with_reducible exact laws_markSpray.mono _ _ _ _ _)
   | (with_reducible exact laws_toMeetS.mono _ _)
   | (with_reducible exact spec_PlaySpray.mono _ _ _ _ _ _)
   | (with_reducible exact LeO.refl _)
   | (with_reducible exact LeO.none _)
   | (with_reducible refine LeO.ite ?_ ?_)
   | (with_reducible refine LeO.bind ?_ (fun _ => ?_))
   | exact ih0 _ _ _ _ _ _ _ _ _ _ _ _ _ _ _ _ _
   | exact ih1 _ _ _ _ _ _ _ _ _ _ _ _ _ _
   | exact ih2 _ _ _ _ _
   | exact impl_PlaySpray.mono _ _ _ _ _ _
   | exact laws_eqMeetS.mono _ _ _
   | exact laws_eqSpray.mono _ _ _ _ _ _ _
   | exact laws_heldSpray.mono _ _ _ _ _
   | exact laws_markMeetS.mono _ _ _
   | exact laws_markSpray.mono _ _ _ _ _
   | exact laws_toMeetS.mono _ _
   | exact spec_PlaySpray.mono _ _ _ _ _ _
   | exact LeO.none _
   | refine LeO.ite ?_ ?_
   | refine LeO.bind ?_ (fun _ => ?_)
theorem laws_FnExactPlaySpray.mono : ∀ a0 a1 a2 a3 a4 k,LeO (laws_FnExactPlaySpray.f k a0 a1 a2 a3 a4) (laws_FnExactPlaySpray.f (k+1) a0 a1 a2 a3 a4):=by
 intro a0 a1 a2 a3 a4 k
 obtain⟨ih0,ih1,ih2⟩:=laws_FnExactPlaySpray.mono_l k
 unfold laws_FnExactPlaySpray.f
 repeat' first
  | (with_reducible exact ih0 _ _ _ _ _ _ _ _ _ _ _ _ _ _ _ _ _)
  | (with_reducible exact ih1 _ _ _ _ _ _ _ _ _ _ _ _ _ _)
  | (with_reducible exact ih2 _ _ _ _ _)
  | (with_reducible exact impl_PlaySpray.mono _ _ _ _ _ _)
  | (with_reducible exact laws_eqMeetS.mono _ _ _)
  | (with_reducible exact laws_eqSpray.mono _ _ _ _ _ _ _)
  | (with_reducible exact laws_heldSpray.mono _ _ _ _ _)
  | (with_reducible exact laws_markMeetS.mono _ _ _)
  | (with_reducible exact laws_markSpray.mono _ _ _ _ _)
  | (with_reducible exact laws_toMeetS.mono _ _)
  | (with_reducible exact spec_PlaySpray.mono _ _ _ _ _ _)
  | (with_reducible exact LeO.refl _)
  | (with_reducible exact LeO.none _)
  | (with_reducible refine LeO.ite ?_ ?_)
  | (with_reducible refine LeO.bind ?_ (fun _ => ?_))
  | exact ih0 _ _ _ _ _ _ _ _ _ _ _ _ _ _ _ _ _
  | exact ih1 _ _ _ _ _ _ _ _ _ _ _ _ _ _
  | exact ih2 _ _ _ _ _
  | exact impl_PlaySpray.mono _ _ _ _ _ _
  | exact laws_eqMeetS.mono _ _ _
  | exact laws_eqSpray.mono _ _ _ _ _ _ _
  | exact laws_heldSpray.mono _ _ _ _ _
  | exact laws_markMeetS.mono _ _ _
  | exact laws_markSpray.mono _ _ _ _ _
  | exact laws_toMeetS.mono _ _
  | exact spec_PlaySpray.mono _ _ _ _ _ _
  | exact LeO.none _
  | refine LeO.ite ?_ ?_
  | refine LeO.bind ?_ (fun _ => ?_)
set_option maxHeartbeats 8000000 in
set_option maxRecDepth 100000 in
theorem laws_FnExactPlaySpray.calls (k:Nat) (a0:Int) (a1:Int) (a2:Int) (a3:Int) (A4:Option Addr) (c4:Nat) (l4:List (S57)) (r:Bool) (w:World) (hr4:Kd.C k57 w A4 l4.length l4) (hc4:l4.length≤c4) (h:laws_FnExactPlaySpray.f k a0 a1 a2 a3 l4=some r) :
  Calls Try.prog 11 #[.int .i64 a0,.int .i64 a1,.int .i64 a2,.int .i64 a3,.slice A4 l4.length c4] w fun e w'=>e=.returned (.bool r)∧Below w.heap.size w w':=by
 have hu39:=Try.underlying39
 have HR4:=Aside0.mk hr4
 have HC4:=Aside0.mk hc4
 clear hr4 hc4
 have HB:=Aside0.mk (Below.refl w.heap.size w)
 have H:((laws_szMeetS.f l4 1048576).bind fun t272=>(if t272 < 0 then (some true) else ((laws_toMeetS.f k l4).bind fun t273=>((spec_PlaySpray.f k a0 a1 a2 a3 t273).bind fun bt276=>((laws_toMeetS.f k l4).bind fun t284=>((impl_PlaySpray.f k a0 a1 a2 a3 t284).bind fun bt287=>((laws_eqSpray.f k bt287.1 bt287.2.1 bt287.2.2.1 bt276.1 bt276.2.1 bt276.2.2.1).bind fun t295=>(if t295=true then (if bt287.2.2.2.1=bt276.2.2.2.1 then (laws_FnExactPlaySpray.j0 k a0 a1 a2 a3 l4 bt276.2.2.2.1 bt276.2.2.2.2 t284 bt287.2.2.2.1 bt287.2.2.2.2 (bt287.2.2.2.2 != bt276.2.2.2.2) bt276.1 bt276.2.1 bt276.2.2.1 bt287.1 bt287.2.1 bt287.2.2.1) else (laws_FnExactPlaySpray.j0 k a0 a1 a2 a3 l4 bt276.2.2.2.1 bt276.2.2.2.2 t284 bt287.2.2.2.1 bt287.2.2.2.2 true bt276.1 bt276.2.1 bt276.2.2.1 bt287.1 bt287.2.1 bt287.2.2.1)) else (laws_FnExactPlaySpray.j0 k a0 a1 a2 a3 l4 bt276.2.2.2.1 bt276.2.2.2.2 t284 bt287.2.2.2.1 bt287.2.2.2.2 true bt276.1 bt276.2.1 bt276.2.2.1 bt287.1 bt287.2.1 bt287.2.2.1)))))))))=some r:=h
 clear h
 replace H:=Option.bind_eq_some_iff.mp H
 obtain⟨t272,A60,H⟩:=H
 have A6:=Aside0.mk A60
 clear A60
 by_cases c7:t272 < 0
 ·rw[if_pos c7] at H
  have c7b0:decide (t272 < 0)=true:=decide_eq_true c7
  clear c7
  obtain rfl:=Option.some.inj H
  go_enter Try.func11,Try.ntmps11
  go_wp2_with (first|((with_reducible refine gate_callee (f:=68) rfl ?_);refine goesA (some 27) rfl rfl Try.func68 #[.slice A4 l4.length c4,.int .i64 1048576] rfl ?_;(with_reducible refine(laws_szMeetS.calls _ _ l4 1048576 t272 _ ?side1 ?side2 A6.out).mono ?_);(case side1=>repeat (first|exact HR4.out|(with_reducible refine Kd.C_alloc ?_ _)|(with_reducible refine Kd.C_drewN ?_ _)|(with_reducible refine Kd.C_drew ?_)));(case side2=>exact HC4.out);rintro e w' ⟨rfl,⟨nd,rfl⟩⟩;refine⟨_,rfl,?_⟩))
  go_ret
  exact⟨bE,bB⟩
 ·rw[if_neg c7] at H
  have c7b0:decide (t272 < 0)=false:=decide_eq_false c7
  clear c7
  replace H:=Option.bind_eq_some_iff.mp H
  obtain⟨t273,A80,H⟩:=H
  have A8:=Aside0.mk A80
  clear A80
  replace H:=Option.bind_eq_some_iff.mp H
  obtain⟨⟨t276,t279,t280,t281,t282⟩,A90,H⟩:=H
  have A9:=Aside0.mk A90
  clear A90
  replace H:=Option.bind_eq_some_iff.mp H
  obtain⟨t284,A100,H⟩:=H
  have A10:=Aside0.mk A100
  clear A100
  replace H:=Option.bind_eq_some_iff.mp H
  obtain⟨⟨t287,t290,t291,t292,t293⟩,A110,H⟩:=H
  have A11:=Aside0.mk A110
  clear A110
  have HC12:=Aside0.mk H
  clear H
  go_enter Try.func11,Try.ntmps11
  go_upto_region 8 with (first|((with_reducible refine gate_callee (f:=68) rfl ?_);refine goesA (some 27) rfl rfl Try.func68 #[.slice A4 l4.length c4,.int .i64 1048576] rfl ?_;(with_reducible refine(laws_szMeetS.calls _ _ l4 1048576 t272 _ ?side1 ?side2 A6.out).mono ?_);(case side1=>repeat (first|exact HR4.out|(with_reducible refine Kd.C_alloc ?_ _)|(with_reducible refine Kd.C_drewN ?_ _)|(with_reducible refine Kd.C_drew ?_)));(case side2=>exact HC4.out);rintro e w' ⟨rfl,⟨nd,rfl⟩⟩;refine⟨_,rfl,?_⟩)|((with_reducible refine gate_callee (f:=70) rfl ?_);refine goesA (some 36) rfl rfl Try.func70 #[.slice A4 l4.length c4] rfl ?_;(with_reducible refine(laws_toMeetS.calls k _ _ l4 t273 _ ?side1 ?side2 A8.out).mono ?_);(case side1=>repeat (first|exact HR4.out|(with_reducible refine Kd.C_alloc ?_ _)|(with_reducible refine Kd.C_drewN ?_ _)|(with_reducible refine Kd.C_drew ?_)));(case side2=>exact HC4.out);rintro e w13 ⟨v274,rfl,ho0,hb⟩;refine⟨_,rfl,?_⟩;have n0_:=Aside0.mk (Kd.R_lower ho0 (below_size (bB)));have n1_:=Aside0.mk (below_step (bB) hb);clear HB;have HO275:=n0_;have HB:=n1_;clear n0_ n1_;(try clear hb);(try clear hb2);(try clear hk);(try clear hi);(try clear ho0);obtain⟨Ao14,co14,eo14⟩:=Kd.R_slice HO275.out;subst eo14)|((with_reducible refine gate_callee (f:=69) rfl ?_);refine goesA (some 37) rfl rfl Try.func69 #[.int .i64 a0,.int .i64 a1,.int .i64 a2,.int .i64 a3,.slice Ao14 t273.length co14] rfl ?_;(with_reducible refine(spec_PlaySpray.calls k a0 a1 a2 a3 _ _ t273 t276 t279 t280 t281 t282 _ ?side1 ?side2 A9.out).mono ?_);(case side1=>exact bT HO275.out);(case side2=>exact(Kd.R_reads' HO275.out).2.1);rintro e w15 ⟨v277,rfl,ho0,hb⟩;refine⟨_,rfl,?_⟩;have n0_:=Aside0.mk (Kd.R_below (bK HO275.out) hb);have n1_:=Aside0.mk (Kd.R_lower ho0 (below_size (bB)));have n2_:=Aside0.mk (below_step (bB) hb);clear HO275 HB;have HO275:=n0_;have HO278:=n1_;have HB:=n2_;clear n0_ n1_ n2_;(try clear hb);(try clear hb2);(try clear hk);(try clear hi);(try clear ho0))|((with_reducible refine gate_dst (N:=12) rfl ?_);refine box_event ?hg (N:=12) ?hd (cs:=#[.slice none 0 0,.int .i64 0,.bool false]) (t:=39) ?hr ?_;(case hd=>rfl);(case hg=>rfl);(case hr=>first|(go_simp;done)|(go_simp;rfl));intro gb283 hg w16 hbox hb;have n0_:=Aside0.mk (Kd.R_below (bK HO275.out) hb);have n1_:=Aside0.mk (Kd.R_below (bK HO278.out) hb);have n2_:=Aside0.mk (below_step (bB) hb);have n3_:=Aside0.mk (hbox);have n4_:=Aside0.mk ((bG:w.heap.size≤gb283));have n5_:=Aside0.mk ((bG:w.heap.size≤gb283));clear HO275 HO278 HB;have HO275:=n0_;have HO278:=n1_;have HB:=n2_;have BK283:=n3_;have GW283:=n4_;have GE283:=n5_;clear n0_ n1_ n2_ n3_ n4_ n5_;clear hb hbox hg;obtain⟨Ao17,co17,eo17⟩:=Kd.R_slice HO278.out;subst eo17;obtain⟨hcz18_0,hcz18_1,hcz18_2⟩:=cC3 BK283.out;obtain⟨hfz18_0,hfz18_1,hfz18_2⟩:=cF3 BK283.out)|((with_reducible refine gate_callee (f:=70) rfl ?_);refine goesA (some 42) rfl rfl Try.func70 #[.slice A4 l4.length c4] rfl ?_;(with_reducible refine(laws_toMeetS.calls k _ _ l4 t284 _ ?side1 ?side2 A10.out).mono ?_);(case side1=>exact Kd.C_below HR4.out (bS GE283.out));(case side2=>exact HC4.out);rintro e w19 ⟨v285,rfl,ho0,hb⟩;refine⟨_,rfl,?_⟩;have n0_:=Aside0.mk (Kd.R_elder' (by(with_reducible repeat (first|apply Kd.R_alloc|apply Kd.R_drewN|apply Kd.R_drew));exact(Kd.R_mono (Kd.R_far (p:=⟨gb283,2,none⟩) (Kd.R_far (p:=⟨gb283,1,none⟩) (Kd.R_far (p:=⟨gb283,0,none⟩) (Kd.R_types HO275.out BK283.out (by decide)) (fun _ hk=>hk.2) (.slice Ao17 t276.length co17)) (fun _ hk=>hk.2) (.int .i64 t279)) (fun _ hk=>hk.2) (.bool t280)) (fun _ h_=>h_.1))) (Kd.R_base ho0) hb);have n1_:=Aside0.mk (Kd.R_below (by(with_reducible repeat (first|apply Kd.R_alloc|apply Kd.R_drewN|apply Kd.R_drew));exact(Kd.R_mono (Kd.R_far (p:=⟨gb283,2,none⟩) (Kd.R_far (p:=⟨gb283,1,none⟩) (Kd.R_far (p:=⟨gb283,0,none⟩) (Kd.R_types HO278.out BK283.out (by decide)) (fun _ hk=>hk.2) (.slice Ao17 t276.length co17)) (fun _ hk=>hk.2) (.int .i64 t279)) (fun _ hk=>hk.2) (.bool t280)) (fun _ h_=>h_.1))) hb);have n2_:=Aside0.mk (Kd.R_lower (Kd.R_new' ho0 (Kd.R_lt (by(with_reducible repeat (first|apply Kd.R_alloc|apply Kd.R_drewN|apply Kd.R_drew));exact(Kd.R_mono (Kd.R_far (p:=⟨gb283,2,none⟩) (Kd.R_far (p:=⟨gb283,1,none⟩) (Kd.R_far (p:=⟨gb283,0,none⟩) (Kd.R_types HO275.out BK283.out (by decide)) (fun _ hk=>hk.2) (.slice Ao17 t276.length co17)) (fun _ hk=>hk.2) (.int .i64 t279)) (fun _ hk=>hk.2) (.bool t280)) (fun _ h_=>h_.1))))) (below_size (bS GE283.out)));have n3_:=Aside0.mk (blk_below (g:=gb283) (o:=.cells #[.slice Ao17 t276.length co17,.int .i64 t279,.bool t280] 39 (0,0)) (by(with_reducible repeat (first|refine blk_drewN ?_ _|refine blk_drew ?_|refine blk_alloc ?_ _));refine blk_put (cs:=#[.slice Ao17 t276.length co17,.int .i64 t279,.bool false]) ?_ 2 _ rfl;(with_reducible repeat (first|refine blk_drewN ?_ _|refine blk_drew ?_|refine blk_alloc ?_ _));refine blk_put (cs:=#[.slice Ao17 t276.length co17,.int .i64 0,.bool false]) ?_ 1 _ rfl;(with_reducible repeat (first|refine blk_drewN ?_ _|refine blk_drew ?_|refine blk_alloc ?_ _));refine blk_put (cs:=#[.slice none 0 0,.int .i64 0,.bool false]) ?_ 0 _ rfl;(with_reducible repeat (first|refine blk_drewN ?_ _|refine blk_drew ?_|refine blk_alloc ?_ _));exact BK283.out) hb);have n4_:=Aside0.mk (below_step (bS GE283.out) hb);clear HO275 HO278 BK283 HB;have HO275:=n0_;have HO278:=n1_;have HO286:=n2_;have BK283:=n3_;have HB:=n4_;clear n0_ n1_ n2_ n3_ n4_;(try clear hb);(try clear hb2);(try clear hk);(try clear hi);(try clear ho0);obtain⟨Ao20,co20,eo20⟩:=Kd.R_slice HO286.out;subst eo20)|((with_reducible refine gate_callee (f:=71) rfl ?_);refine goesA (some 49) rfl rfl Try.func71 #[.int .i64 a0,.int .i64 a1,.int .i64 a2,.int .i64 a3,.slice Ao20 t284.length co20] rfl ?_;(with_reducible refine(impl_PlaySpray.calls k a0 a1 a2 a3 _ _ t284 t287 t290 t291 t292 t293 _ ?side1 ?side2 A11.out).mono ?_);(case side1=>exact bT HO286.out);(case side2=>exact(Kd.R_reads' HO286.out).2.1);rintro e w21 ⟨v288,rfl,ho0,hb⟩;refine⟨_,rfl,?_⟩;have n0_:=Aside0.mk (Kd.R_below (bK HO275.out) hb);have n1_:=Aside0.mk (Kd.R_elder' (bK HO278.out) (Kd.R_base ho0) hb);have n2_:=Aside0.mk (Kd.R_below (bK HO286.out) hb);have n3_:=Aside0.mk (Kd.R_lower (Kd.R_new' ho0 (Kd.R_lt (bK HO278.out))) (below_size (bS GE283.out)));have n4_:=Aside0.mk (bM BK283.out hb);have n5_:=Aside0.mk (below_step (bS GE283.out) hb);clear HO275 HO278 HO286 BK283 HB;have HO275:=n0_;have HO278:=n1_;have HO286:=n2_;have HO289:=n3_;have BK283:=n4_;have HB:=n5_;clear n0_ n1_ n2_ n3_ n4_ n5_;(try clear hb);(try clear hb2);(try clear hk);(try clear hi);(try clear ho0))|((with_reducible refine gate_dst (N:=16) rfl ?_);refine box_event ?hg (N:=16) ?hd (cs:=#[.slice none 0 0,.int .i64 0,.bool false]) (t:=39) ?hr ?_;(case hd=>rfl);(case hg=>rfl);(case hr=>first|(go_simp;done)|(go_simp;rfl));intro gb294 hg w22 hbox hb;have n0_:=Aside0.mk (Kd.R_below (bK HO275.out) hb);have n1_:=Aside0.mk (Kd.R_below (bK HO278.out) hb);have n2_:=Aside0.mk (Kd.R_below (bK HO286.out) hb);have n3_:=Aside0.mk (Kd.R_below (bK HO289.out) hb);have n4_:=Aside0.mk (bM BK283.out hb);have n5_:=Aside0.mk (below_step (bS GE283.out) hb);have n6_:=Aside0.mk (hbox);have n7_:=Aside0.mk ((by rw[hg];exact(below_size (bS GE283.out)):w.heap.size≤gb294));have n8_:=Aside0.mk ((by rw[hg];exact(below_size (bS GE283.out)):w.heap.size≤gb294));have n9_:=Aside0.mk ((bN BK283.out hg:gb283≠gb294));have n10_:=Aside0.mk ((bO BK283.out hg:gb294≠gb283));clear HO275 HO278 HO286 HO289 BK283 HB;have HO275:=n0_;have HO278:=n1_;have HO286:=n2_;have HO289:=n3_;have BK283:=n4_;have HB:=n5_;have BK294:=n6_;have GW294:=n7_;have GE294:=n8_;have NB283_294:=n9_;have NB294_283:=n10_;clear n0_ n1_ n2_ n3_ n4_ n5_ n6_ n7_ n8_ n9_ n10_;clear hb hbox hg;obtain⟨Ao23,co23,eo23⟩:=Kd.R_slice HO289.out;subst eo23;have hnb24:=NB294_283.out;have hnc24:=NB283_294.out;obtain⟨hcz25_0,hcz25_1,hcz25_2⟩:=cC3 BK294.out;obtain⟨hfz25_0,hfz25_1,hfz25_2⟩:=cF3 BK294.out))
  (try simp only[Act.put,List.setIfInBounds_toArray,List.set_cons_zero,List.set_cons_succ])
  go_cut [66] (fun v66 wc => ∃ (kq:Nat) (x66_11:Bool),v66=.bool x66_11∧Aside0 (laws_FnExactPlaySpray.j0 kq a0 a1 a2 a3 l4 t281 t282 t284 t292 t293 x66_11 t276 t279 t280 t287 t290 t291=some r)∧Aside0 (kq≤k)∧Aside0 (Kd.R k60 60 wc w.heap.size (fun _=>True) (.slice Ao20 t284.length co20) t284)∧Aside0 (Kd.R (Kd.int .i64) 3 wc w.heap.size (fun k_=>some k_≠((.slice Ao23 t287.length co23):Value).ownBlock) (.slice Ao17 t276.length co17) t276)∧Aside0 (Kd.R (Kd.int .i64) 3 wc w.heap.size (fun k_=>some k_≠((.slice Ao17 t276.length co17):Value).ownBlock) (.slice Ao23 t287.length co23) t287)∧Aside0 (wc.heap[gb283]?=some (.cells #[(.slice Ao17 t276.length co17),.int .i64 t279,.bool t280] 39 (0,0)))∧Aside0 (wc.heap[gb294]?=some (.cells #[(.slice Ao23 t287.length co23),.int .i64 t290,.bool t291] 39 (0,0)))∧Aside0 (Below w.heap.size w wc))
  case first =>
   have H:=HC12.out
   clear HC12
   replace H:=Option.bind_eq_some_iff.mp H
   obtain⟨t295,A260,H⟩:=H
   have A26:=Aside0.mk A260
   clear A260
   by_cases c27:t295=true
   ·subst c27
    have H1:(if t292=t281 then (laws_FnExactPlaySpray.j0 k a0 a1 a2 a3 l4 t281 t282 t284 t292 t293 (t293 != t282) t276 t279 t280 t287 t290 t291) else (laws_FnExactPlaySpray.j0 k a0 a1 a2 a3 l4 t281 t282 t284 t292 t293 true t276 t279 t280 t287 t290 t291))=some r:=by rw[if_pos rfl] at H;exact H
    clear H
    have H:=H1
    clear H1
    by_cases c28:t292=t281
    ·rw[if_pos c28] at H
     have c28b0:(t292 == t281)=true:=beq_iff_eq.mpr c28
     have c28b1:(t292 != t281)=false:=bne_eq_false_iff_eq.mpr c28
     clear c28
     (first|rw[c28b0]|(simp only[i64_w,i32_w];rw[c28b0])|skip)
     have H':=Aside0.mk H
     clear H
     have hnb29:=NB294_283.out
     have hnc29:=NB283_294.out
     obtain⟨hcz30_0,hcz30_1,hcz30_2⟩:=cC3 BK294.out
     obtain⟨hfz30_0,hfz30_1,hfz30_2⟩:=cF3 BK294.out
     obtain⟨hcz31_0,hcz31_1,hcz31_2⟩:=cC3 BK283.out
     obtain⟨hfz31_0,hfz31_1,hfz31_2⟩:=cF3 BK283.out
     go_wp2_with (first|((with_reducible refine gate_callee (f:=25) rfl ?_);refine goesA (some 55) rfl rfl Try.func25 #[.agg #[.slice Ao23 t287.length co23,.int .i64 t290,.bool t291],.agg #[.slice Ao17 t276.length co17,.int .i64 t279,.bool t280]] rfl ?_;(with_reducible refine(laws_eqSpray.calls k _ _ t287 t290 t291 _ _ t276 t279 t280 true _ ?side1 ?side2 ?side3 ?side4 A26.out).mono ?_);(case side1=>refine(Kd.R_reads' (e:=3) (base:=w.heap.size) (ok:=fun k_=>(True∧some k_≠(.slice Ao17 t276.length co17:Value).ownBlock)) (n:=t287.length) (c:=co23) ?_).2.2;exact(by(with_reducible repeat (first|apply Kd.R_alloc|apply Kd.R_drewN|apply Kd.R_drew));exact(Kd.R_mono (Kd.R_far (p:=⟨gb294,2,none⟩) (Kd.R_far (p:=⟨gb294,1,none⟩) (Kd.R_far (p:=⟨gb294,0,none⟩) (Kd.R_types HO289.out BK294.out (by decide)) (fun _ hk=>hk.2) (.slice Ao23 t287.length co23)) (fun _ hk=>hk.2) (.int .i64 t290)) (fun _ hk=>hk.2) (.bool t291)) (fun _ h_=>h_.1))));(case side2=>exact(Kd.R_reads' HO289.out).2.1);(case side3=>refine(Kd.R_reads' (e:=3) (base:=w.heap.size) (ok:=fun k_=>(True∧some k_≠(.slice Ao23 t287.length co23:Value).ownBlock)) (n:=t276.length) (c:=co17) ?_).2.2;exact(by(with_reducible repeat (first|apply Kd.R_alloc|apply Kd.R_drewN|apply Kd.R_drew));exact(Kd.R_mono (Kd.R_far (p:=⟨gb294,2,none⟩) (Kd.R_far (p:=⟨gb294,1,none⟩) (Kd.R_far (p:=⟨gb294,0,none⟩) (Kd.R_types HO278.out BK294.out (by decide)) (fun _ hk=>hk.2) (.slice Ao23 t287.length co23)) (fun _ hk=>hk.2) (.int .i64 t290)) (fun _ hk=>hk.2) (.bool t291)) (fun _ h_=>h_.1))));(case side4=>exact(Kd.R_reads' HO278.out).2.1);rintro e w32 ⟨rfl,hb⟩;refine⟨_,rfl,?_⟩;have n0_:=Aside0.mk (Kd.R_below (by(with_reducible repeat (first|apply Kd.R_alloc|apply Kd.R_drewN|apply Kd.R_drew));exact(Kd.R_mono (Kd.R_far (p:=⟨gb294,2,none⟩) (Kd.R_far (p:=⟨gb294,1,none⟩) (Kd.R_far (p:=⟨gb294,0,none⟩) (Kd.R_types HO275.out BK294.out (by decide)) (fun _ hk=>hk.2) (.slice Ao23 t287.length co23)) (fun _ hk=>hk.2) (.int .i64 t290)) (fun _ hk=>hk.2) (.bool t291)) (fun _ h_=>h_.1))) hb);have n1_:=Aside0.mk (Kd.R_below (by(with_reducible repeat (first|apply Kd.R_alloc|apply Kd.R_drewN|apply Kd.R_drew));exact(Kd.R_mono (Kd.R_far (p:=⟨gb294,2,none⟩) (Kd.R_far (p:=⟨gb294,1,none⟩) (Kd.R_far (p:=⟨gb294,0,none⟩) (Kd.R_types HO278.out BK294.out (by decide)) (fun _ hk=>hk.2) (.slice Ao23 t287.length co23)) (fun _ hk=>hk.2) (.int .i64 t290)) (fun _ hk=>hk.2) (.bool t291)) (fun _ h_=>h_.1))) hb);have n2_:=Aside0.mk (Kd.R_below (by(with_reducible repeat (first|apply Kd.R_alloc|apply Kd.R_drewN|apply Kd.R_drew));exact(Kd.R_mono (Kd.R_far (p:=⟨gb294,2,none⟩) (Kd.R_far (p:=⟨gb294,1,none⟩) (Kd.R_far (p:=⟨gb294,0,none⟩) (Kd.R_types HO286.out BK294.out (by decide)) (fun _ hk=>hk.2) (.slice Ao23 t287.length co23)) (fun _ hk=>hk.2) (.int .i64 t290)) (fun _ hk=>hk.2) (.bool t291)) (fun _ h_=>h_.1))) hb);have n3_:=Aside0.mk (Kd.R_below (by(with_reducible repeat (first|apply Kd.R_alloc|apply Kd.R_drewN|apply Kd.R_drew));exact(Kd.R_mono (Kd.R_far (p:=⟨gb294,2,none⟩) (Kd.R_far (p:=⟨gb294,1,none⟩) (Kd.R_far (p:=⟨gb294,0,none⟩) (Kd.R_types HO289.out BK294.out (by decide)) (fun _ hk=>hk.2) (.slice Ao23 t287.length co23)) (fun _ hk=>hk.2) (.int .i64 t290)) (fun _ hk=>hk.2) (.bool t291)) (fun _ h_=>h_.1))) hb);have n4_:=Aside0.mk (blk_below (g:=gb283) (o:=.cells #[.slice Ao17 t276.length co17,.int .i64 t279,.bool t280] 39 (0,0)) (by(with_reducible repeat (first|refine blk_drewN ?_ _|refine blk_drew ?_|refine blk_alloc ?_ _));refine blk_far ?_ NB283_294.out _;(with_reducible repeat (first|refine blk_drewN ?_ _|refine blk_drew ?_|refine blk_alloc ?_ _));refine blk_far ?_ NB283_294.out _;(with_reducible repeat (first|refine blk_drewN ?_ _|refine blk_drew ?_|refine blk_alloc ?_ _));refine blk_far ?_ NB283_294.out _;(with_reducible repeat (first|refine blk_drewN ?_ _|refine blk_drew ?_|refine blk_alloc ?_ _));exact BK283.out) hb);have n5_:=Aside0.mk (blk_below (g:=gb294) (o:=.cells #[.slice Ao23 t287.length co23,.int .i64 t290,.bool t291] 39 (0,0)) (by(with_reducible repeat (first|refine blk_drewN ?_ _|refine blk_drew ?_|refine blk_alloc ?_ _));refine blk_put (cs:=#[.slice Ao23 t287.length co23,.int .i64 t290,.bool false]) ?_ 2 _ rfl;(with_reducible repeat (first|refine blk_drewN ?_ _|refine blk_drew ?_|refine blk_alloc ?_ _));refine blk_put (cs:=#[.slice Ao23 t287.length co23,.int .i64 0,.bool false]) ?_ 1 _ rfl;(with_reducible repeat (first|refine blk_drewN ?_ _|refine blk_drew ?_|refine blk_alloc ?_ _));refine blk_put (cs:=#[.slice none 0 0,.int .i64 0,.bool false]) ?_ 0 _ rfl;(with_reducible repeat (first|refine blk_drewN ?_ _|refine blk_drew ?_|refine blk_alloc ?_ _));exact BK294.out) hb);have n6_:=Aside0.mk (below_step (bS2 GE283.out GE294.out) hb);clear HO275 HO278 HO286 HO289 BK283 BK294 HB;have HO275:=n0_;have HO278:=n1_;have HO286:=n2_;have HO289:=n3_;have BK283:=n4_;have BK294:=n5_;have HB:=n6_;clear n0_ n1_ n2_ n3_ n4_ n5_ n6_;(try clear hb);(try clear hb2);(try clear hk);(try clear hi)))
     go_meet
     case rel=>exact⟨_,((t293 != t282)),(bR),H',⟨by first|omega|exact Nat.le_refl _⟩,⟨by(with_reducible repeat (first|apply Kd.R_alloc|apply Kd.R_drewN|apply Kd.R_drew));exact Kd.R_mono HO286.out (fun _ hk=>trivial)⟩,⟨by(with_reducible repeat (first|apply Kd.R_alloc|apply Kd.R_drewN|apply Kd.R_drew));exact Kd.R_mono HO278.out (fun _ hk=>hk.2)⟩,⟨by(with_reducible repeat (first|apply Kd.R_alloc|apply Kd.R_drewN|apply Kd.R_drew));exact Kd.R_mono HO289.out (fun _ hk=>hk.2)⟩,⟨by(with_reducible repeat (first|refine blk_drewN ?_ _|refine blk_drew ?_|refine blk_alloc ?_ _));exact BK283.out⟩,⟨by(with_reducible repeat (first|refine blk_drewN ?_ _|refine blk_drew ?_|refine blk_alloc ?_ _));exact BK294.out⟩,⟨bS2 GE283.out GE294.out⟩⟩
    ·rw[if_neg c28] at H
     have c28b0:(t292 == t281)=false:=beq_eq_false_iff_ne.mpr c28
     have c28b1:(t292 != t281)=true:=bne_iff_ne.mpr c28
     (first|rw[c28b0]|(simp only[i64_w,i32_w];rw[c28b0])|skip)
     have H':=Aside0.mk H
     clear H
     have hnb33:=NB294_283.out
     have hnc33:=NB283_294.out
     obtain⟨hcz34_0,hcz34_1,hcz34_2⟩:=cC3 BK294.out
     obtain⟨hfz34_0,hfz34_1,hfz34_2⟩:=cF3 BK294.out
     obtain⟨hcz35_0,hcz35_1,hcz35_2⟩:=cC3 BK283.out
     obtain⟨hfz35_0,hfz35_1,hfz35_2⟩:=cF3 BK283.out
     go_wp2_with (first|((with_reducible refine gate_callee (f:=25) rfl ?_);refine goesA (some 55) rfl rfl Try.func25 #[.agg #[.slice Ao23 t287.length co23,.int .i64 t290,.bool t291],.agg #[.slice Ao17 t276.length co17,.int .i64 t279,.bool t280]] rfl ?_;(with_reducible refine(laws_eqSpray.calls k _ _ t287 t290 t291 _ _ t276 t279 t280 true _ ?side1 ?side2 ?side3 ?side4 A26.out).mono ?_);(case side1=>refine(Kd.R_reads' (e:=3) (base:=w.heap.size) (ok:=fun k_=>(True∧some k_≠(.slice Ao17 t276.length co17:Value).ownBlock)) (n:=t287.length) (c:=co23) ?_).2.2;exact(by(with_reducible repeat (first|apply Kd.R_alloc|apply Kd.R_drewN|apply Kd.R_drew));exact(Kd.R_mono (Kd.R_far (p:=⟨gb294,2,none⟩) (Kd.R_far (p:=⟨gb294,1,none⟩) (Kd.R_far (p:=⟨gb294,0,none⟩) (Kd.R_types HO289.out BK294.out (by decide)) (fun _ hk=>hk.2) (.slice Ao23 t287.length co23)) (fun _ hk=>hk.2) (.int .i64 t290)) (fun _ hk=>hk.2) (.bool t291)) (fun _ h_=>h_.1))));(case side2=>exact(Kd.R_reads' HO289.out).2.1);(case side3=>refine(Kd.R_reads' (e:=3) (base:=w.heap.size) (ok:=fun k_=>(True∧some k_≠(.slice Ao23 t287.length co23:Value).ownBlock)) (n:=t276.length) (c:=co17) ?_).2.2;exact(by(with_reducible repeat (first|apply Kd.R_alloc|apply Kd.R_drewN|apply Kd.R_drew));exact(Kd.R_mono (Kd.R_far (p:=⟨gb294,2,none⟩) (Kd.R_far (p:=⟨gb294,1,none⟩) (Kd.R_far (p:=⟨gb294,0,none⟩) (Kd.R_types HO278.out BK294.out (by decide)) (fun _ hk=>hk.2) (.slice Ao23 t287.length co23)) (fun _ hk=>hk.2) (.int .i64 t290)) (fun _ hk=>hk.2) (.bool t291)) (fun _ h_=>h_.1))));(case side4=>exact(Kd.R_reads' HO278.out).2.1);rintro e w36 ⟨rfl,hb⟩;refine⟨_,rfl,?_⟩;have n0_:=Aside0.mk (Kd.R_below (by(with_reducible repeat (first|apply Kd.R_alloc|apply Kd.R_drewN|apply Kd.R_drew));exact(Kd.R_mono (Kd.R_far (p:=⟨gb294,2,none⟩) (Kd.R_far (p:=⟨gb294,1,none⟩) (Kd.R_far (p:=⟨gb294,0,none⟩) (Kd.R_types HO275.out BK294.out (by decide)) (fun _ hk=>hk.2) (.slice Ao23 t287.length co23)) (fun _ hk=>hk.2) (.int .i64 t290)) (fun _ hk=>hk.2) (.bool t291)) (fun _ h_=>h_.1))) hb);have n1_:=Aside0.mk (Kd.R_below (by(with_reducible repeat (first|apply Kd.R_alloc|apply Kd.R_drewN|apply Kd.R_drew));exact(Kd.R_mono (Kd.R_far (p:=⟨gb294,2,none⟩) (Kd.R_far (p:=⟨gb294,1,none⟩) (Kd.R_far (p:=⟨gb294,0,none⟩) (Kd.R_types HO278.out BK294.out (by decide)) (fun _ hk=>hk.2) (.slice Ao23 t287.length co23)) (fun _ hk=>hk.2) (.int .i64 t290)) (fun _ hk=>hk.2) (.bool t291)) (fun _ h_=>h_.1))) hb);have n2_:=Aside0.mk (Kd.R_below (by(with_reducible repeat (first|apply Kd.R_alloc|apply Kd.R_drewN|apply Kd.R_drew));exact(Kd.R_mono (Kd.R_far (p:=⟨gb294,2,none⟩) (Kd.R_far (p:=⟨gb294,1,none⟩) (Kd.R_far (p:=⟨gb294,0,none⟩) (Kd.R_types HO286.out BK294.out (by decide)) (fun _ hk=>hk.2) (.slice Ao23 t287.length co23)) (fun _ hk=>hk.2) (.int .i64 t290)) (fun _ hk=>hk.2) (.bool t291)) (fun _ h_=>h_.1))) hb);have n3_:=Aside0.mk (Kd.R_below (by(with_reducible repeat (first|apply Kd.R_alloc|apply Kd.R_drewN|apply Kd.R_drew));exact(Kd.R_mono (Kd.R_far (p:=⟨gb294,2,none⟩) (Kd.R_far (p:=⟨gb294,1,none⟩) (Kd.R_far (p:=⟨gb294,0,none⟩) (Kd.R_types HO289.out BK294.out (by decide)) (fun _ hk=>hk.2) (.slice Ao23 t287.length co23)) (fun _ hk=>hk.2) (.int .i64 t290)) (fun _ hk=>hk.2) (.bool t291)) (fun _ h_=>h_.1))) hb);have n4_:=Aside0.mk (blk_below (g:=gb283) (o:=.cells #[.slice Ao17 t276.length co17,.int .i64 t279,.bool t280] 39 (0,0)) (by(with_reducible repeat (first|refine blk_drewN ?_ _|refine blk_drew ?_|refine blk_alloc ?_ _));refine blk_far ?_ NB283_294.out _;(with_reducible repeat (first|refine blk_drewN ?_ _|refine blk_drew ?_|refine blk_alloc ?_ _));refine blk_far ?_ NB283_294.out _;(with_reducible repeat (first|refine blk_drewN ?_ _|refine blk_drew ?_|refine blk_alloc ?_ _));refine blk_far ?_ NB283_294.out _;(with_reducible repeat (first|refine blk_drewN ?_ _|refine blk_drew ?_|refine blk_alloc ?_ _));exact BK283.out) hb);have n5_:=Aside0.mk (blk_below (g:=gb294) (o:=.cells #[.slice Ao23 t287.length co23,.int .i64 t290,.bool t291] 39 (0,0)) (by(with_reducible repeat (first|refine blk_drewN ?_ _|refine blk_drew ?_|refine blk_alloc ?_ _));refine blk_put (cs:=#[.slice Ao23 t287.length co23,.int .i64 t290,.bool false]) ?_ 2 _ rfl;(with_reducible repeat (first|refine blk_drewN ?_ _|refine blk_drew ?_|refine blk_alloc ?_ _));refine blk_put (cs:=#[.slice Ao23 t287.length co23,.int .i64 0,.bool false]) ?_ 1 _ rfl;(with_reducible repeat (first|refine blk_drewN ?_ _|refine blk_drew ?_|refine blk_alloc ?_ _));refine blk_put (cs:=#[.slice none 0 0,.int .i64 0,.bool false]) ?_ 0 _ rfl;(with_reducible repeat (first|refine blk_drewN ?_ _|refine blk_drew ?_|refine blk_alloc ?_ _));exact BK294.out) hb);have n6_:=Aside0.mk (below_step (bS2 GE283.out GE294.out) hb);clear HO275 HO278 HO286 HO289 BK283 BK294 HB;have HO275:=n0_;have HO278:=n1_;have HO286:=n2_;have HO289:=n3_;have BK283:=n4_;have BK294:=n5_;have HB:=n6_;clear n0_ n1_ n2_ n3_ n4_ n5_ n6_;(try clear hb);(try clear hb2);(try clear hk);(try clear hi)))
     go_meet
     case rel=>exact⟨_,(true),(bR),H',⟨by first|omega|exact Nat.le_refl _⟩,⟨by(with_reducible repeat (first|apply Kd.R_alloc|apply Kd.R_drewN|apply Kd.R_drew));exact Kd.R_mono HO286.out (fun _ hk=>trivial)⟩,⟨by(with_reducible repeat (first|apply Kd.R_alloc|apply Kd.R_drewN|apply Kd.R_drew));exact Kd.R_mono HO278.out (fun _ hk=>hk.2)⟩,⟨by(with_reducible repeat (first|apply Kd.R_alloc|apply Kd.R_drewN|apply Kd.R_drew));exact Kd.R_mono HO289.out (fun _ hk=>hk.2)⟩,⟨by(with_reducible repeat (first|refine blk_drewN ?_ _|refine blk_drew ?_|refine blk_alloc ?_ _));exact BK283.out⟩,⟨by(with_reducible repeat (first|refine blk_drewN ?_ _|refine blk_drew ?_|refine blk_alloc ?_ _));exact BK294.out⟩,⟨bS2 GE283.out GE294.out⟩⟩
   ·replace c27:=Bool.eq_false_iff.mpr c27
    subst c27
    have H1:(laws_FnExactPlaySpray.j0 k a0 a1 a2 a3 l4 t281 t282 t284 t292 t293 true t276 t279 t280 t287 t290 t291)=some r:=by rw[if_neg (show ¬ (false=true) by decide)] at H;exact H
    clear H
    have H:=H1
    clear H1
    have H':=Aside0.mk H
    clear H
    have hnb37:=NB294_283.out
    have hnc37:=NB283_294.out
    obtain⟨hcz38_0,hcz38_1,hcz38_2⟩:=cC3 BK294.out
    obtain⟨hfz38_0,hfz38_1,hfz38_2⟩:=cF3 BK294.out
    obtain⟨hcz39_0,hcz39_1,hcz39_2⟩:=cC3 BK283.out
    obtain⟨hfz39_0,hfz39_1,hfz39_2⟩:=cF3 BK283.out
    go_wp2_with (first|((with_reducible refine gate_callee (f:=25) rfl ?_);refine goesA (some 55) rfl rfl Try.func25 #[.agg #[.slice Ao23 t287.length co23,.int .i64 t290,.bool t291],.agg #[.slice Ao17 t276.length co17,.int .i64 t279,.bool t280]] rfl ?_;(with_reducible refine(laws_eqSpray.calls k _ _ t287 t290 t291 _ _ t276 t279 t280 false _ ?side1 ?side2 ?side3 ?side4 A26.out).mono ?_);(case side1=>refine(Kd.R_reads' (e:=3) (base:=w.heap.size) (ok:=fun k_=>(True∧some k_≠(.slice Ao17 t276.length co17:Value).ownBlock)) (n:=t287.length) (c:=co23) ?_).2.2;exact(by(with_reducible repeat (first|apply Kd.R_alloc|apply Kd.R_drewN|apply Kd.R_drew));exact(Kd.R_mono (Kd.R_far (p:=⟨gb294,2,none⟩) (Kd.R_far (p:=⟨gb294,1,none⟩) (Kd.R_far (p:=⟨gb294,0,none⟩) (Kd.R_types HO289.out BK294.out (by decide)) (fun _ hk=>hk.2) (.slice Ao23 t287.length co23)) (fun _ hk=>hk.2) (.int .i64 t290)) (fun _ hk=>hk.2) (.bool t291)) (fun _ h_=>h_.1))));(case side2=>exact(Kd.R_reads' HO289.out).2.1);(case side3=>refine(Kd.R_reads' (e:=3) (base:=w.heap.size) (ok:=fun k_=>(True∧some k_≠(.slice Ao23 t287.length co23:Value).ownBlock)) (n:=t276.length) (c:=co17) ?_).2.2;exact(by(with_reducible repeat (first|apply Kd.R_alloc|apply Kd.R_drewN|apply Kd.R_drew));exact(Kd.R_mono (Kd.R_far (p:=⟨gb294,2,none⟩) (Kd.R_far (p:=⟨gb294,1,none⟩) (Kd.R_far (p:=⟨gb294,0,none⟩) (Kd.R_types HO278.out BK294.out (by decide)) (fun _ hk=>hk.2) (.slice Ao23 t287.length co23)) (fun _ hk=>hk.2) (.int .i64 t290)) (fun _ hk=>hk.2) (.bool t291)) (fun _ h_=>h_.1))));(case side4=>exact(Kd.R_reads' HO278.out).2.1);rintro e w40 ⟨rfl,hb⟩;refine⟨_,rfl,?_⟩;have n0_:=Aside0.mk (Kd.R_below (by(with_reducible repeat (first|apply Kd.R_alloc|apply Kd.R_drewN|apply Kd.R_drew));exact(Kd.R_mono (Kd.R_far (p:=⟨gb294,2,none⟩) (Kd.R_far (p:=⟨gb294,1,none⟩) (Kd.R_far (p:=⟨gb294,0,none⟩) (Kd.R_types HO275.out BK294.out (by decide)) (fun _ hk=>hk.2) (.slice Ao23 t287.length co23)) (fun _ hk=>hk.2) (.int .i64 t290)) (fun _ hk=>hk.2) (.bool t291)) (fun _ h_=>h_.1))) hb);have n1_:=Aside0.mk (Kd.R_below (by(with_reducible repeat (first|apply Kd.R_alloc|apply Kd.R_drewN|apply Kd.R_drew));exact(Kd.R_mono (Kd.R_far (p:=⟨gb294,2,none⟩) (Kd.R_far (p:=⟨gb294,1,none⟩) (Kd.R_far (p:=⟨gb294,0,none⟩) (Kd.R_types HO278.out BK294.out (by decide)) (fun _ hk=>hk.2) (.slice Ao23 t287.length co23)) (fun _ hk=>hk.2) (.int .i64 t290)) (fun _ hk=>hk.2) (.bool t291)) (fun _ h_=>h_.1))) hb);have n2_:=Aside0.mk (Kd.R_below (by(with_reducible repeat (first|apply Kd.R_alloc|apply Kd.R_drewN|apply Kd.R_drew));exact(Kd.R_mono (Kd.R_far (p:=⟨gb294,2,none⟩) (Kd.R_far (p:=⟨gb294,1,none⟩) (Kd.R_far (p:=⟨gb294,0,none⟩) (Kd.R_types HO286.out BK294.out (by decide)) (fun _ hk=>hk.2) (.slice Ao23 t287.length co23)) (fun _ hk=>hk.2) (.int .i64 t290)) (fun _ hk=>hk.2) (.bool t291)) (fun _ h_=>h_.1))) hb);have n3_:=Aside0.mk (Kd.R_below (by(with_reducible repeat (first|apply Kd.R_alloc|apply Kd.R_drewN|apply Kd.R_drew));exact(Kd.R_mono (Kd.R_far (p:=⟨gb294,2,none⟩) (Kd.R_far (p:=⟨gb294,1,none⟩) (Kd.R_far (p:=⟨gb294,0,none⟩) (Kd.R_types HO289.out BK294.out (by decide)) (fun _ hk=>hk.2) (.slice Ao23 t287.length co23)) (fun _ hk=>hk.2) (.int .i64 t290)) (fun _ hk=>hk.2) (.bool t291)) (fun _ h_=>h_.1))) hb);have n4_:=Aside0.mk (blk_below (g:=gb283) (o:=.cells #[.slice Ao17 t276.length co17,.int .i64 t279,.bool t280] 39 (0,0)) (by(with_reducible repeat (first|refine blk_drewN ?_ _|refine blk_drew ?_|refine blk_alloc ?_ _));refine blk_far ?_ NB283_294.out _;(with_reducible repeat (first|refine blk_drewN ?_ _|refine blk_drew ?_|refine blk_alloc ?_ _));refine blk_far ?_ NB283_294.out _;(with_reducible repeat (first|refine blk_drewN ?_ _|refine blk_drew ?_|refine blk_alloc ?_ _));refine blk_far ?_ NB283_294.out _;(with_reducible repeat (first|refine blk_drewN ?_ _|refine blk_drew ?_|refine blk_alloc ?_ _));exact BK283.out) hb);have n5_:=Aside0.mk (blk_below (g:=gb294) (o:=.cells #[.slice Ao23 t287.length co23,.int .i64 t290,.bool t291] 39 (0,0)) (by(with_reducible repeat (first|refine blk_drewN ?_ _|refine blk_drew ?_|refine blk_alloc ?_ _));refine blk_put (cs:=#[.slice Ao23 t287.length co23,.int .i64 t290,.bool false]) ?_ 2 _ rfl;(with_reducible repeat (first|refine blk_drewN ?_ _|refine blk_drew ?_|refine blk_alloc ?_ _));refine blk_put (cs:=#[.slice Ao23 t287.length co23,.int .i64 0,.bool false]) ?_ 1 _ rfl;(with_reducible repeat (first|refine blk_drewN ?_ _|refine blk_drew ?_|refine blk_alloc ?_ _));refine blk_put (cs:=#[.slice none 0 0,.int .i64 0,.bool false]) ?_ 0 _ rfl;(with_reducible repeat (first|refine blk_drewN ?_ _|refine blk_drew ?_|refine blk_alloc ?_ _));exact BK294.out) hb);have n6_:=Aside0.mk (below_step (bS2 GE283.out GE294.out) hb);clear HO275 HO278 HO286 HO289 BK283 BK294 HB;have HO275:=n0_;have HO278:=n1_;have HO286:=n2_;have HO289:=n3_;have BK283:=n4_;have BK294:=n5_;have HB:=n6_;clear n0_ n1_ n2_ n3_ n4_ n5_ n6_;(try clear hb);(try clear hb2);(try clear hk);(try clear hi)))
    go_meet
    case rel=>exact⟨_,(true),(bR),H',⟨by first|omega|exact Nat.le_refl _⟩,⟨by(with_reducible repeat (first|apply Kd.R_alloc|apply Kd.R_drewN|apply Kd.R_drew));exact Kd.R_mono HO286.out (fun _ hk=>trivial)⟩,⟨by(with_reducible repeat (first|apply Kd.R_alloc|apply Kd.R_drewN|apply Kd.R_drew));exact Kd.R_mono HO278.out (fun _ hk=>hk.2)⟩,⟨by(with_reducible repeat (first|apply Kd.R_alloc|apply Kd.R_drewN|apply Kd.R_drew));exact Kd.R_mono HO289.out (fun _ hk=>hk.2)⟩,⟨by(with_reducible repeat (first|refine blk_drewN ?_ _|refine blk_drew ?_|refine blk_alloc ?_ _));exact BK283.out⟩,⟨by(with_reducible repeat (first|refine blk_drewN ?_ _|refine blk_drew ?_|refine blk_alloc ?_ _));exact BK294.out⟩,⟨bS2 GE283.out GE294.out⟩⟩
  case rest =>
   clear HC12
   try clear c1
   try clear c2
   try clear p2
   try clear c3
   try clear c4
   try clear c6
   try clear c7
   try clear c7b0
   try clear c11
   try clear c24
   try clear c25
   try clear c27
   try clear c28
   try clear c28b0
   try clear c28b1
   try clear c29
   try clear c33
   try clear c37
   try clear hcz18_0
   try clear hcz18_1
   try clear hcz18_2
   try clear hcz25_0
   try clear hcz25_1
   try clear hcz25_2
   try clear hcz30_0
   try clear hcz30_1
   try clear hcz30_2
   try clear hcz31_0
   try clear hcz31_1
   try clear hcz31_2
   try clear hcz34_0
   try clear hcz34_1
   try clear hcz34_2
   try clear hcz35_0
   try clear hcz35_1
   try clear hcz35_2
   try clear hcz38_0
   try clear hcz38_1
   try clear hcz38_2
   try clear hcz39_0
   try clear hcz39_1
   try clear hcz39_2
   try clear hfz18_0
   try clear hfz18_1
   try clear hfz18_2
   try clear hfz25_0
   try clear hfz25_1
   try clear hfz25_2
   try clear hfz30_0
   try clear hfz30_1
   try clear hfz30_2
   try clear hfz31_0
   try clear hfz31_1
   try clear hfz31_2
   try clear hfz34_0
   try clear hfz34_1
   try clear hfz34_2
   try clear hfz35_0
   try clear hfz35_1
   try clear hfz35_2
   try clear hfz38_0
   try clear hfz38_1
   try clear hfz38_2
   try clear hfz39_0
   try clear hfz39_1
   try clear hfz39_2
   obtain⟨kq,x66_11,rfl,HA,HJ11,HO_15,HO_284000,HO_295000,BK283,BK294,HB⟩:=hcut
   cases kq with
   | zero=>exact absurd HA.out (by simp[laws_FnExactPlaySpray.j0])
   | succ kj11 =>
    have H:=HA.out
    clear HA
    simp only[laws_FnExactPlaySpray.j0] at H
    by_cases c41:x66_11=true
    ·subst c41
     have H1:(some false)=some r:=by rw[if_pos rfl] at H;exact H
     clear H
     have H:=H1
     clear H1
     obtain rfl:=Option.some.inj H
     go_wp2
     go_ret
     exact⟨bE,bS2 GE283.out GE294.out⟩
    ·replace c41:=Bool.eq_false_iff.mpr c41
     subst c41
     have H1:((laws_toMeetS.f kj11 l4).bind fun t296=>((laws_eqMeetS.f kj11 t284 t296).bind fun t299=>(if t299=true then ((laws_markMeetS.f kj11 t284 1).bind fun bt300=>(if bt300.1 < 0 then (laws_FnExactPlaySpray.j1 kj11 a0 a1 a2 a3 l4 t281 t282 true t276 t279 t280 t287 t290 t291) else ((laws_eqSpray.f kj11 t287 t290 t291 t276 t279 t280).bind fun t302=>(if t302=true then (if t292=t281 then (laws_FnExactPlaySpray.j1 kj11 a0 a1 a2 a3 l4 t281 t282 (t293 != t282) t276 t279 t280 t287 t290 t291) else (laws_FnExactPlaySpray.j1 kj11 a0 a1 a2 a3 l4 t281 t282 true t276 t279 t280 t287 t290 t291)) else (laws_FnExactPlaySpray.j1 kj11 a0 a1 a2 a3 l4 t281 t282 true t276 t279 t280 t287 t290 t291))))) else (some false))))=some r:=by rw[if_neg (show ¬ (false=true) by decide)] at H;exact H
     clear H
     have H:=H1
     clear H1
     replace H:=Option.bind_eq_some_iff.mp H
     obtain⟨t296,A420,H⟩:=H
     have A42:=Aside0.mk A420
     clear A420
     replace H:=Option.bind_eq_some_iff.mp H
     obtain⟨t299,A430,H⟩:=H
     have A43:=Aside0.mk A430
     clear A430
     by_cases c44:t299=true
     ·subst c44
      have H1:((laws_markMeetS.f kj11 t284 1).bind fun bt300=>(if bt300.1 < 0 then (laws_FnExactPlaySpray.j1 kj11 a0 a1 a2 a3 l4 t281 t282 true t276 t279 t280 t287 t290 t291) else ((laws_eqSpray.f kj11 t287 t290 t291 t276 t279 t280).bind fun t302=>(if t302=true then (if t292=t281 then (laws_FnExactPlaySpray.j1 kj11 a0 a1 a2 a3 l4 t281 t282 (t293 != t282) t276 t279 t280 t287 t290 t291) else (laws_FnExactPlaySpray.j1 kj11 a0 a1 a2 a3 l4 t281 t282 true t276 t279 t280 t287 t290 t291)) else (laws_FnExactPlaySpray.j1 kj11 a0 a1 a2 a3 l4 t281 t282 true t276 t279 t280 t287 t290 t291)))))=some r:=by rw[if_pos rfl] at H;exact H
      clear H
      have H:=H1
      clear H1
      replace H:=Option.bind_eq_some_iff.mp H
      obtain⟨⟨t300,t301⟩,A450,H⟩:=H
      have A45:=Aside0.mk A450
      clear A450
      have HC46:=Aside0.mk H
      clear H
      go_upto_region 14 with (first|((with_reducible refine gate_callee (f:=70) rfl ?_);refine goesA (some 69) rfl rfl Try.func70 #[.slice A4 l4.length c4] rfl ?_;(with_reducible refine(laws_toMeetS.calls kj11 _ _ l4 t296 _ ?side1 ?side2 A42.out).mono ?_);(case side1=>exact bC HR4.out);(case side2=>exact HC4.out);rintro e w47 ⟨v297,rfl,ho0,hb⟩;refine⟨_,rfl,?_⟩;have n0_:=Aside0.mk (Kd.R_elder' (bK HO_15.out) (Kd.R_base ho0) hb);have n1_:=Aside0.mk (Kd.R_below (bK HO_284000.out) hb);have n2_:=Aside0.mk (Kd.R_below (bK HO_295000.out) hb);have n3_:=Aside0.mk (Kd.R_lower (Kd.R_new' ho0 (Kd.R_lt (bK HO_15.out))) (below_size (bS2 GE283.out GE294.out)));have n4_:=Aside0.mk (bM BK283.out hb);have n5_:=Aside0.mk (bM BK294.out hb);have n6_:=Aside0.mk (below_step (bS2 GE283.out GE294.out) hb);clear HO_15 HO_284000 HO_295000 BK283 BK294 HB;have HO_15:=n0_;have HO_284000:=n1_;have HO_295000:=n2_;have HO298:=n3_;have BK283:=n4_;have BK294:=n5_;have HB:=n6_;clear n0_ n1_ n2_ n3_ n4_ n5_ n6_;(try clear hb);(try clear hb2);(try clear hk);(try clear hi);(try clear ho0);obtain⟨Ao48,co48,eo48⟩:=Kd.R_slice HO298.out;subst eo48)|((with_reducible refine gate_callee (f:=72) rfl ?_);refine goesA (some 70) rfl rfl Try.func72 #[.slice Ao20 t284.length co20,.slice Ao48 t296.length co48] rfl ?_;(with_reducible refine(laws_eqMeetS.calls kj11 _ _ t284 _ _ t296 true _ ?side1 ?side2 ?side3 ?side4 A43.out).mono ?_);(case side1=>exact bT HO_15.out);(case side2=>exact(Kd.R_reads' HO_15.out).2.1);(case side3=>exact bT HO298.out);(case side4=>exact(Kd.R_reads' HO298.out).2.1);rintro e w49 ⟨rfl,hb⟩;refine⟨_,rfl,?_⟩;have n0_:=Aside0.mk (Kd.R_below (bK HO_15.out) hb);have n1_:=Aside0.mk (Kd.R_below (bK HO_284000.out) hb);have n2_:=Aside0.mk (Kd.R_below (bK HO_295000.out) hb);have n3_:=Aside0.mk (Kd.R_below (bK HO298.out) hb);have n4_:=Aside0.mk (bM BK283.out hb);have n5_:=Aside0.mk (bM BK294.out hb);have n6_:=Aside0.mk (below_step (bS2 GE283.out GE294.out) hb);clear HO_15 HO_284000 HO_295000 HO298 BK283 BK294 HB;have HO_15:=n0_;have HO_284000:=n1_;have HO_295000:=n2_;have HO298:=n3_;have BK283:=n4_;have BK294:=n5_;have HB:=n6_;clear n0_ n1_ n2_ n3_ n4_ n5_ n6_;(try clear hb);(try clear hb2);(try clear hk);(try clear hi))|((with_reducible refine gate_callee (f:=73) rfl ?_);refine goesA (some 74) rfl rfl Try.func73 #[.slice Ao20 t284.length co20,.int .i64 1] rfl ?_;(with_reducible refine(laws_markMeetS.calls kj11 (fun k_=>some k_=(.slice Ao20 t284.length co20:Value).ownBlock) (.slice Ao20 t284.length co20) t284 1 t300 t301 w _ ?side1 ?side2 A45.out).mono ?_);(case side1=>repeat (first|(with_reducible first|exact HB.out|apply below_alloc|apply pw_below_drewN|apply below_drew1|refine below_set ?_ GE283.out|refine below_set ?_ GE294.out)|exact HB.out));(case side2=>exact Kd.R_tight rfl HO_15.out);rintro e w50 ⟨rfl,hy0,hb,hkp⟩;refine⟨_,rfl,?_⟩;have n0_:=Aside0.mk (Kd.R_reok rfl hy0 (fun k_ e_=>HO_15.out.1 k_ e_));have n1_:=Aside0.mk (Kd.R_mono (ok':=fun k_=>some k_≠(.slice Ao23 t287.length co23:Value).ownBlock) (Kd.R_keptB ((Kd.R_apart' HO_284000.out (Kd.R_typed HO_15.out) (by decide))) hkp (fun k_ hk_ hs_=>(hk_.2) hs_)) (fun k_ hk_=>hk_.1.1));have n2_:=Aside0.mk (Kd.R_mono (ok':=fun k_=>some k_≠(.slice Ao17 t276.length co17:Value).ownBlock) (Kd.R_keptB ((Kd.R_apart' HO_295000.out (Kd.R_typed HO_15.out) (by decide))) hkp (fun k_ hk_ hs_=>(hk_.2) hs_)) (fun k_ hk_=>hk_.1.1));have n3_:=Aside0.mk (blk_kept (bL BK283.out) hkp (fun hs_=>(fun e_=>(Kd.R_ne HO_15.out BK283.out (by decide)) e_) hs_));have n4_:=Aside0.mk (blk_kept (bL BK294.out) hkp (fun hs_=>(fun e_=>(Kd.R_ne HO_15.out BK294.out (by decide)) e_) hs_));have n5_:=Aside0.mk (Kd.R_mono (ok':=fun k_=>some k_≠(.slice Ao20 t284.length co20:Value).ownBlock) (Kd.R_keptB (HO298.out) hkp (fun k_ hk_ hs_=>(hk_.2) hs_)) (fun k_ hk_=>hk_.1.2));have n6_:=Aside0.mk (hb);clear HO_15 HO_284000 HO_295000 BK283 BK294 HO298 HB;have HO_15:=n0_;have HO_284000:=n1_;have HO_295000:=n2_;have BK283:=n3_;have BK294:=n4_;have HO298:=n5_;have HB:=n6_;clear n0_ n1_ n2_ n3_ n4_ n5_ n6_;(try clear hb);(try clear hkp);(try clear hy0)))
      (try simp only[Act.put,List.setIfInBounds_toArray,List.set_cons_zero,List.set_cons_succ])
      go_cut [92] (fun v92 wc => ∃ (kq:Nat) (x92_45:Bool),v92=.bool x92_45∧Aside0 (laws_FnExactPlaySpray.j1 kq a0 a1 a2 a3 l4 t281 t282 x92_45 t276 t279 t280 t287 t290 t291=some r)∧Aside0 (kq≤kj11)∧Aside0 (Kd.R (Kd.int .i64) 3 wc w.heap.size (fun k_=>some k_≠((.slice Ao23 t287.length co23):Value).ownBlock) (.slice Ao17 t276.length co17) t276)∧Aside0 (Kd.R (Kd.int .i64) 3 wc w.heap.size (fun k_=>some k_≠((.slice Ao17 t276.length co17):Value).ownBlock) (.slice Ao23 t287.length co23) t287)∧Aside0 (wc.heap[gb283]?=some (.cells #[(.slice Ao17 t276.length co17),.int .i64 t279,.bool t280] 39 (0,0)))∧Aside0 (wc.heap[gb294]?=some (.cells #[(.slice Ao23 t287.length co23),.int .i64 t290,.bool t291] 39 (0,0)))∧Aside0 (Below w.heap.size w wc))
      case first =>
       have H:=HC46.out
       clear HC46
       by_cases c51:t300 < 0
       ·rw[if_pos c51] at H
        have c51b0:decide (t300 < 0)=true:=decide_eq_true c51
        clear c51
        (first|rw[c51b0]|(simp only[i64_w,i32_w];rw[c51b0])|skip)
        have H':=Aside0.mk H
        clear H
        go_wp2
        go_meet
        case rel=>exact⟨_,(true),(bR),H',⟨by have:=HJ11.out;first|omega|exact Nat.le_refl _⟩,⟨by(with_reducible repeat (first|apply Kd.R_alloc|apply Kd.R_drewN|apply Kd.R_drew));exact HO_284000.out⟩,⟨by(with_reducible repeat (first|apply Kd.R_alloc|apply Kd.R_drewN|apply Kd.R_drew));exact HO_295000.out⟩,⟨by(with_reducible repeat (first|refine blk_drewN ?_ _|refine blk_drew ?_|refine blk_alloc ?_ _));exact BK283.out⟩,⟨by(with_reducible repeat (first|refine blk_drewN ?_ _|refine blk_drew ?_|refine blk_alloc ?_ _));exact BK294.out⟩,⟨bS2 GE283.out GE294.out⟩⟩
       ·rw[if_neg c51] at H
        have c51b0:decide (t300 < 0)=false:=decide_eq_false c51
        clear c51
        (first|rw[c51b0]|(simp only[i64_w,i32_w];rw[c51b0])|skip)
        replace H:=Option.bind_eq_some_iff.mp H
        obtain⟨t302,A520,H⟩:=H
        have A52:=Aside0.mk A520
        clear A520
        by_cases c53:t302=true
        ·subst c53
         have H1:(if t292=t281 then (laws_FnExactPlaySpray.j1 kj11 a0 a1 a2 a3 l4 t281 t282 (t293 != t282) t276 t279 t280 t287 t290 t291) else (laws_FnExactPlaySpray.j1 kj11 a0 a1 a2 a3 l4 t281 t282 true t276 t279 t280 t287 t290 t291))=some r:=by rw[if_pos rfl] at H;exact H
         clear H
         have H:=H1
         clear H1
         by_cases c54:t292=t281
         ·rw[if_pos c54] at H
          have c54b0:(t292 == t281)=true:=beq_iff_eq.mpr c54
          have c54b1:(t292 != t281)=false:=bne_eq_false_iff_eq.mpr c54
          clear c54
          have H':=Aside0.mk H
          clear H
          have hnb55:=NB294_283.out
          have hnc55:=NB283_294.out
          obtain⟨hcz56_0,hcz56_1,hcz56_2⟩:=cC3 BK294.out
          obtain⟨hfz56_0,hfz56_1,hfz56_2⟩:=cF3 BK294.out
          obtain⟨hcz57_0,hcz57_1,hcz57_2⟩:=cC3 BK283.out
          obtain⟨hfz57_0,hfz57_1,hfz57_2⟩:=cF3 BK283.out
          go_wp2_with (first|(go_at_call 25;(with_reducible refine(laws_eqSpray.calls kj11 _ _ t287 t290 t291 _ _ t276 t279 t280 true _ ?side1 ?side2 ?side3 ?side4 A52.out).mono ?_);(case side1=>exact bT HO_295000.out);(case side2=>exact(Kd.R_reads' HO_295000.out).2.1);(case side3=>exact bT HO_284000.out);(case side4=>exact(Kd.R_reads' HO_284000.out).2.1);rintro e w58 ⟨rfl,hb⟩;have n0_:=Aside0.mk (Kd.R_below (bK HO_15.out) hb);have n1_:=Aside0.mk (Kd.R_below (bK HO_284000.out) hb);have n2_:=Aside0.mk (Kd.R_below (bK HO_295000.out) hb);have n3_:=Aside0.mk (Kd.R_below (bK HO298.out) hb);have n4_:=Aside0.mk (bM BK283.out hb);have n5_:=Aside0.mk (bM BK294.out hb);have n6_:=Aside0.mk (below_step (bS2 GE283.out GE294.out) hb);clear HO_15 HO_284000 HO_295000 HO298 BK283 BK294 HB;have HO_15:=n0_;have HO_284000:=n1_;have HO_295000:=n2_;have HO298:=n3_;have BK283:=n4_;have BK294:=n5_;have HB:=n6_;clear n0_ n1_ n2_ n3_ n4_ n5_ n6_;(try clear hb);(try clear hb2);(try clear hk);(try clear hi)))
          go_meet
          case rel=>exact⟨_,((t293 != t282)),(bR),H',⟨by have:=HJ11.out;first|omega|exact Nat.le_refl _⟩,⟨by(with_reducible repeat (first|apply Kd.R_alloc|apply Kd.R_drewN|apply Kd.R_drew));exact HO_284000.out⟩,⟨by(with_reducible repeat (first|apply Kd.R_alloc|apply Kd.R_drewN|apply Kd.R_drew));exact HO_295000.out⟩,⟨by(with_reducible repeat (first|refine blk_drewN ?_ _|refine blk_drew ?_|refine blk_alloc ?_ _));exact BK283.out⟩,⟨by(with_reducible repeat (first|refine blk_drewN ?_ _|refine blk_drew ?_|refine blk_alloc ?_ _));exact BK294.out⟩,⟨bS2 GE283.out GE294.out⟩⟩
         ·rw[if_neg c54] at H
          have c54b0:(t292 == t281)=false:=beq_eq_false_iff_ne.mpr c54
          have c54b1:(t292 != t281)=true:=bne_iff_ne.mpr c54
          have H':=Aside0.mk H
          clear H
          have hnb59:=NB294_283.out
          have hnc59:=NB283_294.out
          obtain⟨hcz60_0,hcz60_1,hcz60_2⟩:=cC3 BK294.out
          obtain⟨hfz60_0,hfz60_1,hfz60_2⟩:=cF3 BK294.out
          obtain⟨hcz61_0,hcz61_1,hcz61_2⟩:=cC3 BK283.out
          obtain⟨hfz61_0,hfz61_1,hfz61_2⟩:=cF3 BK283.out
          go_wp2_with (first|(go_at_call 25;(with_reducible refine(laws_eqSpray.calls kj11 _ _ t287 t290 t291 _ _ t276 t279 t280 true _ ?side1 ?side2 ?side3 ?side4 A52.out).mono ?_);(case side1=>exact bT HO_295000.out);(case side2=>exact(Kd.R_reads' HO_295000.out).2.1);(case side3=>exact bT HO_284000.out);(case side4=>exact(Kd.R_reads' HO_284000.out).2.1);rintro e w62 ⟨rfl,hb⟩;have n0_:=Aside0.mk (Kd.R_below (bK HO_15.out) hb);have n1_:=Aside0.mk (Kd.R_below (bK HO_284000.out) hb);have n2_:=Aside0.mk (Kd.R_below (bK HO_295000.out) hb);have n3_:=Aside0.mk (Kd.R_below (bK HO298.out) hb);have n4_:=Aside0.mk (bM BK283.out hb);have n5_:=Aside0.mk (bM BK294.out hb);have n6_:=Aside0.mk (below_step (bS2 GE283.out GE294.out) hb);clear HO_15 HO_284000 HO_295000 HO298 BK283 BK294 HB;have HO_15:=n0_;have HO_284000:=n1_;have HO_295000:=n2_;have HO298:=n3_;have BK283:=n4_;have BK294:=n5_;have HB:=n6_;clear n0_ n1_ n2_ n3_ n4_ n5_ n6_;(try clear hb);(try clear hb2);(try clear hk);(try clear hi)))
          go_meet
          case rel=>exact⟨_,(true),(bR),H',⟨by have:=HJ11.out;first|omega|exact Nat.le_refl _⟩,⟨by(with_reducible repeat (first|apply Kd.R_alloc|apply Kd.R_drewN|apply Kd.R_drew));exact HO_284000.out⟩,⟨by(with_reducible repeat (first|apply Kd.R_alloc|apply Kd.R_drewN|apply Kd.R_drew));exact HO_295000.out⟩,⟨by(with_reducible repeat (first|refine blk_drewN ?_ _|refine blk_drew ?_|refine blk_alloc ?_ _));exact BK283.out⟩,⟨by(with_reducible repeat (first|refine blk_drewN ?_ _|refine blk_drew ?_|refine blk_alloc ?_ _));exact BK294.out⟩,⟨bS2 GE283.out GE294.out⟩⟩
        ·replace c53:=Bool.eq_false_iff.mpr c53
         subst c53
         have H1:(laws_FnExactPlaySpray.j1 kj11 a0 a1 a2 a3 l4 t281 t282 true t276 t279 t280 t287 t290 t291)=some r:=by rw[if_neg (show ¬ (false=true) by decide)] at H;exact H
         clear H
         have H:=H1
         clear H1
         have H':=Aside0.mk H
         clear H
         have hnb63:=NB294_283.out
         have hnc63:=NB283_294.out
         obtain⟨hcz64_0,hcz64_1,hcz64_2⟩:=cC3 BK294.out
         obtain⟨hfz64_0,hfz64_1,hfz64_2⟩:=cF3 BK294.out
         obtain⟨hcz65_0,hcz65_1,hcz65_2⟩:=cC3 BK283.out
         obtain⟨hfz65_0,hfz65_1,hfz65_2⟩:=cF3 BK283.out
         go_wp2_with (first|(go_at_call 25;(with_reducible refine(laws_eqSpray.calls kj11 _ _ t287 t290 t291 _ _ t276 t279 t280 false _ ?side1 ?side2 ?side3 ?side4 A52.out).mono ?_);(case side1=>exact bT HO_295000.out);(case side2=>exact(Kd.R_reads' HO_295000.out).2.1);(case side3=>exact bT HO_284000.out);(case side4=>exact(Kd.R_reads' HO_284000.out).2.1);rintro e w66 ⟨rfl,hb⟩;have n0_:=Aside0.mk (Kd.R_below (bK HO_15.out) hb);have n1_:=Aside0.mk (Kd.R_below (bK HO_284000.out) hb);have n2_:=Aside0.mk (Kd.R_below (bK HO_295000.out) hb);have n3_:=Aside0.mk (Kd.R_below (bK HO298.out) hb);have n4_:=Aside0.mk (bM BK283.out hb);have n5_:=Aside0.mk (bM BK294.out hb);have n6_:=Aside0.mk (below_step (bS2 GE283.out GE294.out) hb);clear HO_15 HO_284000 HO_295000 HO298 BK283 BK294 HB;have HO_15:=n0_;have HO_284000:=n1_;have HO_295000:=n2_;have HO298:=n3_;have BK283:=n4_;have BK294:=n5_;have HB:=n6_;clear n0_ n1_ n2_ n3_ n4_ n5_ n6_;(try clear hb);(try clear hb2);(try clear hk);(try clear hi)))
         go_meet
         case rel=>exact⟨_,(true),(bR),H',⟨by have:=HJ11.out;first|omega|exact Nat.le_refl _⟩,⟨by(with_reducible repeat (first|apply Kd.R_alloc|apply Kd.R_drewN|apply Kd.R_drew));exact HO_284000.out⟩,⟨by(with_reducible repeat (first|apply Kd.R_alloc|apply Kd.R_drewN|apply Kd.R_drew));exact HO_295000.out⟩,⟨by(with_reducible repeat (first|refine blk_drewN ?_ _|refine blk_drew ?_|refine blk_alloc ?_ _));exact BK283.out⟩,⟨by(with_reducible repeat (first|refine blk_drewN ?_ _|refine blk_drew ?_|refine blk_alloc ?_ _));exact BK294.out⟩,⟨bS2 GE283.out GE294.out⟩⟩
      case rest =>
       clear HC46
       try clear c1
       try clear c2
       try clear p2
       try clear c3
       try clear c4
       try clear c5
       try clear c6
       try clear c7
       try clear c7b0
       try clear c11
       try clear c24
       try clear c25
       try clear c27
       try clear c28
       try clear c28b0
       try clear c28b1
       try clear c29
       try clear c33
       try clear c37
       try clear c41
       try clear c44
       try clear c51
       try clear c51b0
       try clear c53
       try clear c54
       try clear c54b0
       try clear c54b1
       try clear c55
       try clear c59
       try clear c63
       try clear hcz18_0
       try clear hcz18_1
       try clear hcz18_2
       try clear hcz25_0
       try clear hcz25_1
       try clear hcz25_2
       try clear hcz30_0
       try clear hcz30_1
       try clear hcz30_2
       try clear hcz31_0
       try clear hcz31_1
       try clear hcz31_2
       try clear hcz34_0
       try clear hcz34_1
       try clear hcz34_2
       try clear hcz35_0
       try clear hcz35_1
       try clear hcz35_2
       try clear hcz38_0
       try clear hcz38_1
       try clear hcz38_2
       try clear hcz39_0
       try clear hcz39_1
       try clear hcz39_2
       try clear hcz56_0
       try clear hcz56_1
       try clear hcz56_2
       try clear hcz57_0
       try clear hcz57_1
       try clear hcz57_2
       try clear hcz60_0
       try clear hcz60_1
       try clear hcz60_2
       try clear hcz61_0
       try clear hcz61_1
       try clear hcz61_2
       try clear hcz64_0
       try clear hcz64_1
       try clear hcz64_2
       try clear hcz65_0
       try clear hcz65_1
       try clear hcz65_2
       try clear hfz18_0
       try clear hfz18_1
       try clear hfz18_2
       try clear hfz25_0
       try clear hfz25_1
       try clear hfz25_2
       try clear hfz30_0
       try clear hfz30_1
       try clear hfz30_2
       try clear hfz31_0
       try clear hfz31_1
       try clear hfz31_2
       try clear hfz34_0
       try clear hfz34_1
       try clear hfz34_2
       try clear hfz35_0
       try clear hfz35_1
       try clear hfz35_2
       try clear hfz38_0
       try clear hfz38_1
       try clear hfz38_2
       try clear hfz39_0
       try clear hfz39_1
       try clear hfz39_2
       try clear hfz56_0
       try clear hfz56_1
       try clear hfz56_2
       try clear hfz57_0
       try clear hfz57_1
       try clear hfz57_2
       try clear hfz60_0
       try clear hfz60_1
       try clear hfz60_2
       try clear hfz61_0
       try clear hfz61_1
       try clear hfz61_2
       try clear hfz64_0
       try clear hfz64_1
       try clear hfz64_2
       try clear hfz65_0
       try clear hfz65_1
       try clear hfz65_2
       try clear p2
       obtain⟨kq,x92_45,rfl,HA,HJ45,HO_284000,HO_295000,BK283,BK294,HB⟩:=hcut
       cases kq with
       | zero=>exact absurd HA.out (by simp[laws_FnExactPlaySpray.j1])
       | succ kj45 =>
        have H:=HA.out
        clear HA
        simp only[laws_FnExactPlaySpray.j1] at H
        by_cases c67:x92_45=true
        ·subst c67
         have H1:(some false)=some r:=by rw[if_pos rfl] at H;exact H
         clear H
         have H:=H1
         clear H1
         obtain rfl:=Option.some.inj H
         go_wp2
         go_ret
         exact⟨bE,bS2 GE283.out GE294.out⟩
        ·replace c67:=Bool.eq_false_iff.mpr c67
         subst c67
         have H1:((laws_markSpray.f kj45 t287 t290 t291 1).bind fun bt303=>((laws_heldSpray.f kj45 bt303.2 t290 t291 1).bind fun t305=>(if t305 < 0 then (some false) else (if t305=bt303.1 then ((laws_toMeetS.f kj45 l4).bind fun t306=>((impl_PlaySpray.f kj45 a0 a1 a2 a3 t306).bind fun bt309=>((laws_eqSpray.f kj45 bt309.1 bt309.2.1 bt309.2.2.1 t276 t279 t280).bind fun t317=>(if t317=true then (if bt309.2.2.2.1=t281 then (laws_FnExactPlaySpray.j2 kj45 bt303.1 (bt309.2.2.2.2 != t282) bt303.2 t290 t291) else (laws_FnExactPlaySpray.j2 kj45 bt303.1 true bt303.2 t290 t291)) else (laws_FnExactPlaySpray.j2 kj45 bt303.1 true bt303.2 t290 t291))))) else (some false)))))=some r:=by rw[if_neg (show ¬ (false=true) by decide)] at H;exact H
         clear H
         have H:=H1
         clear H1
         replace H:=Option.bind_eq_some_iff.mp H
         obtain⟨⟨t303,t304⟩,A680,H⟩:=H
         have A68:=Aside0.mk A680
         clear A680
         replace H:=Option.bind_eq_some_iff.mp H
         obtain⟨t305,A690,H⟩:=H
         have A69:=Aside0.mk A690
         clear A690
         by_cases c70:t305 < 0
         ·rw[if_pos c70] at H
          have c70b0:decide (t305 < 0)=true:=decide_eq_true c70
          clear c70
          obtain rfl:=Option.some.inj H
          have hnb71:=NB294_283.out
          have hnc71:=NB283_294.out
          obtain⟨hcz72_0,hcz72_1,hcz72_2⟩:=cC3 BK294.out
          obtain⟨hfz72_0,hfz72_1,hfz72_2⟩:=cF3 BK294.out
          go_wp2_with (first|((with_reducible refine gate_callee (f:=26) rfl ?_);refine goesA (some 95) rfl rfl Try.func26 #[.agg #[.slice Ao23 t287.length co23,.int .i64 t290,.bool t291],.int .i64 1] rfl ?_;(with_reducible refine(laws_markSpray.calls kj45 (fun k_=>some k_=(.slice Ao23 t287.length co23:Value).ownBlock) (.slice Ao23 t287.length co23) t287 t290 t291 1 t303 t304 w _ ?side1 ?side2 A68.out).mono ?_);(case side1=>repeat (first|(with_reducible first|exact HB.out|apply below_alloc|apply pw_below_drewN|apply below_drew1|refine below_set ?_ GE283.out|refine below_set ?_ GE294.out)|exact HB.out));(case side2=>exact Kd.R_tight rfl HO_295000.out);rintro e w73 ⟨rfl,hy0,hb,hkp⟩;refine⟨_,rfl,?_⟩;have n0_:=Aside0.mk (Kd.R_mono (ok':=fun k_=>some k_≠(.slice Ao23 t287.length co23:Value).ownBlock) (Kd.R_keptB (HO_284000.out) hkp (fun k_ hk_ hs_=>(hk_) hs_)) (fun k_ hk_=>hk_.1));have n1_:=Aside0.mk (Kd.R_reok rfl hy0 (fun k_ e_=>HO_295000.out.1 k_ e_));have n2_:=Aside0.mk (blk_kept (bL BK283.out) hkp (fun hs_=>(fun e_=>(Kd.R_ne HO_295000.out BK283.out (by decide)) e_) hs_));have n3_:=Aside0.mk (blk_kept (bL BK294.out) hkp (fun hs_=>(fun e_=>(Kd.R_ne HO_295000.out BK294.out (by decide)) e_) hs_));have n4_:=Aside0.mk (hb);clear HO_284000 HO_295000 BK283 BK294 HB;have HO_284000:=n0_;have HO_295000:=n1_;have BK283:=n2_;have BK294:=n3_;have HB:=n4_;clear n0_ n1_ n2_ n3_ n4_;(try clear hb);(try clear hkp);(try clear hy0);obtain⟨hcz74_0,hcz74_1,hcz74_2⟩:=cC3 BK294.out;obtain⟨hfz74_0,hfz74_1,hfz74_2⟩:=cF3 BK294.out)|((with_reducible refine gate_callee (f:=40) rfl ?_);refine goesL_ (some 98) rfl rfl Try.func40 (by kernel_rfl) rfl #[.agg #[.slice Ao23 t304.length co23,.int .i64 t290,.bool t291],.int .i64 1] rfl (by(try simp only[List.map_toArray,List.map_cons,List.map_nil]);first|done|(rw[show t304.length=t287.length from (Kd.R_reads' HO_295000.out).1.symm]<;>rfl)|rfl|(simp only[List.length_drop,List.length_take];rfl)) ?_;(with_reducible refine(laws_heldSpray.calls kj45 _ _ t304 t290 t291 1 t305 _ ?side1 ?side2 A69.out).mono ?_);(case side1=>exact bT HO_295000.out);(case side2=>rw[show t304.length=t287.length from (Kd.R_reads' HO_295000.out).1.symm];exact(Kd.R_reads' HO_295000.out).2.1);rintro e w75 ⟨rfl,hb⟩;refine⟨_,rfl,?_⟩;have n0_:=Aside0.mk (Kd.R_below (bK HO_284000.out) hb);have n1_:=Aside0.mk (Kd.R_below (bK HO_295000.out) hb);have n2_:=Aside0.mk (bM BK283.out hb);have n3_:=Aside0.mk (bM BK294.out hb);have n4_:=Aside0.mk (below_step (bS2 GE283.out GE294.out) hb);clear HO_284000 HO_295000 BK283 BK294 HB;have HO_284000:=n0_;have HO_295000:=n1_;have BK283:=n2_;have BK294:=n3_;have HB:=n4_;clear n0_ n1_ n2_ n3_ n4_;(try clear hb);(try clear hb2);(try clear hk);(try clear hi)))
          go_ret
          exact⟨bE,bS2 GE283.out GE294.out⟩
         ·rw[if_neg c70] at H
          have c70b0:decide (t305 < 0)=false:=decide_eq_false c70
          clear c70
          by_cases c76:t305=t303
          ·rw[if_pos c76] at H
           have c76b0:(t305 == t303)=true:=beq_iff_eq.mpr c76
           have c76b1:(t305 != t303)=false:=bne_eq_false_iff_eq.mpr c76
           clear c76
           replace H:=Option.bind_eq_some_iff.mp H
           obtain⟨t306,A770,H⟩:=H
           have A77:=Aside0.mk A770
           clear A770
           replace H:=Option.bind_eq_some_iff.mp H
           obtain⟨⟨t309,t312,t313,t314,t315⟩,A780,H⟩:=H
           have A78:=Aside0.mk A780
           clear A780
           have HC79:=Aside0.mk H
           clear H
           have hnb80:=NB294_283.out
           have hnc80:=NB283_294.out
           obtain⟨hcz81_0,hcz81_1,hcz81_2⟩:=cC3 BK294.out
           obtain⟨hfz81_0,hfz81_1,hfz81_2⟩:=cF3 BK294.out
           go_upto_region 25 with (first|((with_reducible refine gate_callee (f:=26) rfl ?_);refine goesA (some 95) rfl rfl Try.func26 #[.agg #[.slice Ao23 t287.length co23,.int .i64 t290,.bool t291],.int .i64 1] rfl ?_;(with_reducible refine(laws_markSpray.calls kj45 (fun k_=>some k_=(.slice Ao23 t287.length co23:Value).ownBlock) (.slice Ao23 t287.length co23) t287 t290 t291 1 t303 t304 w _ ?side1 ?side2 A68.out).mono ?_);(case side1=>repeat (first|(with_reducible first|exact HB.out|apply below_alloc|apply pw_below_drewN|apply below_drew1|refine below_set ?_ GE283.out|refine below_set ?_ GE294.out)|exact HB.out));(case side2=>exact Kd.R_tight rfl HO_295000.out);rintro e w82 ⟨rfl,hy0,hb,hkp⟩;refine⟨_,rfl,?_⟩;have n0_:=Aside0.mk (Kd.R_mono (ok':=fun k_=>some k_≠(.slice Ao23 t287.length co23:Value).ownBlock) (Kd.R_keptB (HO_284000.out) hkp (fun k_ hk_ hs_=>(hk_) hs_)) (fun k_ hk_=>hk_.1));have n1_:=Aside0.mk (Kd.R_reok rfl hy0 (fun k_ e_=>HO_295000.out.1 k_ e_));have n2_:=Aside0.mk (blk_kept (bL BK283.out) hkp (fun hs_=>(fun e_=>(Kd.R_ne HO_295000.out BK283.out (by decide)) e_) hs_));have n3_:=Aside0.mk (blk_kept (bL BK294.out) hkp (fun hs_=>(fun e_=>(Kd.R_ne HO_295000.out BK294.out (by decide)) e_) hs_));have n4_:=Aside0.mk (hb);clear HO_284000 HO_295000 BK283 BK294 HB;have HO_284000:=n0_;have HO_295000:=n1_;have BK283:=n2_;have BK294:=n3_;have HB:=n4_;clear n0_ n1_ n2_ n3_ n4_;(try clear hb);(try clear hkp);(try clear hy0);obtain⟨hcz83_0,hcz83_1,hcz83_2⟩:=cC3 BK294.out;obtain⟨hfz83_0,hfz83_1,hfz83_2⟩:=cF3 BK294.out)|((with_reducible refine gate_callee (f:=40) rfl ?_);refine goesL_ (some 98) rfl rfl Try.func40 (by kernel_rfl) rfl #[.agg #[.slice Ao23 t304.length co23,.int .i64 t290,.bool t291],.int .i64 1] rfl (by(try simp only[List.map_toArray,List.map_cons,List.map_nil]);first|done|(rw[show t304.length=t287.length from (Kd.R_reads' HO_295000.out).1.symm]<;>rfl)|rfl|(simp only[List.length_drop,List.length_take];rfl)) ?_;(with_reducible refine(laws_heldSpray.calls kj45 _ _ t304 t290 t291 1 t305 _ ?side1 ?side2 A69.out).mono ?_);(case side1=>exact bT HO_295000.out);(case side2=>rw[show t304.length=t287.length from (Kd.R_reads' HO_295000.out).1.symm];exact(Kd.R_reads' HO_295000.out).2.1);rintro e w84 ⟨rfl,hb⟩;refine⟨_,rfl,?_⟩;have n0_:=Aside0.mk (Kd.R_below (bK HO_284000.out) hb);have n1_:=Aside0.mk (Kd.R_below (bK HO_295000.out) hb);have n2_:=Aside0.mk (bM BK283.out hb);have n3_:=Aside0.mk (bM BK294.out hb);have n4_:=Aside0.mk (below_step (bS2 GE283.out GE294.out) hb);clear HO_284000 HO_295000 BK283 BK294 HB;have HO_284000:=n0_;have HO_295000:=n1_;have BK283:=n2_;have BK294:=n3_;have HB:=n4_;clear n0_ n1_ n2_ n3_ n4_;(try clear hb);(try clear hb2);(try clear hk);(try clear hi))|((with_reducible refine gate_callee (f:=70) rfl ?_);refine goesA (some 110) rfl rfl Try.func70 #[.slice A4 l4.length c4] rfl ?_;(with_reducible refine(laws_toMeetS.calls kj45 _ _ l4 t306 _ ?side1 ?side2 A77.out).mono ?_);(case side1=>exact bC HR4.out);(case side2=>exact HC4.out);rintro e w85 ⟨v307,rfl,ho0,hb⟩;refine⟨_,rfl,?_⟩;have n0_:=Aside0.mk (Kd.R_below (bK HO_284000.out) hb);have n1_:=Aside0.mk (Kd.R_below (bK HO_295000.out) hb);have n2_:=Aside0.mk (Kd.R_lower ho0 (below_size (bS2 GE283.out GE294.out)));have n3_:=Aside0.mk (bM BK283.out hb);have n4_:=Aside0.mk (bM BK294.out hb);have n5_:=Aside0.mk (below_step (bS2 GE283.out GE294.out) hb);clear HO_284000 HO_295000 BK283 BK294 HB;have HO_284000:=n0_;have HO_295000:=n1_;have HO308:=n2_;have BK283:=n3_;have BK294:=n4_;have HB:=n5_;clear n0_ n1_ n2_ n3_ n4_ n5_;(try clear hb);(try clear hb2);(try clear hk);(try clear hi);(try clear ho0);obtain⟨Ao86,co86,eo86⟩:=Kd.R_slice HO308.out;subst eo86)|((with_reducible refine gate_callee (f:=71) rfl ?_);refine goesA (some 111) rfl rfl Try.func71 #[.int .i64 a0,.int .i64 a1,.int .i64 a2,.int .i64 a3,.slice Ao86 t306.length co86] rfl ?_;(with_reducible refine(impl_PlaySpray.calls kj45 a0 a1 a2 a3 _ _ t306 t309 t312 t313 t314 t315 _ ?side1 ?side2 A78.out).mono ?_);(case side1=>exact bT HO308.out);(case side2=>exact(Kd.R_reads' HO308.out).2.1);rintro e w87 ⟨v310,rfl,ho0,hb⟩;refine⟨_,rfl,?_⟩;have n0_:=Aside0.mk (Kd.R_elder' (bK HO_284000.out) (Kd.R_base ho0) hb);have n1_:=Aside0.mk (Kd.R_elder' (bK HO_295000.out) (Kd.R_base ho0) hb);have n2_:=Aside0.mk (Kd.R_below (bK HO308.out) hb);have n3_:=Aside0.mk (Kd.R_lower (Kd.R_new' (Kd.R_new' ho0 (Kd.R_lt (bK HO_284000.out))) (Kd.R_lt (bK HO_295000.out))) (below_size (bS2 GE283.out GE294.out)));have n4_:=Aside0.mk (bM BK283.out hb);have n5_:=Aside0.mk (bM BK294.out hb);have n6_:=Aside0.mk (below_step (bS2 GE283.out GE294.out) hb);clear HO_284000 HO_295000 HO308 BK283 BK294 HB;have HO_284000:=n0_;have HO_295000:=n1_;have HO308:=n2_;have HO311:=n3_;have BK283:=n4_;have BK294:=n5_;have HB:=n6_;clear n0_ n1_ n2_ n3_ n4_ n5_ n6_;(try clear hb);(try clear hb2);(try clear hk);(try clear hi);(try clear ho0))|((with_reducible refine gate_dst (N:=22) rfl ?_);refine box_event ?hg (N:=22) ?hd (cs:=#[.slice none 0 0,.int .i64 0,.bool false]) (t:=39) ?hr ?_;(case hd=>rfl);(case hg=>rfl);(case hr=>first|(go_simp;done)|(go_simp;rfl));intro gb316 hg w88 hbox hb;have n0_:=Aside0.mk (Kd.R_below (bK HO_284000.out) hb);have n1_:=Aside0.mk (Kd.R_below (bK HO_295000.out) hb);have n2_:=Aside0.mk (Kd.R_below (bK HO308.out) hb);have n3_:=Aside0.mk (Kd.R_below (bK HO311.out) hb);have n4_:=Aside0.mk (bM BK283.out hb);have n5_:=Aside0.mk (bM BK294.out hb);have n6_:=Aside0.mk (below_step (bS2 GE283.out GE294.out) hb);have n7_:=Aside0.mk (hbox);have n8_:=Aside0.mk ((by rw[hg];exact(below_size (bS2 GE283.out GE294.out)):w.heap.size≤gb316));have n9_:=Aside0.mk ((by rw[hg];exact(below_size (bS2 GE283.out GE294.out)):w.heap.size≤gb316));have n10_:=Aside0.mk ((bN BK283.out hg:gb283≠gb316));have n11_:=Aside0.mk ((bO BK283.out hg:gb316≠gb283));have n12_:=Aside0.mk ((bN BK294.out hg:gb294≠gb316));have n13_:=Aside0.mk ((bO BK294.out hg:gb316≠gb294));clear HO_284000 HO_295000 HO308 HO311 BK283 BK294 HB;have HO_284000:=n0_;have HO_295000:=n1_;have HO308:=n2_;have HO311:=n3_;have BK283:=n4_;have BK294:=n5_;have HB:=n6_;have BK316:=n7_;have GW316:=n8_;have GE316:=n9_;have NB283_316:=n10_;have NB316_283:=n11_;have NB294_316:=n12_;have NB316_294:=n13_;clear n0_ n1_ n2_ n3_ n4_ n5_ n6_ n7_ n8_ n9_ n10_ n11_ n12_ n13_;clear hb hbox hg;obtain⟨Ao89,co89,eo89⟩:=Kd.R_slice HO311.out;subst eo89;have hnb90:=NB316_283.out;have hnc90:=NB283_316.out;have hnb91:=NB316_294.out;have hnc91:=NB294_316.out;obtain⟨hcz92_0,hcz92_1,hcz92_2⟩:=cC3 BK316.out;obtain⟨hfz92_0,hfz92_1,hfz92_2⟩:=cF3 BK316.out))
           (try simp only[Act.put,List.setIfInBounds_toArray,List.set_cons_zero,List.set_cons_succ])
           go_cut [128] (fun v128 wc => ∃ (kq:Nat) (x128_78:Bool),v128=.bool x128_78∧Aside0 (laws_FnExactPlaySpray.j2 kq t303 x128_78 t304 t290 t291=some r)∧Aside0 (kq≤kj45)∧Aside0 (Kd.R (Kd.int .i64) 3 wc w.heap.size (fun k_=>some k_≠((.slice Ao23 t287.length co23):Value).ownBlock∧some k_≠((.slice Ao89 t309.length co89):Value).ownBlock) (.slice Ao17 t276.length co17) t276)∧Aside0 (Kd.R (Kd.int .i64) 3 wc w.heap.size (fun k_=>some k_≠((.slice Ao17 t276.length co17):Value).ownBlock∧some k_≠((.slice Ao89 t309.length co89):Value).ownBlock) (.slice Ao23 t287.length co23) t304)∧Aside0 (Kd.R (Kd.int .i64) 3 wc w.heap.size (fun k_=>some k_≠((.slice Ao17 t276.length co17):Value).ownBlock∧some k_≠((.slice Ao23 t287.length co23):Value).ownBlock) (.slice Ao89 t309.length co89) t309)∧Aside0 (wc.heap[gb283]?=some (.cells #[(.slice Ao17 t276.length co17),.int .i64 t279,.bool t280] 39 (0,0)))∧Aside0 (wc.heap[gb294]?=some (.cells #[(.slice Ao23 t287.length co23),.int .i64 t290,.bool t291] 39 (0,0)))∧Aside0 (wc.heap[gb316]?=some (.cells #[(.slice Ao89 t309.length co89),.int .i64 t312,.bool t313] 39 (0,0)))∧Aside0 (Below w.heap.size w wc))
           case first =>
            have H:=HC79.out
            clear HC79
            replace H:=Option.bind_eq_some_iff.mp H
            obtain⟨t317,A930,H⟩:=H
            have A93:=Aside0.mk A930
            clear A930
            by_cases c94:t317=true
            ·subst c94
             have H1:(if t314=t281 then (laws_FnExactPlaySpray.j2 kj45 t303 (t315 != t282) t304 t290 t291) else (laws_FnExactPlaySpray.j2 kj45 t303 true t304 t290 t291))=some r:=by rw[if_pos rfl] at H;exact H
             clear H
             have H:=H1
             clear H1
             by_cases c95:t314=t281
             ·rw[if_pos c95] at H
              have c95b0:(t314 == t281)=true:=beq_iff_eq.mpr c95
              have c95b1:(t314 != t281)=false:=bne_eq_false_iff_eq.mpr c95
              clear c95
              (first|rw[c95b0]|(simp only[i64_w,i32_w];rw[c95b0])|skip)
              have H':=Aside0.mk H
              clear H
              have hnb96:=NB316_283.out
              have hnc96:=NB283_316.out
              have hnb97:=NB316_294.out
              have hnc97:=NB294_316.out
              obtain⟨hcz98_0,hcz98_1,hcz98_2⟩:=cC3 BK316.out
              obtain⟨hfz98_0,hfz98_1,hfz98_2⟩:=cF3 BK316.out
              have hnb99:=NB283_294.out
              have hnc99:=NB294_283.out
              obtain⟨hcz100_0,hcz100_1,hcz100_2⟩:=cC3 BK283.out
              obtain⟨hfz100_0,hfz100_1,hfz100_2⟩:=cF3 BK283.out
              go_wp2_with (first|((with_reducible refine gate_callee (f:=25) rfl ?_);refine goesA (some 117) rfl rfl Try.func25 #[.agg #[.slice Ao89 t309.length co89,.int .i64 t312,.bool t313],.agg #[.slice Ao17 t276.length co17,.int .i64 t279,.bool t280]] rfl ?_;(with_reducible refine(laws_eqSpray.calls kj45 _ _ t309 t312 t313 _ _ t276 t279 t280 true _ ?side1 ?side2 ?side3 ?side4 A93.out).mono ?_);(case side1=>refine(Kd.R_reads' (e:=3) (base:=w.heap.size) (ok:=fun k_=>((True∧some k_≠(.slice Ao17 t276.length co17:Value).ownBlock)∧some k_≠(.slice Ao23 t287.length co23:Value).ownBlock)) (n:=t309.length) (c:=co89) ?_).2.2;exact(by(with_reducible repeat (first|apply Kd.R_alloc|apply Kd.R_drewN|apply Kd.R_drew));exact(Kd.R_mono (Kd.R_far (p:=⟨gb316,2,none⟩) (Kd.R_far (p:=⟨gb316,1,none⟩) (Kd.R_far (p:=⟨gb316,0,none⟩) (Kd.R_types HO311.out BK316.out (by decide)) (fun _ hk=>hk.2) (.slice Ao89 t309.length co89)) (fun _ hk=>hk.2) (.int .i64 t312)) (fun _ hk=>hk.2) (.bool t313)) (fun _ h_=>h_.1))));(case side2=>exact(Kd.R_reads' HO311.out).2.1);(case side3=>refine(Kd.R_reads' (e:=3) (base:=w.heap.size) (ok:=fun k_=>(some k_≠(.slice Ao23 t287.length co23:Value).ownBlock∧some k_≠(.slice Ao89 t309.length co89:Value).ownBlock)) (n:=t276.length) (c:=co17) ?_).2.2;exact(by(with_reducible repeat (first|apply Kd.R_alloc|apply Kd.R_drewN|apply Kd.R_drew));exact(Kd.R_mono (Kd.R_far (p:=⟨gb316,2,none⟩) (Kd.R_far (p:=⟨gb316,1,none⟩) (Kd.R_far (p:=⟨gb316,0,none⟩) (Kd.R_types HO_284000.out BK316.out (by decide)) (fun _ hk=>hk.2) (.slice Ao89 t309.length co89)) (fun _ hk=>hk.2) (.int .i64 t312)) (fun _ hk=>hk.2) (.bool t313)) (fun _ h_=>h_.1))));(case side4=>exact(Kd.R_reads' HO_284000.out).2.1);rintro e w101 ⟨rfl,hb⟩;refine⟨_,rfl,?_⟩;have n0_:=Aside0.mk (Kd.R_below (by(with_reducible repeat (first|apply Kd.R_alloc|apply Kd.R_drewN|apply Kd.R_drew));exact(Kd.R_mono (Kd.R_far (p:=⟨gb316,2,none⟩) (Kd.R_far (p:=⟨gb316,1,none⟩) (Kd.R_far (p:=⟨gb316,0,none⟩) (Kd.R_types HO_284000.out BK316.out (by decide)) (fun _ hk=>hk.2) (.slice Ao89 t309.length co89)) (fun _ hk=>hk.2) (.int .i64 t312)) (fun _ hk=>hk.2) (.bool t313)) (fun _ h_=>h_.1))) hb);have n1_:=Aside0.mk (Kd.R_below (by(with_reducible repeat (first|apply Kd.R_alloc|apply Kd.R_drewN|apply Kd.R_drew));exact(Kd.R_mono (Kd.R_far (p:=⟨gb316,2,none⟩) (Kd.R_far (p:=⟨gb316,1,none⟩) (Kd.R_far (p:=⟨gb316,0,none⟩) (Kd.R_types HO_295000.out BK316.out (by decide)) (fun _ hk=>hk.2) (.slice Ao89 t309.length co89)) (fun _ hk=>hk.2) (.int .i64 t312)) (fun _ hk=>hk.2) (.bool t313)) (fun _ h_=>h_.1))) hb);have n2_:=Aside0.mk (Kd.R_below (by(with_reducible repeat (first|apply Kd.R_alloc|apply Kd.R_drewN|apply Kd.R_drew));exact(Kd.R_mono (Kd.R_far (p:=⟨gb316,2,none⟩) (Kd.R_far (p:=⟨gb316,1,none⟩) (Kd.R_far (p:=⟨gb316,0,none⟩) (Kd.R_types HO308.out BK316.out (by decide)) (fun _ hk=>hk.2) (.slice Ao89 t309.length co89)) (fun _ hk=>hk.2) (.int .i64 t312)) (fun _ hk=>hk.2) (.bool t313)) (fun _ h_=>h_.1))) hb);have n3_:=Aside0.mk (Kd.R_below (by(with_reducible repeat (first|apply Kd.R_alloc|apply Kd.R_drewN|apply Kd.R_drew));exact(Kd.R_mono (Kd.R_far (p:=⟨gb316,2,none⟩) (Kd.R_far (p:=⟨gb316,1,none⟩) (Kd.R_far (p:=⟨gb316,0,none⟩) (Kd.R_types HO311.out BK316.out (by decide)) (fun _ hk=>hk.2) (.slice Ao89 t309.length co89)) (fun _ hk=>hk.2) (.int .i64 t312)) (fun _ hk=>hk.2) (.bool t313)) (fun _ h_=>h_.1))) hb);have n4_:=Aside0.mk (blk_below (g:=gb283) (o:=.cells #[.slice Ao17 t276.length co17,.int .i64 t279,.bool t280] 39 (0,0)) (by(with_reducible repeat (first|refine blk_drewN ?_ _|refine blk_drew ?_|refine blk_alloc ?_ _));refine blk_far ?_ NB283_316.out _;(with_reducible repeat (first|refine blk_drewN ?_ _|refine blk_drew ?_|refine blk_alloc ?_ _));refine blk_far ?_ NB283_316.out _;(with_reducible repeat (first|refine blk_drewN ?_ _|refine blk_drew ?_|refine blk_alloc ?_ _));refine blk_far ?_ NB283_316.out _;(with_reducible repeat (first|refine blk_drewN ?_ _|refine blk_drew ?_|refine blk_alloc ?_ _));exact BK283.out) hb);have n5_:=Aside0.mk (blk_below (g:=gb294) (o:=.cells #[.slice Ao23 t287.length co23,.int .i64 t290,.bool t291] 39 (0,0)) (by(with_reducible repeat (first|refine blk_drewN ?_ _|refine blk_drew ?_|refine blk_alloc ?_ _));refine blk_far ?_ NB294_316.out _;(with_reducible repeat (first|refine blk_drewN ?_ _|refine blk_drew ?_|refine blk_alloc ?_ _));refine blk_far ?_ NB294_316.out _;(with_reducible repeat (first|refine blk_drewN ?_ _|refine blk_drew ?_|refine blk_alloc ?_ _));refine blk_far ?_ NB294_316.out _;(with_reducible repeat (first|refine blk_drewN ?_ _|refine blk_drew ?_|refine blk_alloc ?_ _));exact BK294.out) hb);have n6_:=Aside0.mk (blk_below (g:=gb316) (o:=.cells #[.slice Ao89 t309.length co89,.int .i64 t312,.bool t313] 39 (0,0)) (by(with_reducible repeat (first|refine blk_drewN ?_ _|refine blk_drew ?_|refine blk_alloc ?_ _));refine blk_put (cs:=#[.slice Ao89 t309.length co89,.int .i64 t312,.bool false]) ?_ 2 _ rfl;(with_reducible repeat (first|refine blk_drewN ?_ _|refine blk_drew ?_|refine blk_alloc ?_ _));refine blk_put (cs:=#[.slice Ao89 t309.length co89,.int .i64 0,.bool false]) ?_ 1 _ rfl;(with_reducible repeat (first|refine blk_drewN ?_ _|refine blk_drew ?_|refine blk_alloc ?_ _));refine blk_put (cs:=#[.slice none 0 0,.int .i64 0,.bool false]) ?_ 0 _ rfl;(with_reducible repeat (first|refine blk_drewN ?_ _|refine blk_drew ?_|refine blk_alloc ?_ _));exact BK316.out) hb);have n7_:=Aside0.mk (below_step (bS3 GE283.out GE294.out GE316.out) hb);clear HO_284000 HO_295000 HO308 HO311 BK283 BK294 BK316 HB;have HO_284000:=n0_;have HO_295000:=n1_;have HO308:=n2_;have HO311:=n3_;have BK283:=n4_;have BK294:=n5_;have BK316:=n6_;have HB:=n7_;clear n0_ n1_ n2_ n3_ n4_ n5_ n6_ n7_;(try clear hb);(try clear hb2);(try clear hk);(try clear hi)))
              go_meet
              case rel=>exact⟨_,((t315 != t282)),(bR),H',⟨by have:=HJ11.out;have:=HJ45.out;first|omega|exact Nat.le_refl _⟩,⟨by(with_reducible repeat (first|apply Kd.R_alloc|apply Kd.R_drewN|apply Kd.R_drew));exact HO_284000.out⟩,⟨by(with_reducible repeat (first|apply Kd.R_alloc|apply Kd.R_drewN|apply Kd.R_drew));exact HO_295000.out⟩,⟨by(with_reducible repeat (first|apply Kd.R_alloc|apply Kd.R_drewN|apply Kd.R_drew));exact Kd.R_mono HO311.out (fun _ hk=>⟨hk.1.2,hk.2⟩)⟩,⟨by(with_reducible repeat (first|refine blk_drewN ?_ _|refine blk_drew ?_|refine blk_alloc ?_ _));exact BK283.out⟩,⟨by(with_reducible repeat (first|refine blk_drewN ?_ _|refine blk_drew ?_|refine blk_alloc ?_ _));exact BK294.out⟩,⟨by(with_reducible repeat (first|refine blk_drewN ?_ _|refine blk_drew ?_|refine blk_alloc ?_ _));exact BK316.out⟩,⟨bS3 GE283.out GE294.out GE316.out⟩⟩
             ·rw[if_neg c95] at H
              have c95b0:(t314 == t281)=false:=beq_eq_false_iff_ne.mpr c95
              have c95b1:(t314 != t281)=true:=bne_iff_ne.mpr c95
              (first|rw[c95b0]|(simp only[i64_w,i32_w];rw[c95b0])|skip)
              have H':=Aside0.mk H
              clear H
              have hnb102:=NB316_283.out
              have hnc102:=NB283_316.out
              have hnb103:=NB316_294.out
              have hnc103:=NB294_316.out
              obtain⟨hcz104_0,hcz104_1,hcz104_2⟩:=cC3 BK316.out
              obtain⟨hfz104_0,hfz104_1,hfz104_2⟩:=cF3 BK316.out
              have hnb105:=NB283_294.out
              have hnc105:=NB294_283.out
              obtain⟨hcz106_0,hcz106_1,hcz106_2⟩:=cC3 BK283.out
              obtain⟨hfz106_0,hfz106_1,hfz106_2⟩:=cF3 BK283.out
              go_wp2_with (first|((with_reducible refine gate_callee (f:=25) rfl ?_);refine goesA (some 117) rfl rfl Try.func25 #[.agg #[.slice Ao89 t309.length co89,.int .i64 t312,.bool t313],.agg #[.slice Ao17 t276.length co17,.int .i64 t279,.bool t280]] rfl ?_;(with_reducible refine(laws_eqSpray.calls kj45 _ _ t309 t312 t313 _ _ t276 t279 t280 true _ ?side1 ?side2 ?side3 ?side4 A93.out).mono ?_);(case side1=>refine(Kd.R_reads' (e:=3) (base:=w.heap.size) (ok:=fun k_=>((True∧some k_≠(.slice Ao17 t276.length co17:Value).ownBlock)∧some k_≠(.slice Ao23 t287.length co23:Value).ownBlock)) (n:=t309.length) (c:=co89) ?_).2.2;exact(by(with_reducible repeat (first|apply Kd.R_alloc|apply Kd.R_drewN|apply Kd.R_drew));exact(Kd.R_mono (Kd.R_far (p:=⟨gb316,2,none⟩) (Kd.R_far (p:=⟨gb316,1,none⟩) (Kd.R_far (p:=⟨gb316,0,none⟩) (Kd.R_types HO311.out BK316.out (by decide)) (fun _ hk=>hk.2) (.slice Ao89 t309.length co89)) (fun _ hk=>hk.2) (.int .i64 t312)) (fun _ hk=>hk.2) (.bool t313)) (fun _ h_=>h_.1))));(case side2=>exact(Kd.R_reads' HO311.out).2.1);(case side3=>refine(Kd.R_reads' (e:=3) (base:=w.heap.size) (ok:=fun k_=>(some k_≠(.slice Ao23 t287.length co23:Value).ownBlock∧some k_≠(.slice Ao89 t309.length co89:Value).ownBlock)) (n:=t276.length) (c:=co17) ?_).2.2;exact(by(with_reducible repeat (first|apply Kd.R_alloc|apply Kd.R_drewN|apply Kd.R_drew));exact(Kd.R_mono (Kd.R_far (p:=⟨gb316,2,none⟩) (Kd.R_far (p:=⟨gb316,1,none⟩) (Kd.R_far (p:=⟨gb316,0,none⟩) (Kd.R_types HO_284000.out BK316.out (by decide)) (fun _ hk=>hk.2) (.slice Ao89 t309.length co89)) (fun _ hk=>hk.2) (.int .i64 t312)) (fun _ hk=>hk.2) (.bool t313)) (fun _ h_=>h_.1))));(case side4=>exact(Kd.R_reads' HO_284000.out).2.1);rintro e w107 ⟨rfl,hb⟩;refine⟨_,rfl,?_⟩;have n0_:=Aside0.mk (Kd.R_below (by(with_reducible repeat (first|apply Kd.R_alloc|apply Kd.R_drewN|apply Kd.R_drew));exact(Kd.R_mono (Kd.R_far (p:=⟨gb316,2,none⟩) (Kd.R_far (p:=⟨gb316,1,none⟩) (Kd.R_far (p:=⟨gb316,0,none⟩) (Kd.R_types HO_284000.out BK316.out (by decide)) (fun _ hk=>hk.2) (.slice Ao89 t309.length co89)) (fun _ hk=>hk.2) (.int .i64 t312)) (fun _ hk=>hk.2) (.bool t313)) (fun _ h_=>h_.1))) hb);have n1_:=Aside0.mk (Kd.R_below (by(with_reducible repeat (first|apply Kd.R_alloc|apply Kd.R_drewN|apply Kd.R_drew));exact(Kd.R_mono (Kd.R_far (p:=⟨gb316,2,none⟩) (Kd.R_far (p:=⟨gb316,1,none⟩) (Kd.R_far (p:=⟨gb316,0,none⟩) (Kd.R_types HO_295000.out BK316.out (by decide)) (fun _ hk=>hk.2) (.slice Ao89 t309.length co89)) (fun _ hk=>hk.2) (.int .i64 t312)) (fun _ hk=>hk.2) (.bool t313)) (fun _ h_=>h_.1))) hb);have n2_:=Aside0.mk (Kd.R_below (by(with_reducible repeat (first|apply Kd.R_alloc|apply Kd.R_drewN|apply Kd.R_drew));exact(Kd.R_mono (Kd.R_far (p:=⟨gb316,2,none⟩) (Kd.R_far (p:=⟨gb316,1,none⟩) (Kd.R_far (p:=⟨gb316,0,none⟩) (Kd.R_types HO308.out BK316.out (by decide)) (fun _ hk=>hk.2) (.slice Ao89 t309.length co89)) (fun _ hk=>hk.2) (.int .i64 t312)) (fun _ hk=>hk.2) (.bool t313)) (fun _ h_=>h_.1))) hb);have n3_:=Aside0.mk (Kd.R_below (by(with_reducible repeat (first|apply Kd.R_alloc|apply Kd.R_drewN|apply Kd.R_drew));exact(Kd.R_mono (Kd.R_far (p:=⟨gb316,2,none⟩) (Kd.R_far (p:=⟨gb316,1,none⟩) (Kd.R_far (p:=⟨gb316,0,none⟩) (Kd.R_types HO311.out BK316.out (by decide)) (fun _ hk=>hk.2) (.slice Ao89 t309.length co89)) (fun _ hk=>hk.2) (.int .i64 t312)) (fun _ hk=>hk.2) (.bool t313)) (fun _ h_=>h_.1))) hb);have n4_:=Aside0.mk (blk_below (g:=gb283) (o:=.cells #[.slice Ao17 t276.length co17,.int .i64 t279,.bool t280] 39 (0,0)) (by(with_reducible repeat (first|refine blk_drewN ?_ _|refine blk_drew ?_|refine blk_alloc ?_ _));refine blk_far ?_ NB283_316.out _;(with_reducible repeat (first|refine blk_drewN ?_ _|refine blk_drew ?_|refine blk_alloc ?_ _));refine blk_far ?_ NB283_316.out _;(with_reducible repeat (first|refine blk_drewN ?_ _|refine blk_drew ?_|refine blk_alloc ?_ _));refine blk_far ?_ NB283_316.out _;(with_reducible repeat (first|refine blk_drewN ?_ _|refine blk_drew ?_|refine blk_alloc ?_ _));exact BK283.out) hb);have n5_:=Aside0.mk (blk_below (g:=gb294) (o:=.cells #[.slice Ao23 t287.length co23,.int .i64 t290,.bool t291] 39 (0,0)) (by(with_reducible repeat (first|refine blk_drewN ?_ _|refine blk_drew ?_|refine blk_alloc ?_ _));refine blk_far ?_ NB294_316.out _;(with_reducible repeat (first|refine blk_drewN ?_ _|refine blk_drew ?_|refine blk_alloc ?_ _));refine blk_far ?_ NB294_316.out _;(with_reducible repeat (first|refine blk_drewN ?_ _|refine blk_drew ?_|refine blk_alloc ?_ _));refine blk_far ?_ NB294_316.out _;(with_reducible repeat (first|refine blk_drewN ?_ _|refine blk_drew ?_|refine blk_alloc ?_ _));exact BK294.out) hb);have n6_:=Aside0.mk (blk_below (g:=gb316) (o:=.cells #[.slice Ao89 t309.length co89,.int .i64 t312,.bool t313] 39 (0,0)) (by(with_reducible repeat (first|refine blk_drewN ?_ _|refine blk_drew ?_|refine blk_alloc ?_ _));refine blk_put (cs:=#[.slice Ao89 t309.length co89,.int .i64 t312,.bool false]) ?_ 2 _ rfl;(with_reducible repeat (first|refine blk_drewN ?_ _|refine blk_drew ?_|refine blk_alloc ?_ _));refine blk_put (cs:=#[.slice Ao89 t309.length co89,.int .i64 0,.bool false]) ?_ 1 _ rfl;(with_reducible repeat (first|refine blk_drewN ?_ _|refine blk_drew ?_|refine blk_alloc ?_ _));refine blk_put (cs:=#[.slice none 0 0,.int .i64 0,.bool false]) ?_ 0 _ rfl;(with_reducible repeat (first|refine blk_drewN ?_ _|refine blk_drew ?_|refine blk_alloc ?_ _));exact BK316.out) hb);have n7_:=Aside0.mk (below_step (bS3 GE283.out GE294.out GE316.out) hb);clear HO_284000 HO_295000 HO308 HO311 BK283 BK294 BK316 HB;have HO_284000:=n0_;have HO_295000:=n1_;have HO308:=n2_;have HO311:=n3_;have BK283:=n4_;have BK294:=n5_;have BK316:=n6_;have HB:=n7_;clear n0_ n1_ n2_ n3_ n4_ n5_ n6_ n7_;(try clear hb);(try clear hb2);(try clear hk);(try clear hi)))
              go_meet
              case rel=>exact⟨_,(true),(bR),H',⟨by have:=HJ11.out;have:=HJ45.out;first|omega|exact Nat.le_refl _⟩,⟨by(with_reducible repeat (first|apply Kd.R_alloc|apply Kd.R_drewN|apply Kd.R_drew));exact HO_284000.out⟩,⟨by(with_reducible repeat (first|apply Kd.R_alloc|apply Kd.R_drewN|apply Kd.R_drew));exact HO_295000.out⟩,⟨by(with_reducible repeat (first|apply Kd.R_alloc|apply Kd.R_drewN|apply Kd.R_drew));exact Kd.R_mono HO311.out (fun _ hk=>⟨hk.1.2,hk.2⟩)⟩,⟨by(with_reducible repeat (first|refine blk_drewN ?_ _|refine blk_drew ?_|refine blk_alloc ?_ _));exact BK283.out⟩,⟨by(with_reducible repeat (first|refine blk_drewN ?_ _|refine blk_drew ?_|refine blk_alloc ?_ _));exact BK294.out⟩,⟨by(with_reducible repeat (first|refine blk_drewN ?_ _|refine blk_drew ?_|refine blk_alloc ?_ _));exact BK316.out⟩,⟨bS3 GE283.out GE294.out GE316.out⟩⟩
            ·replace c94:=Bool.eq_false_iff.mpr c94
             subst c94
             have H1:(laws_FnExactPlaySpray.j2 kj45 t303 true t304 t290 t291)=some r:=by rw[if_neg (show ¬ (false=true) by decide)] at H;exact H
             clear H
             have H:=H1
             clear H1
             have H':=Aside0.mk H
             clear H
             have hnb108:=NB316_283.out
             have hnc108:=NB283_316.out
             have hnb109:=NB316_294.out
             have hnc109:=NB294_316.out
             obtain⟨hcz110_0,hcz110_1,hcz110_2⟩:=cC3 BK316.out
             obtain⟨hfz110_0,hfz110_1,hfz110_2⟩:=cF3 BK316.out
             have hnb111:=NB283_294.out
             have hnc111:=NB294_283.out
             obtain⟨hcz112_0,hcz112_1,hcz112_2⟩:=cC3 BK283.out
             obtain⟨hfz112_0,hfz112_1,hfz112_2⟩:=cF3 BK283.out
             go_wp2_with (first|((with_reducible refine gate_callee (f:=25) rfl ?_);refine goesA (some 117) rfl rfl Try.func25 #[.agg #[.slice Ao89 t309.length co89,.int .i64 t312,.bool t313],.agg #[.slice Ao17 t276.length co17,.int .i64 t279,.bool t280]] rfl ?_;(with_reducible refine(laws_eqSpray.calls kj45 _ _ t309 t312 t313 _ _ t276 t279 t280 false _ ?side1 ?side2 ?side3 ?side4 A93.out).mono ?_);(case side1=>refine(Kd.R_reads' (e:=3) (base:=w.heap.size) (ok:=fun k_=>((True∧some k_≠(.slice Ao17 t276.length co17:Value).ownBlock)∧some k_≠(.slice Ao23 t287.length co23:Value).ownBlock)) (n:=t309.length) (c:=co89) ?_).2.2;exact(by(with_reducible repeat (first|apply Kd.R_alloc|apply Kd.R_drewN|apply Kd.R_drew));exact(Kd.R_mono (Kd.R_far (p:=⟨gb316,2,none⟩) (Kd.R_far (p:=⟨gb316,1,none⟩) (Kd.R_far (p:=⟨gb316,0,none⟩) (Kd.R_types HO311.out BK316.out (by decide)) (fun _ hk=>hk.2) (.slice Ao89 t309.length co89)) (fun _ hk=>hk.2) (.int .i64 t312)) (fun _ hk=>hk.2) (.bool t313)) (fun _ h_=>h_.1))));(case side2=>exact(Kd.R_reads' HO311.out).2.1);(case side3=>refine(Kd.R_reads' (e:=3) (base:=w.heap.size) (ok:=fun k_=>(some k_≠(.slice Ao23 t287.length co23:Value).ownBlock∧some k_≠(.slice Ao89 t309.length co89:Value).ownBlock)) (n:=t276.length) (c:=co17) ?_).2.2;exact(by(with_reducible repeat (first|apply Kd.R_alloc|apply Kd.R_drewN|apply Kd.R_drew));exact(Kd.R_mono (Kd.R_far (p:=⟨gb316,2,none⟩) (Kd.R_far (p:=⟨gb316,1,none⟩) (Kd.R_far (p:=⟨gb316,0,none⟩) (Kd.R_types HO_284000.out BK316.out (by decide)) (fun _ hk=>hk.2) (.slice Ao89 t309.length co89)) (fun _ hk=>hk.2) (.int .i64 t312)) (fun _ hk=>hk.2) (.bool t313)) (fun _ h_=>h_.1))));(case side4=>exact(Kd.R_reads' HO_284000.out).2.1);rintro e w113 ⟨rfl,hb⟩;refine⟨_,rfl,?_⟩;have n0_:=Aside0.mk (Kd.R_below (by(with_reducible repeat (first|apply Kd.R_alloc|apply Kd.R_drewN|apply Kd.R_drew));exact(Kd.R_mono (Kd.R_far (p:=⟨gb316,2,none⟩) (Kd.R_far (p:=⟨gb316,1,none⟩) (Kd.R_far (p:=⟨gb316,0,none⟩) (Kd.R_types HO_284000.out BK316.out (by decide)) (fun _ hk=>hk.2) (.slice Ao89 t309.length co89)) (fun _ hk=>hk.2) (.int .i64 t312)) (fun _ hk=>hk.2) (.bool t313)) (fun _ h_=>h_.1))) hb);have n1_:=Aside0.mk (Kd.R_below (by(with_reducible repeat (first|apply Kd.R_alloc|apply Kd.R_drewN|apply Kd.R_drew));exact(Kd.R_mono (Kd.R_far (p:=⟨gb316,2,none⟩) (Kd.R_far (p:=⟨gb316,1,none⟩) (Kd.R_far (p:=⟨gb316,0,none⟩) (Kd.R_types HO_295000.out BK316.out (by decide)) (fun _ hk=>hk.2) (.slice Ao89 t309.length co89)) (fun _ hk=>hk.2) (.int .i64 t312)) (fun _ hk=>hk.2) (.bool t313)) (fun _ h_=>h_.1))) hb);have n2_:=Aside0.mk (Kd.R_below (by(with_reducible repeat (first|apply Kd.R_alloc|apply Kd.R_drewN|apply Kd.R_drew));exact(Kd.R_mono (Kd.R_far (p:=⟨gb316,2,none⟩) (Kd.R_far (p:=⟨gb316,1,none⟩) (Kd.R_far (p:=⟨gb316,0,none⟩) (Kd.R_types HO308.out BK316.out (by decide)) (fun _ hk=>hk.2) (.slice Ao89 t309.length co89)) (fun _ hk=>hk.2) (.int .i64 t312)) (fun _ hk=>hk.2) (.bool t313)) (fun _ h_=>h_.1))) hb);have n3_:=Aside0.mk (Kd.R_below (by(with_reducible repeat (first|apply Kd.R_alloc|apply Kd.R_drewN|apply Kd.R_drew));exact(Kd.R_mono (Kd.R_far (p:=⟨gb316,2,none⟩) (Kd.R_far (p:=⟨gb316,1,none⟩) (Kd.R_far (p:=⟨gb316,0,none⟩) (Kd.R_types HO311.out BK316.out (by decide)) (fun _ hk=>hk.2) (.slice Ao89 t309.length co89)) (fun _ hk=>hk.2) (.int .i64 t312)) (fun _ hk=>hk.2) (.bool t313)) (fun _ h_=>h_.1))) hb);have n4_:=Aside0.mk (blk_below (g:=gb283) (o:=.cells #[.slice Ao17 t276.length co17,.int .i64 t279,.bool t280] 39 (0,0)) (by(with_reducible repeat (first|refine blk_drewN ?_ _|refine blk_drew ?_|refine blk_alloc ?_ _));refine blk_far ?_ NB283_316.out _;(with_reducible repeat (first|refine blk_drewN ?_ _|refine blk_drew ?_|refine blk_alloc ?_ _));refine blk_far ?_ NB283_316.out _;(with_reducible repeat (first|refine blk_drewN ?_ _|refine blk_drew ?_|refine blk_alloc ?_ _));refine blk_far ?_ NB283_316.out _;(with_reducible repeat (first|refine blk_drewN ?_ _|refine blk_drew ?_|refine blk_alloc ?_ _));exact BK283.out) hb);have n5_:=Aside0.mk (blk_below (g:=gb294) (o:=.cells #[.slice Ao23 t287.length co23,.int .i64 t290,.bool t291] 39 (0,0)) (by(with_reducible repeat (first|refine blk_drewN ?_ _|refine blk_drew ?_|refine blk_alloc ?_ _));refine blk_far ?_ NB294_316.out _;(with_reducible repeat (first|refine blk_drewN ?_ _|refine blk_drew ?_|refine blk_alloc ?_ _));refine blk_far ?_ NB294_316.out _;(with_reducible repeat (first|refine blk_drewN ?_ _|refine blk_drew ?_|refine blk_alloc ?_ _));refine blk_far ?_ NB294_316.out _;(with_reducible repeat (first|refine blk_drewN ?_ _|refine blk_drew ?_|refine blk_alloc ?_ _));exact BK294.out) hb);have n6_:=Aside0.mk (blk_below (g:=gb316) (o:=.cells #[.slice Ao89 t309.length co89,.int .i64 t312,.bool t313] 39 (0,0)) (by(with_reducible repeat (first|refine blk_drewN ?_ _|refine blk_drew ?_|refine blk_alloc ?_ _));refine blk_put (cs:=#[.slice Ao89 t309.length co89,.int .i64 t312,.bool false]) ?_ 2 _ rfl;(with_reducible repeat (first|refine blk_drewN ?_ _|refine blk_drew ?_|refine blk_alloc ?_ _));refine blk_put (cs:=#[.slice Ao89 t309.length co89,.int .i64 0,.bool false]) ?_ 1 _ rfl;(with_reducible repeat (first|refine blk_drewN ?_ _|refine blk_drew ?_|refine blk_alloc ?_ _));refine blk_put (cs:=#[.slice none 0 0,.int .i64 0,.bool false]) ?_ 0 _ rfl;(with_reducible repeat (first|refine blk_drewN ?_ _|refine blk_drew ?_|refine blk_alloc ?_ _));exact BK316.out) hb);have n7_:=Aside0.mk (below_step (bS3 GE283.out GE294.out GE316.out) hb);clear HO_284000 HO_295000 HO308 HO311 BK283 BK294 BK316 HB;have HO_284000:=n0_;have HO_295000:=n1_;have HO308:=n2_;have HO311:=n3_;have BK283:=n4_;have BK294:=n5_;have BK316:=n6_;have HB:=n7_;clear n0_ n1_ n2_ n3_ n4_ n5_ n6_ n7_;(try clear hb);(try clear hb2);(try clear hk);(try clear hi)))
             go_meet
             case rel=>exact⟨_,(true),(bR),H',⟨by have:=HJ11.out;have:=HJ45.out;first|omega|exact Nat.le_refl _⟩,⟨by(with_reducible repeat (first|apply Kd.R_alloc|apply Kd.R_drewN|apply Kd.R_drew));exact HO_284000.out⟩,⟨by(with_reducible repeat (first|apply Kd.R_alloc|apply Kd.R_drewN|apply Kd.R_drew));exact HO_295000.out⟩,⟨by(with_reducible repeat (first|apply Kd.R_alloc|apply Kd.R_drewN|apply Kd.R_drew));exact Kd.R_mono HO311.out (fun _ hk=>⟨hk.1.2,hk.2⟩)⟩,⟨by(with_reducible repeat (first|refine blk_drewN ?_ _|refine blk_drew ?_|refine blk_alloc ?_ _));exact BK283.out⟩,⟨by(with_reducible repeat (first|refine blk_drewN ?_ _|refine blk_drew ?_|refine blk_alloc ?_ _));exact BK294.out⟩,⟨by(with_reducible repeat (first|refine blk_drewN ?_ _|refine blk_drew ?_|refine blk_alloc ?_ _));exact BK316.out⟩,⟨bS3 GE283.out GE294.out GE316.out⟩⟩
           case rest =>
            clear HC79
            try clear c1
            try clear c2
            try clear p2
            try clear c3
            try clear c4
            try clear c5
            try clear c6
            try clear c7
            try clear c7b0
            try clear c8
            try clear c9
            try clear c10
            try clear c11
            try clear c24
            try clear c25
            try clear c26
            try clear c27
            try clear c28
            try clear c28b0
            try clear c28b1
            try clear c29
            try clear c33
            try clear c37
            try clear c40
            try clear c41
            try clear c44
            try clear c51
            try clear c51b0
            try clear c53
            try clear c54
            try clear c54b0
            try clear c54b1
            try clear c55
            try clear c59
            try clear c63
            try clear c67
            try clear c70
            try clear c70b0
            try clear c71
            try clear c72
            try clear c73
            try clear c76
            try clear c76b0
            try clear c76b1
            try clear c80
            try clear c90
            try clear c91
            try clear c94
            try clear c95
            try clear c95b0
            try clear c95b1
            try clear c96
            try clear c97
            try clear c99
            try clear c102
            try clear c103
            try clear c105
            try clear c108
            try clear c109
            try clear c111
            try clear hcz100_0
            try clear hcz100_1
            try clear hcz100_2
            try clear hcz104_0
            try clear hcz104_1
            try clear hcz104_2
            try clear hcz106_0
            try clear hcz106_1
            try clear hcz106_2
            try clear hcz110_0
            try clear hcz110_1
            try clear hcz110_2
            try clear hcz112_0
            try clear hcz112_1
            try clear hcz112_2
            try clear hcz18_0
            try clear hcz18_1
            try clear hcz18_2
            try clear hcz25_0
            try clear hcz25_1
            try clear hcz25_2
            try clear hcz30_0
            try clear hcz30_1
            try clear hcz30_2
            try clear hcz31_0
            try clear hcz31_1
            try clear hcz31_2
            try clear hcz34_0
            try clear hcz34_1
            try clear hcz34_2
            try clear hcz35_0
            try clear hcz35_1
            try clear hcz35_2
            try clear hcz38_0
            try clear hcz38_1
            try clear hcz38_2
            try clear hcz39_0
            try clear hcz39_1
            try clear hcz39_2
            try clear hcz56_0
            try clear hcz56_1
            try clear hcz56_2
            try clear hcz57_0
            try clear hcz57_1
            try clear hcz57_2
            try clear hcz60_0
            try clear hcz60_1
            try clear hcz60_2
            try clear hcz61_0
            try clear hcz61_1
            try clear hcz61_2
            try clear hcz64_0
            try clear hcz64_1
            try clear hcz64_2
            try clear hcz65_0
            try clear hcz65_1
            try clear hcz65_2
            try clear hcz72_0
            try clear hcz72_1
            try clear hcz72_2
            try clear hcz74_0
            try clear hcz74_1
            try clear hcz74_2
            try clear hcz81_0
            try clear hcz81_1
            try clear hcz81_2
            try clear hcz83_0
            try clear hcz83_1
            try clear hcz83_2
            try clear hcz92_0
            try clear hcz92_1
            try clear hcz92_2
            try clear hcz98_0
            try clear hcz98_1
            try clear hcz98_2
            try clear hfz100_0
            try clear hfz100_1
            try clear hfz100_2
            try clear hfz104_0
            try clear hfz104_1
            try clear hfz104_2
            try clear hfz106_0
            try clear hfz106_1
            try clear hfz106_2
            try clear hfz110_0
            try clear hfz110_1
            try clear hfz110_2
            try clear hfz112_0
            try clear hfz112_1
            try clear hfz112_2
            try clear hfz18_0
            try clear hfz18_1
            try clear hfz18_2
            try clear hfz25_0
            try clear hfz25_1
            try clear hfz25_2
            try clear hfz30_0
            try clear hfz30_1
            try clear hfz30_2
            try clear hfz31_0
            try clear hfz31_1
            try clear hfz31_2
            try clear hfz34_0
            try clear hfz34_1
            try clear hfz34_2
            try clear hfz35_0
            try clear hfz35_1
            try clear hfz35_2
            try clear hfz38_0
            try clear hfz38_1
            try clear hfz38_2
            try clear hfz39_0
            try clear hfz39_1
            try clear hfz39_2
            try clear hfz56_0
            try clear hfz56_1
            try clear hfz56_2
            try clear hfz57_0
            try clear hfz57_1
            try clear hfz57_2
            try clear hfz60_0
            try clear hfz60_1
            try clear hfz60_2
            try clear hfz61_0
            try clear hfz61_1
            try clear hfz61_2
            try clear hfz64_0
            try clear hfz64_1
            try clear hfz64_2
            try clear hfz65_0
            try clear hfz65_1
            try clear hfz65_2
            try clear hfz72_0
            try clear hfz72_1
            try clear hfz72_2
            try clear hfz74_0
            try clear hfz74_1
            try clear hfz74_2
            try clear hfz81_0
            try clear hfz81_1
            try clear hfz81_2
            try clear hfz83_0
            try clear hfz83_1
            try clear hfz83_2
            try clear hfz92_0
            try clear hfz92_1
            try clear hfz92_2
            try clear hfz98_0
            try clear hfz98_1
            try clear hfz98_2
            try clear p2
            obtain⟨kq,x128_78,rfl,HA,HJ78,HO_284000,HO_295000,HO_317000,BK283,BK294,BK316,HB⟩:=hcut
            have hl295000_78:=(Kd.R_reads' HO_295000.out).1
            rw[hl295000_78] at HO_295000
            (try simp only[hl295000_78])
            (try simp only[hl295000_78] at BK283)
            (try simp only[hl295000_78] at BK294)
            (try simp only[hl295000_78] at BK316)
            (try simp only[hl295000_78] at HO_284000)
            (try simp only[hl295000_78] at HO_317000)
            cases kq with
            | zero=>exact absurd HA.out (by simp[laws_FnExactPlaySpray.j2])
            | succ kj78 =>
             have H:=HA.out
             clear HA
             simp only[laws_FnExactPlaySpray.j2] at H
             by_cases c114:x128_78=true
             ·subst c114
              have H1:(some false)=some r:=by rw[if_pos rfl] at H;exact H
              clear H
              have H:=H1
              clear H1
              obtain rfl:=Option.some.inj H
              go_wp2
              go_ret
              exact⟨bE,bS3 GE283.out GE294.out GE316.out⟩
             ·replace c114:=Bool.eq_false_iff.mpr c114
              subst c114
              have H1:((laws_heldSpray.f kj78 t304 t290 t291 1).bind fun t318=>(if t318 < 0 then (some false) else (if t318=t303 then (some true) else (some false))))=some r:=by rw[if_neg (show ¬ (false=true) by decide)] at H;exact H
              clear H
              have H:=H1
              clear H1
              replace H:=Option.bind_eq_some_iff.mp H
              obtain⟨t318,A1150,H⟩:=H
              have A115:=Aside0.mk A1150
              clear A1150
              by_cases c116:t318 < 0
              ·rw[if_pos c116] at H
               have c116b0:decide (t318 < 0)=true:=decide_eq_true c116
               clear c116
               obtain rfl:=Option.some.inj H
               have hnb117:=NB294_283.out
               have hnc117:=NB283_294.out
               have hnb118:=NB294_316.out
               have hnc118:=NB316_294.out
               obtain⟨hcz119_0,hcz119_1,hcz119_2⟩:=cC3 BK294.out
               obtain⟨hfz119_0,hfz119_1,hfz119_2⟩:=cF3 BK294.out
               go_wp2_with (first|((with_reducible refine gate_callee (f:=40) rfl ?_);refine goesA (some 131) rfl rfl Try.func40 #[.agg #[.slice Ao23 t304.length co23,.int .i64 t290,.bool t291],.int .i64 1] rfl ?_;(with_reducible refine(laws_heldSpray.calls kj78 _ _ t304 t290 t291 1 t318 _ ?side1 ?side2 A115.out).mono ?_);(case side1=>exact bT HO_295000.out);(case side2=>exact(Kd.R_reads' HO_295000.out).2.1);rintro e w120 ⟨rfl,hb⟩;refine⟨_,rfl,?_⟩;have n0_:=Aside0.mk (Kd.R_below (bK HO_284000.out) hb);have n1_:=Aside0.mk (Kd.R_below (bK HO_295000.out) hb);have n2_:=Aside0.mk (Kd.R_below (bK HO_317000.out) hb);have n3_:=Aside0.mk (bM BK283.out hb);have n4_:=Aside0.mk (bM BK294.out hb);have n5_:=Aside0.mk (bM BK316.out hb);have n6_:=Aside0.mk (below_step (bS3 GE283.out GE294.out GE316.out) hb);clear HO_284000 HO_295000 HO_317000 BK283 BK294 BK316 HB;have HO_284000:=n0_;have HO_295000:=n1_;have HO_317000:=n2_;have BK283:=n3_;have BK294:=n4_;have BK316:=n5_;have HB:=n6_;clear n0_ n1_ n2_ n3_ n4_ n5_ n6_;(try clear hb);(try clear hb2);(try clear hk);(try clear hi)))
               go_ret
               exact⟨bE,bS3 GE283.out GE294.out GE316.out⟩
              ·rw[if_neg c116] at H
               have c116b0:decide (t318 < 0)=false:=decide_eq_false c116
               clear c116
               by_cases c121:t318=t303
               ·rw[if_pos c121] at H
                have c121b0:(t318 == t303)=true:=beq_iff_eq.mpr c121
                have c121b1:(t318 != t303)=false:=bne_eq_false_iff_eq.mpr c121
                clear c121
                obtain rfl:=Option.some.inj H
                have hnb122:=NB294_283.out
                have hnc122:=NB283_294.out
                have hnb123:=NB294_316.out
                have hnc123:=NB316_294.out
                obtain⟨hcz124_0,hcz124_1,hcz124_2⟩:=cC3 BK294.out
                obtain⟨hfz124_0,hfz124_1,hfz124_2⟩:=cF3 BK294.out
                go_wp2_with (first|((with_reducible refine gate_callee (f:=40) rfl ?_);refine goesA (some 131) rfl rfl Try.func40 #[.agg #[.slice Ao23 t304.length co23,.int .i64 t290,.bool t291],.int .i64 1] rfl ?_;(with_reducible refine(laws_heldSpray.calls kj78 _ _ t304 t290 t291 1 t318 _ ?side1 ?side2 A115.out).mono ?_);(case side1=>exact bT HO_295000.out);(case side2=>exact(Kd.R_reads' HO_295000.out).2.1);rintro e w125 ⟨rfl,hb⟩;refine⟨_,rfl,?_⟩;have n0_:=Aside0.mk (Kd.R_below (bK HO_284000.out) hb);have n1_:=Aside0.mk (Kd.R_below (bK HO_295000.out) hb);have n2_:=Aside0.mk (Kd.R_below (bK HO_317000.out) hb);have n3_:=Aside0.mk (bM BK283.out hb);have n4_:=Aside0.mk (bM BK294.out hb);have n5_:=Aside0.mk (bM BK316.out hb);have n6_:=Aside0.mk (below_step (bS3 GE283.out GE294.out GE316.out) hb);clear HO_284000 HO_295000 HO_317000 BK283 BK294 BK316 HB;have HO_284000:=n0_;have HO_295000:=n1_;have HO_317000:=n2_;have BK283:=n3_;have BK294:=n4_;have BK316:=n5_;have HB:=n6_;clear n0_ n1_ n2_ n3_ n4_ n5_ n6_;(try clear hb);(try clear hb2);(try clear hk);(try clear hi)))
                go_ret
                exact⟨bE,bS3 GE283.out GE294.out GE316.out⟩
               ·rw[if_neg c121] at H
                have c121b0:(t318 == t303)=false:=beq_eq_false_iff_ne.mpr c121
                have c121b1:(t318 != t303)=true:=bne_iff_ne.mpr c121
                obtain rfl:=Option.some.inj H
                have hnb126:=NB294_283.out
                have hnc126:=NB283_294.out
                have hnb127:=NB294_316.out
                have hnc127:=NB316_294.out
                obtain⟨hcz128_0,hcz128_1,hcz128_2⟩:=cC3 BK294.out
                obtain⟨hfz128_0,hfz128_1,hfz128_2⟩:=cF3 BK294.out
                go_wp2_with (first|((with_reducible refine gate_callee (f:=40) rfl ?_);refine goesA (some 131) rfl rfl Try.func40 #[.agg #[.slice Ao23 t304.length co23,.int .i64 t290,.bool t291],.int .i64 1] rfl ?_;(with_reducible refine(laws_heldSpray.calls kj78 _ _ t304 t290 t291 1 t318 _ ?side1 ?side2 A115.out).mono ?_);(case side1=>exact bT HO_295000.out);(case side2=>exact(Kd.R_reads' HO_295000.out).2.1);rintro e w129 ⟨rfl,hb⟩;refine⟨_,rfl,?_⟩;have n0_:=Aside0.mk (Kd.R_below (bK HO_284000.out) hb);have n1_:=Aside0.mk (Kd.R_below (bK HO_295000.out) hb);have n2_:=Aside0.mk (Kd.R_below (bK HO_317000.out) hb);have n3_:=Aside0.mk (bM BK283.out hb);have n4_:=Aside0.mk (bM BK294.out hb);have n5_:=Aside0.mk (bM BK316.out hb);have n6_:=Aside0.mk (below_step (bS3 GE283.out GE294.out GE316.out) hb);clear HO_284000 HO_295000 HO_317000 BK283 BK294 BK316 HB;have HO_284000:=n0_;have HO_295000:=n1_;have HO_317000:=n2_;have BK283:=n3_;have BK294:=n4_;have BK316:=n5_;have HB:=n6_;clear n0_ n1_ n2_ n3_ n4_ n5_ n6_;(try clear hb);(try clear hb2);(try clear hk);(try clear hi)))
                go_ret
                exact⟨bE,bS3 GE283.out GE294.out GE316.out⟩
          ·rw[if_neg c76] at H
           have c76b0:(t305 == t303)=false:=beq_eq_false_iff_ne.mpr c76
           have c76b1:(t305 != t303)=true:=bne_iff_ne.mpr c76
           obtain rfl:=Option.some.inj H
           have hnb130:=NB294_283.out
           have hnc130:=NB283_294.out
           obtain⟨hcz131_0,hcz131_1,hcz131_2⟩:=cC3 BK294.out
           obtain⟨hfz131_0,hfz131_1,hfz131_2⟩:=cF3 BK294.out
           go_wp2_with (first|((with_reducible refine gate_callee (f:=26) rfl ?_);refine goesA (some 95) rfl rfl Try.func26 #[.agg #[.slice Ao23 t287.length co23,.int .i64 t290,.bool t291],.int .i64 1] rfl ?_;(with_reducible refine(laws_markSpray.calls kj45 (fun k_=>some k_=(.slice Ao23 t287.length co23:Value).ownBlock) (.slice Ao23 t287.length co23) t287 t290 t291 1 t303 t304 w _ ?side1 ?side2 A68.out).mono ?_);(case side1=>repeat (first|(with_reducible first|exact HB.out|apply below_alloc|apply pw_below_drewN|apply below_drew1|refine below_set ?_ GE283.out|refine below_set ?_ GE294.out)|exact HB.out));(case side2=>exact Kd.R_tight rfl HO_295000.out);rintro e w132 ⟨rfl,hy0,hb,hkp⟩;refine⟨_,rfl,?_⟩;have n0_:=Aside0.mk (Kd.R_mono (ok':=fun k_=>some k_≠(.slice Ao23 t287.length co23:Value).ownBlock) (Kd.R_keptB (HO_284000.out) hkp (fun k_ hk_ hs_=>(hk_) hs_)) (fun k_ hk_=>hk_.1));have n1_:=Aside0.mk (Kd.R_reok rfl hy0 (fun k_ e_=>HO_295000.out.1 k_ e_));have n2_:=Aside0.mk (blk_kept (bL BK283.out) hkp (fun hs_=>(fun e_=>(Kd.R_ne HO_295000.out BK283.out (by decide)) e_) hs_));have n3_:=Aside0.mk (blk_kept (bL BK294.out) hkp (fun hs_=>(fun e_=>(Kd.R_ne HO_295000.out BK294.out (by decide)) e_) hs_));have n4_:=Aside0.mk (hb);clear HO_284000 HO_295000 BK283 BK294 HB;have HO_284000:=n0_;have HO_295000:=n1_;have BK283:=n2_;have BK294:=n3_;have HB:=n4_;clear n0_ n1_ n2_ n3_ n4_;(try clear hb);(try clear hkp);(try clear hy0);obtain⟨hcz133_0,hcz133_1,hcz133_2⟩:=cC3 BK294.out;obtain⟨hfz133_0,hfz133_1,hfz133_2⟩:=cF3 BK294.out)|((with_reducible refine gate_callee (f:=40) rfl ?_);refine goesL_ (some 98) rfl rfl Try.func40 (by kernel_rfl) rfl #[.agg #[.slice Ao23 t304.length co23,.int .i64 t290,.bool t291],.int .i64 1] rfl (by(try simp only[List.map_toArray,List.map_cons,List.map_nil]);first|done|(rw[show t304.length=t287.length from (Kd.R_reads' HO_295000.out).1.symm]<;>rfl)|rfl|(simp only[List.length_drop,List.length_take];rfl)) ?_;(with_reducible refine(laws_heldSpray.calls kj45 _ _ t304 t290 t291 1 t305 _ ?side1 ?side2 A69.out).mono ?_);(case side1=>exact bT HO_295000.out);(case side2=>rw[show t304.length=t287.length from (Kd.R_reads' HO_295000.out).1.symm];exact(Kd.R_reads' HO_295000.out).2.1);rintro e w134 ⟨rfl,hb⟩;refine⟨_,rfl,?_⟩;have n0_:=Aside0.mk (Kd.R_below (bK HO_284000.out) hb);have n1_:=Aside0.mk (Kd.R_below (bK HO_295000.out) hb);have n2_:=Aside0.mk (bM BK283.out hb);have n3_:=Aside0.mk (bM BK294.out hb);have n4_:=Aside0.mk (below_step (bS2 GE283.out GE294.out) hb);clear HO_284000 HO_295000 BK283 BK294 HB;have HO_284000:=n0_;have HO_295000:=n1_;have BK283:=n2_;have BK294:=n3_;have HB:=n4_;clear n0_ n1_ n2_ n3_ n4_;(try clear hb);(try clear hb2);(try clear hk);(try clear hi)))
           go_ret
           exact⟨bE,bS2 GE283.out GE294.out⟩
     ·replace c44:=Bool.eq_false_iff.mpr c44
      subst c44
      have H1:(some false)=some r:=by rw[if_neg (show ¬ (false=true) by decide)] at H;exact H
      clear H
      have H:=H1
      clear H1
      obtain rfl:=Option.some.inj H
      go_wp2_with (first|((with_reducible refine gate_callee (f:=70) rfl ?_);refine goesA (some 69) rfl rfl Try.func70 #[.slice A4 l4.length c4] rfl ?_;(with_reducible refine(laws_toMeetS.calls kj11 _ _ l4 t296 _ ?side1 ?side2 A42.out).mono ?_);(case side1=>exact bC HR4.out);(case side2=>exact HC4.out);rintro e w135 ⟨v297,rfl,ho0,hb⟩;refine⟨_,rfl,?_⟩;have n0_:=Aside0.mk (Kd.R_elder' (bK HO_15.out) (Kd.R_base ho0) hb);have n1_:=Aside0.mk (Kd.R_below (bK HO_284000.out) hb);have n2_:=Aside0.mk (Kd.R_below (bK HO_295000.out) hb);have n3_:=Aside0.mk (Kd.R_lower (Kd.R_new' ho0 (Kd.R_lt (bK HO_15.out))) (below_size (bS2 GE283.out GE294.out)));have n4_:=Aside0.mk (bM BK283.out hb);have n5_:=Aside0.mk (bM BK294.out hb);have n6_:=Aside0.mk (below_step (bS2 GE283.out GE294.out) hb);clear HO_15 HO_284000 HO_295000 BK283 BK294 HB;have HO_15:=n0_;have HO_284000:=n1_;have HO_295000:=n2_;have HO298:=n3_;have BK283:=n4_;have BK294:=n5_;have HB:=n6_;clear n0_ n1_ n2_ n3_ n4_ n5_ n6_;(try clear hb);(try clear hb2);(try clear hk);(try clear hi);(try clear ho0);obtain⟨Ao136,co136,eo136⟩:=Kd.R_slice HO298.out;subst eo136)|((with_reducible refine gate_callee (f:=72) rfl ?_);refine goesA (some 70) rfl rfl Try.func72 #[.slice Ao20 t284.length co20,.slice Ao136 t296.length co136] rfl ?_;(with_reducible refine(laws_eqMeetS.calls kj11 _ _ t284 _ _ t296 false _ ?side1 ?side2 ?side3 ?side4 A43.out).mono ?_);(case side1=>exact bT HO_15.out);(case side2=>exact(Kd.R_reads' HO_15.out).2.1);(case side3=>exact bT HO298.out);(case side4=>exact(Kd.R_reads' HO298.out).2.1);rintro e w137 ⟨rfl,hb⟩;refine⟨_,rfl,?_⟩;have n0_:=Aside0.mk (Kd.R_below (bK HO_15.out) hb);have n1_:=Aside0.mk (Kd.R_below (bK HO_284000.out) hb);have n2_:=Aside0.mk (Kd.R_below (bK HO_295000.out) hb);have n3_:=Aside0.mk (Kd.R_below (bK HO298.out) hb);have n4_:=Aside0.mk (bM BK283.out hb);have n5_:=Aside0.mk (bM BK294.out hb);have n6_:=Aside0.mk (below_step (bS2 GE283.out GE294.out) hb);clear HO_15 HO_284000 HO_295000 HO298 BK283 BK294 HB;have HO_15:=n0_;have HO_284000:=n1_;have HO_295000:=n2_;have HO298:=n3_;have BK283:=n4_;have BK294:=n5_;have HB:=n6_;clear n0_ n1_ n2_ n3_ n4_ n5_ n6_;(try clear hb);(try clear hb2);(try clear hk);(try clear hi)))
      go_ret
      exact⟨bE,bS2 GE283.out GE294.out⟩

end Go.Proofs.Ytnphabcbnpenjaa.XFnExactPlaySpray
