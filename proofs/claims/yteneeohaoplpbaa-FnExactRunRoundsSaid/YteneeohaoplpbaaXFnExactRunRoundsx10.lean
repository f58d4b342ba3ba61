-- Written by this session's own program (wip/xprint.py) out of the translation; Lean checks it.
import Derived.Test.YteneeohaoplpbaaXFnExactRunRoundsx0
import Derived.Test.YteneeohaoplpbaaXFnExactRunRoundsx1
import Derived.Test.YteneeohaoplpbaaXFnExactRunRoundsx2
import Derived.Test.YteneeohaoplpbaaXFnExactRunRoundsx3
import Derived.Test.YteneeohaoplpbaaXFnExactRunRoundsx5
import Derived.Test.YteneeohaoplpbaaXFnExactRunRoundsx9
namespace Go.Proofs.Yteneeohaoplpbaa.XFnExactRunRounds
open Go.RowKit Go.Proofs.YteneeohaoplpbaaW.PrintWords Go.Proofs.YteneeohaoplpbaaW.PrintLast Go.Proofs.YteneeohaoplpbaaW.PrintMore
attribute [local go_sem] max2_int min2_int max_two min_two max_three min_three max_four min_four   -- for this text's walks alone
set_option linter.unusedVariables false
set_option linter.unusedSimpArgs false

/-! ### laws_FnExactRunRounds: function 9 -/
mutual
def laws_FnExactRunRounds.j0:Nat→Int→Int→Bool→Int→Bool→Bool→Int→List (S167)→Int→Int→List (S116)→Int→Int→List (S116)→Int→Int→List (S116)→Int→Option (Bool)
 | 0,_,_,_,_,_,_,_,_,_,_,_,_,_,_,_,_,_,_=>none
 | k+1,x1,x7,x8,x11,x12,x54,x334000,x334001,x334002,x348000,x348001,x348002,x354000,x354001,x354002,x362000,x362001,x362002=>if x54=true then (some false) else ((laws_toTurns.f k x334000 x334001 x334002).bind fun bt363=>((laws_eqTurns.f k x354000 x354001 x354002 bt363.1 bt363.2.1 bt363.2.2).bind fun t368=>(if t368=true then ((laws_markTurns.f k x354000 x354001 x354002 1).bind fun bt369=>(if bt369.1 < 0 then (laws_FnExactRunRounds.j1 k x1 x7 x8 true x334000 x334001 x334002 x348000 x348001 x348002 x362000 x362001 x362002) else ((laws_eqTurns.f k x362000 x362001 x362002 x348000 x348001 x348002).bind fun t371=>(if t371=true then (if x11=x7 then (laws_FnExactRunRounds.j1 k x1 x7 x8 (x12 != x8) x334000 x334001 x334002 x348000 x348001 x348002 x362000 x362001 x362002) else (laws_FnExactRunRounds.j1 k x1 x7 x8 true x334000 x334001 x334002 x348000 x348001 x348002 x362000 x362001 x362002)) else (laws_FnExactRunRounds.j1 k x1 x7 x8 true x334000 x334001 x334002 x348000 x348001 x348002 x362000 x362001 x362002))))) else (some false))))
def laws_FnExactRunRounds.j1:Nat→Int→Int→Bool→Bool→Int→List (S167)→Int→Int→List (S116)→Int→Int→List (S116)→Int→Option (Bool)
 | 0,_,_,_,_,_,_,_,_,_,_,_,_,_=>none
 | k+1,x1,x7,x8,x80,x334000,x334001,x334002,x348000,x348001,x348002,x362000,x362001,x362002=>if x80=true then (some false) else ((laws_markTurns.f k x362000 x362001 x362002 1).bind fun bt372=>((laws_heldTurns.f k x362000 bt372.2 x362002 1).bind fun t374=>(if t374 < 0 then (some false) else (if t374=bt372.1 then ((laws_toTurns.f k x334000 x334001 x334002).bind fun bt375=>((impl_RunRounds.f k bt375.1 bt375.2.1 bt375.2.2 x1).bind fun bt380=>((laws_eqTurns.f k bt380.1 bt380.2.1 bt380.2.2.1 x348000 x348001 x348002).bind fun t388=>(if t388=true then (if bt380.2.2.2.1=x7 then (laws_FnExactRunRounds.j2 k bt372.1 (bt380.2.2.2.2 != x8) x362000 bt372.2 x362002) else (laws_FnExactRunRounds.j2 k bt372.1 true x362000 bt372.2 x362002)) else (laws_FnExactRunRounds.j2 k bt372.1 true x362000 bt372.2 x362002))))) else (some false)))))
def laws_FnExactRunRounds.j2:Nat→Int→Bool→Int→List (S116)→Int→Option (Bool)
 | 0,_,_,_,_,_=>none
 | k+1,x14,x113,x362000,x362001,x362002=>if x113=true then (some false) else ((laws_heldTurns.f k x362000 x362001 x362002 1).bind fun t389=>(if t389 < 0 then (some false) else (if t389=x14 then (some true) else (some false))))
end
def laws_FnExactRunRounds.f (k:Nat) (a0_0:Int) (l0_1:List (S167)) (a0_2:Int) (a1:Int):Option (Bool):=(laws_szTurns.f k a0_0 l0_1 a0_2 1048576).bind fun t334=>(if t334 < 0 then (some true) else ((laws_toTurns.f k a0_0 l0_1 a0_2).bind fun bt335=>((spec_RunRounds.f k bt335.1 bt335.2.1 bt335.2.2 a1).bind fun bt340=>((laws_toTurns.f k a0_0 l0_1 a0_2).bind fun bt348=>((impl_RunRounds.f k bt348.1 bt348.2.1 bt348.2.2 a1).bind fun bt354=>((laws_eqTurns.f k bt354.1 bt354.2.1 bt354.2.2.1 bt340.1 bt340.2.1 bt340.2.2.1).bind fun t362=>(if t362=true then (if bt354.2.2.2.1=bt340.2.2.2.1 then (laws_FnExactRunRounds.j0 k a1 bt340.2.2.2.1 bt340.2.2.2.2 bt354.2.2.2.1 bt354.2.2.2.2 (bt354.2.2.2.2 != bt340.2.2.2.2) a0_0 l0_1 a0_2 bt340.1 bt340.2.1 bt340.2.2.1 bt348.1 bt348.2.1 bt348.2.2 bt354.1 bt354.2.1 bt354.2.2.1) else (laws_FnExactRunRounds.j0 k a1 bt340.2.2.2.1 bt340.2.2.2.2 bt354.2.2.2.1 bt354.2.2.2.2 true a0_0 l0_1 a0_2 bt340.1 bt340.2.1 bt340.2.2.1 bt348.1 bt348.2.1 bt348.2.2 bt354.1 bt354.2.1 bt354.2.2.1)) else (laws_FnExactRunRounds.j0 k a1 bt340.2.2.2.1 bt340.2.2.2.2 bt354.2.2.2.1 bt354.2.2.2.2 true a0_0 l0_1 a0_2 bt340.1 bt340.2.1 bt340.2.2.1 bt348.1 bt348.2.1 bt348.2.2 bt354.1 bt354.2.1 bt354.2.2.1))))))))
theorem laws_FnExactRunRounds.mono_l : ∀ k,(∀ y0 y1 y2 y3 y4 y5 y6 y7 y8 y9 y10 y11 y12 y13 y14 y15 y16 y17,LeO (laws_FnExactRunRounds.j0 k y0 y1 y2 y3 y4 y5 y6 y7 y8 y9 y10 y11 y12 y13 y14 y15 y16 y17) (laws_FnExactRunRounds.j0 (k+1) y0 y1 y2 y3 y4 y5 y6 y7 y8 y9 y10 y11 y12 y13 y14 y15 y16 y17))∧(∀ y0 y1 y2 y3 y4 y5 y6 y7 y8 y9 y10 y11 y12,LeO (laws_FnExactRunRounds.j1 k y0 y1 y2 y3 y4 y5 y6 y7 y8 y9 y10 y11 y12) (laws_FnExactRunRounds.j1 (k+1) y0 y1 y2 y3 y4 y5 y6 y7 y8 y9 y10 y11 y12))∧(∀ y0 y1 y2 y3 y4,LeO (laws_FnExactRunRounds.j2 k y0 y1 y2 y3 y4) (laws_FnExactRunRounds.j2 (k+1) y0 y1 y2 y3 y4))
 | 0=>⟨fun _ _ _ _ _ _ _ _ _ _ _ _ _ _ _ _ _ _ r h=>by simp[laws_FnExactRunRounds.j0] at h,fun _ _ _ _ _ _ _ _ _ _ _ _ _ r h=>by simp[laws_FnExactRunRounds.j1] at h,fun _ _ _ _ _ r h=>by simp[laws_FnExactRunRounds.j2] at h⟩
 | k+1=>by
  obtain⟨ih0,ih1,ih2⟩:=laws_FnExactRunRounds.mono_l k
  refine⟨?_,?_,?_⟩
  ·intro y0 y1 y2 y3 y4 y5 y6 y7 y8 y9 y10 y11 y12 y13 y14 y15 y16 y17
   unfold laws_FnExactRunRounds.j0
   repeat' first
   | (with_reducible exact ih0 _ _ _ _ _ _ _ _ _ _ _ _ _ _ _ _ _ _)
   | (with_reducible exact ih1 _ _ _ _ _ _ _ _ _ _ _ _ _)
   | (with_reducible exact ih2 _ _ _ _ _)
   | (with_reducible exact impl_RunRounds.mono _ _ _ _ _)
   | (with_reducible exact laws_eqTurns.mono _ _ _ _ _ _ _)
   | (with_reducible exact laws_heldTurns.mono _ _ _ _ _)
   | (with_reducible exact laws_markTurns.mono _ _ _ _ _)
   | (with_reducible exact laws_szTurns.mono _ _ _ _ _)
   | (with_reducible exact laws_toTurns.mono _ _ _ _)
   | (with_reducible exact spec_RunRounds.mono _ _ _ _ _)
   | (with_reducible exact LeO.refl _)
   | (with_reducible exact LeO.none _)
   | (with_reducible refine LeO.ite ?_ ?_)
   | (with_reducible refine LeO.bind ?_ (fun _ => ?_))
   | exact ih0 _ _ _ _ _ _ _ _ _ _ _ _ _ _ _ _ _ _
   | exact ih1 _ _ _ _ _ _ _ _ _ _ _ _ _
   | exact ih2 _ _ _ _ _
   | exact impl_RunRounds.mono _ _ _ _ _
   | exact laws_eqTurns.mono _ _ _ _ _ _ _
   | exact laws_heldTurns.mono _ _ _ _ _
   | exact laws_markTurns.mono _ _ _ _ _
   | exact laws_szTurns.mono _ _ _ _ _
   | exact laws_toTurns.mono _ _ _ _
   | exact spec_RunRounds.mono _ _ _ _ _
   | exact LeO.none _
   | refine LeO.ite ?_ ?_
   | refine LeO.bind ?_ (fun _ => ?_)
  ·intro y0 y1 y2 y3 y4 y5 y6 y7 y8 y9 y10 y11 y12
   unfold laws_FnExactRunRounds.j1
   repeat' first
   | (with_reducible exact ih0 _ _ _ _ _ _ _ _ _ _ _ _ _ _ _ _ _ _)
   | (with_reducible exact ih1 _ _ _ _ _ _ _ _ _ _ _ _ _)
   | (with_reducible exact ih2 _ _ _ _ _)
   | (with_reducible exact impl_RunRounds.mono _ _ _ _ _)
   | (with_reducible exact laws_eqTurns.mono _ _ _ _ _ _ _)
   | (with_reducible exact laws_heldTurns.mono _ _ _ _ _)
   | (with_reducible exact laws_markTurns.mono _ _ _ _ _)
   | (with_reducible exact laws_szTurns.mono _ _ _ _ _)
   | (with_reducible exact laws_toTurns.mono _ _ _ _)
   | (with_reducible exact spec_RunRounds.mono _ _ _ _ _)
   | (with_reducible exact LeO.refl _)
   | (with_reducible exact LeO.none _)
   | (with_reducible refine LeO.ite ?_ ?_)
   | (with_reducible refine LeO.bind ?_ (fun _ => ?_))
   | exact ih0 _ _ _ _ _ _ _ _ _ _ _ _ _ _ _ _ _ _
   | exact ih1 _ _ _ _ _ _ _ _ _ _ _ _ _
   | exact ih2 _ _ _ _ _
   | exact impl_RunRounds.mono _ _ _ _ _
   | exact laws_eqTurns.mono _ _ _ _ _ _ _
   | exact laws_heldTurns.mono _ _ _ _ _
   | exact laws_markTurns.mono _ _ _ _ _
   | exact laws_szTurns.mono _ _ _ _ _
   | exact laws_toTurns.mono _ _ _ _
   | exact spec_RunRounds.mono _ _ _ _ _
   | exact LeO.none _
   | refine LeO.ite ?_ ?_
   | refine LeO.bind ?_ (fun _ => ?_)
  ·intro y0 y1 y2 y3 y4
   unfold laws_FnExactRunRounds.j2
   repeat' first
   | (with_reducible exact ih0 _ _ _ _ _ _ _ _ _ _ _ _ _ _ _ _ _ _)
   | (with_reducible exact ih1 _ _ _ _ _ _ _ _ _ _ _ _ _)
   | (with_reducible exact ih2 _ _ _ _ _)
   | (with_reducible exact impl_RunRounds.mono _ _ _ _ _)
   | (with_reducible exact laws_eqTurns.mono _ _ _ _ _ _ _)
   | (with_reducible exact laws_heldTurns.mono _ _ _ _ _)
   | (with_reducible exact laws_markTurns.mono _ _ _ _ _)
   | (with_reducible exact laws_szTurns.mono _ _ _ _ _)
   | (with_reducible exact laws_toTurns.mono _ _ _ _)
   | (with_reducible exact spec_RunRounds.mono _ _ _ _ _)
   | (with_reducible exact LeO.refl _)
   | (with_reducible exact LeO.none _)
   | (with_reducible refine LeO.ite ?_ ?_)
   | (with_reducible refine LeO.bind ?_ (fun _ => ?_))
   | exact ih0 _ _ _ _ _ _ _ _ _ _ _ _ _ _ _ _ _ _
   | exact ih1 _ _ _ _ _ _ _ _ _ _ _ _ _
   | exact ih2 _ _ _ _ _
   | exact impl_RunRounds.mono _ _ _ _ _
   | exact laws_eqTurns.mono _ _ _ _ _ _ _
   | exact laws_heldTurns.mono _ _ _ _ _
   | exact laws_markTurns.mono _ _ _ _ _
   | exact laws_szTurns.mono _ _ _ _ _
   | exact laws_toTurns.mono _ _ _ _
   | exact spec_RunRounds.mono _ _ _ _ _
   | exact LeO.none _
   | refine LeO.ite ?_ ?_
   | refine LeO.bind ?_ (fun _ => ?_)
theorem laws_FnExactRunRounds.mono : ∀ a0 a1 a2 a3 k,LeO (laws_FnExactRunRounds.f k a0 a1 a2 a3) (laws_FnExactRunRounds.f (k+1) a0 a1 a2 a3):=by
 intro a0 a1 a2 a3 k
 obtain⟨ih0,ih1,ih2⟩:=laws_FnExactRunRounds.mono_l k
 unfold laws_FnExactRunRounds.f
 repeat' first
  | (with_reducible exact ih0 _ _ _ _ _ _ _ _ _ _ _ _ _ _ _ _ _ _)
  | (with_reducible exact ih1 _ _ _ _ _ _ _ _ _ _ _ _ _)
  | (with_reducible exact ih2 _ _ _ _ _)
  | (with_reducible exact impl_RunRounds.mono _ _ _ _ _)
  | (with_reducible exact laws_eqTurns.mono _ _ _ _ _ _ _)
  | (with_reducible exact laws_heldTurns.mono _ _ _ _ _)
  | (with_reducible exact laws_markTurns.mono _ _ _ _ _)
  | (with_reducible exact laws_szTurns.mono _ _ _ _ _)
  | (with_reducible exact laws_toTurns.mono _ _ _ _)
  | (with_reducible exact spec_RunRounds.mono _ _ _ _ _)
  | (with_reducible exact LeO.refl _)
  | (with_reducible exact LeO.none _)
  | (with_reducible refine LeO.ite ?_ ?_)
  | (with_reducible refine LeO.bind ?_ (fun _ => ?_))
  | exact ih0 _ _ _ _ _ _ _ _ _ _ _ _ _ _ _ _ _ _
  | exact ih1 _ _ _ _ _ _ _ _ _ _ _ _ _
  | exact ih2 _ _ _ _ _
  | exact impl_RunRounds.mono _ _ _ _ _
  | exact laws_eqTurns.mono _ _ _ _ _ _ _
  | exact laws_heldTurns.mono _ _ _ _ _
  | exact laws_markTurns.mono _ _ _ _ _
  | exact laws_szTurns.mono _ _ _ _ _
  | exact laws_toTurns.mono _ _ _ _
  | exact spec_RunRounds.mono _ _ _ _ _
  | exact LeO.none _
  | refine LeO.ite ?_ ?_
  | refine LeO.bind ?_ (fun _ => ?_)
set_option maxHeartbeats 8000000 in
set_option maxRecDepth 100000 in
theorem laws_FnExactRunRounds.calls (k:Nat) (a0_0:Int) (A0_1:Option Addr) (c0_1:Nat) (l0_1:List (S167)) (a0_2:Int) (a1:Int) (r:Bool) (w:World) (hr0_1:Kd.C k167 w A0_1 l0_1.length l0_1) (hc0_1:l0_1.length≤c0_1) (h:laws_FnExactRunRounds.f k a0_0 l0_1 a0_2 a1=some r) :
  Calls Try.prog 9 #[.agg #[.int .i64 a0_0,.slice A0_1 l0_1.length c0_1,.int .i64 a0_2],.int .i64 a1] w fun e w'=>e=.returned (.bool r)∧Below w.heap.size w w':=by
 have hu24:=Try.underlying24
 have hu28:=Try.underlying28
 have HR0_1:=Aside0.mk hr0_1
 have HC0_1:=Aside0.mk hc0_1
 clear hr0_1 hc0_1
 have HB:=Aside0.mk (Below.refl w.heap.size w)
 have H:((laws_szTurns.f k a0_0 l0_1 a0_2 1048576).bind fun t334=>(if t334 < 0 then (some true) else ((laws_toTurns.f k a0_0 l0_1 a0_2).bind fun bt335=>((spec_RunRounds.f k bt335.1 bt335.2.1 bt335.2.2 a1).bind fun bt340=>((laws_toTurns.f k a0_0 l0_1 a0_2).bind fun bt348=>((impl_RunRounds.f k bt348.1 bt348.2.1 bt348.2.2 a1).bind fun bt354=>((laws_eqTurns.f k bt354.1 bt354.2.1 bt354.2.2.1 bt340.1 bt340.2.1 bt340.2.2.1).bind fun t362=>(if t362=true then (if bt354.2.2.2.1=bt340.2.2.2.1 then (laws_FnExactRunRounds.j0 k a1 bt340.2.2.2.1 bt340.2.2.2.2 bt354.2.2.2.1 bt354.2.2.2.2 (bt354.2.2.2.2 != bt340.2.2.2.2) a0_0 l0_1 a0_2 bt340.1 bt340.2.1 bt340.2.2.1 bt348.1 bt348.2.1 bt348.2.2 bt354.1 bt354.2.1 bt354.2.2.1) else (laws_FnExactRunRounds.j0 k a1 bt340.2.2.2.1 bt340.2.2.2.2 bt354.2.2.2.1 bt354.2.2.2.2 true a0_0 l0_1 a0_2 bt340.1 bt340.2.1 bt340.2.2.1 bt348.1 bt348.2.1 bt348.2.2 bt354.1 bt354.2.1 bt354.2.2.1)) else (laws_FnExactRunRounds.j0 k a1 bt340.2.2.2.1 bt340.2.2.2.2 bt354.2.2.2.1 bt354.2.2.2.2 true a0_0 l0_1 a0_2 bt340.1 bt340.2.1 bt340.2.2.1 bt348.1 bt348.2.1 bt348.2.2 bt354.1 bt354.2.1 bt354.2.2.1)))))))))=some r:=h
 clear h
 replace H:=Option.bind_eq_some_iff.mp H
 obtain⟨t334,A30,H⟩:=H
 have A3:=Aside0.mk A30
 clear A30
 by_cases c4:t334 < 0
 ·rw[if_pos c4] at H
  have c4b0:decide (t334 < 0)=true:=decide_eq_true c4
  clear c4
  obtain rfl:=Option.some.inj H
  go_enter Try.func9,Try.ntmps9
  go_wp2_with (first|((with_reducible refine gate_dst (N:=2) rfl ?_);refine box_event ?hg (N:=2) ?hd (cs:=#[.int .i64 a0_0,.slice A0_1 l0_1.length c0_1,.int .i64 a0_2]) (t:=24) ?hr ?_;(case hd=>rfl);(case hg=>rfl);(case hr=>first|(go_simp;done)|(go_simp;rfl));intro gb333 hg w5 hbox hb;have n0_:=Aside0.mk (below_step (bB) hb);have n1_:=Aside0.mk (hbox);have n2_:=Aside0.mk ((bG:w.heap.size≤gb333));have n3_:=Aside0.mk ((bG:w.heap.size≤gb333));clear HB;have HB:=n0_;have BK333:=n1_;have GW333:=n2_;have GE333:=n3_;clear n0_ n1_ n2_ n3_;clear hb hbox hg;obtain⟨hcz6_0,hcz6_1,hcz6_2⟩:=cC3 BK333.out;obtain⟨hfz6_0,hfz6_1,hfz6_2⟩:=cF3 BK333.out)|((with_reducible refine gate_callee (f:=15) rfl ?_);refine goesA (some 21) rfl rfl Try.func15 #[.agg #[.int .i64 a0_0,.slice A0_1 l0_1.length c0_1,.int .i64 a0_2],.int .i64 1048576] rfl ?_;(with_reducible refine(laws_szTurns.calls k a0_0 _ _ l0_1 a0_2 1048576 t334 _ ?side1 ?side2 A3.out).mono ?_);(case side1=>exact bC HR0_1.out);(case side2=>exact HC0_1.out);rintro e w7 ⟨rfl,hb⟩;refine⟨_,rfl,?_⟩;have n0_:=Aside0.mk (bM BK333.out hb);have n1_:=Aside0.mk (below_step (bS GE333.out) hb);clear BK333 HB;have BK333:=n0_;have HB:=n1_;clear n0_ n1_;(try clear hb);(try clear hb2);(try clear hk);(try clear hi)))
  go_ret
  exact⟨bE,bS GE333.out⟩
 ·rw[if_neg c4] at H
  have c4b0:decide (t334 < 0)=false:=decide_eq_false c4
  clear c4
  replace H:=Option.bind_eq_some_iff.mp H
  obtain⟨⟨t335,t336,t339⟩,A80,H⟩:=H
  have A8:=Aside0.mk A80
  clear A80
  replace H:=Option.bind_eq_some_iff.mp H
  obtain⟨⟨t340,t341,t344,t345,t346⟩,A90,H⟩:=H
  have A9:=Aside0.mk A90
  clear A90
  replace H:=Option.bind_eq_some_iff.mp H
  obtain⟨⟨t348,t349,t352⟩,A100,H⟩:=H
  have A10:=Aside0.mk A100
  clear A100
  replace H:=Option.bind_eq_some_iff.mp H
  obtain⟨⟨t354,t355,t358,t359,t360⟩,A110,H⟩:=H
  have A11:=Aside0.mk A110
  clear A110
  have HC12:=Aside0.mk H
  clear H
  go_enter Try.func9,Try.ntmps9
  go_upto_region 8 with (first|((with_reducible refine gate_dst (N:=2) rfl ?_);refine box_event ?hg (N:=2) ?hd (cs:=#[.int .i64 a0_0,.slice A0_1 l0_1.length c0_1,.int .i64 a0_2]) (t:=24) ?hr ?_;(case hd=>rfl);(case hg=>rfl);(case hr=>first|(go_simp;done)|(go_simp;rfl));intro gb333 hg w13 hbox hb;have n0_:=Aside0.mk (below_step (bB) hb);have n1_:=Aside0.mk (hbox);have n2_:=Aside0.mk ((bG:w.heap.size≤gb333));have n3_:=Aside0.mk ((bG:w.heap.size≤gb333));clear HB;have HB:=n0_;have BK333:=n1_;have GW333:=n2_;have GE333:=n3_;clear n0_ n1_ n2_ n3_;clear hb hbox hg;obtain⟨hcz14_0,hcz14_1,hcz14_2⟩:=cC3 BK333.out;obtain⟨hfz14_0,hfz14_1,hfz14_2⟩:=cF3 BK333.out)|((with_reducible refine gate_callee (f:=15) rfl ?_);refine goesA (some 21) rfl rfl Try.func15 #[.agg #[.int .i64 a0_0,.slice A0_1 l0_1.length c0_1,.int .i64 a0_2],.int .i64 1048576] rfl ?_;(with_reducible refine(laws_szTurns.calls k a0_0 _ _ l0_1 a0_2 1048576 t334 _ ?side1 ?side2 A3.out).mono ?_);(case side1=>exact bC HR0_1.out);(case side2=>exact HC0_1.out);rintro e w15 ⟨rfl,hb⟩;refine⟨_,rfl,?_⟩;have n0_:=Aside0.mk (bM BK333.out hb);have n1_:=Aside0.mk (below_step (bS GE333.out) hb);clear BK333 HB;have BK333:=n0_;have HB:=n1_;clear n0_ n1_;(try clear hb);(try clear hb2);(try clear hk);(try clear hi);obtain⟨hcz16_0,hcz16_1,hcz16_2⟩:=cC3 BK333.out;obtain⟨hfz16_0,hfz16_1,hfz16_2⟩:=cF3 BK333.out)|((with_reducible refine gate_callee (f:=17) rfl ?_);refine goesA (some 26) rfl rfl Try.func17 #[.agg #[.int .i64 a0_0,.slice A0_1 l0_1.length c0_1,.int .i64 a0_2]] rfl ?_;(with_reducible refine(laws_toTurns.calls k a0_0 _ _ l0_1 a0_2 t335 t336 t339 _ ?side1 ?side2 A8.out).mono ?_);(case side1=>exact bC HR0_1.out);(case side2=>exact HC0_1.out);rintro e w17 ⟨v337,rfl,ho0,hb⟩;refine⟨_,rfl,?_⟩;obtain⟨N337_,hN_⟩:=sizeof_ hb;have n0_:=Aside0.mk (Kd.S_lower ho0 (below_size (bS GE333.out)));have n1_:=Aside0.mk (bM BK333.out hb);have n2_:=Aside0.mk (below_step (bS GE333.out) hb);clear BK333 HB;have HO338:=n0_;have BK333:=n1_;have HB:=n2_;clear n0_ n1_ n2_;(try clear hb);(try clear hb2);(try clear hk);(try clear hi);(try clear ho0);obtain⟨Ao18,co18,eo18⟩:=Kd.S_slice HO338.out;subst eo18)|((with_reducible refine gate_callee (f:=55) rfl ?_);refine goesA (some 28) rfl rfl Try.func55 #[.agg #[.int .i64 t335,.slice Ao18 t336.length co18,.int .i64 t339],.int .i64 a1] rfl ?_;(with_reducible refine(spec_RunRounds.calls k t335 _ _ t336 t339 a1 t340 t341 t344 t345 t346 _ ?side1 ?side2 A9.out).mono ?_);(case side1=>repeat (first|exact(Kd.S_reads' HO338.out).2.2|(with_reducible refine Kd.C_alloc ?_ _)|(with_reducible refine Kd.C_drewN ?_ _)|(with_reducible refine Kd.C_drew ?_)));(case side2=>exact(Kd.S_reads' HO338.out).2.1);rintro e w19 ⟨v342,rfl,ho0,hb⟩;refine⟨_,rfl,?_⟩;obtain⟨N342_,hN_⟩:=sizeof_ hb;have n0_:=Aside0.mk (S_oldN (by(with_reducible repeat (first|apply Kd.S_alloc|apply Kd.S_drewN|apply Kd.S_drew));exact HO338.out) hb hN_);have n1_:=Aside0.mk (Kd.S_lower (S_newN ho0 hN_) (below_size (bS GE333.out)));have n2_:=Aside0.mk (bM BK333.out hb);have n3_:=Aside0.mk (below_step (bS GE333.out) hb);clear HO338 BK333 HB;have HO338:=n0_;have HO343:=n1_;have BK333:=n2_;have HB:=n3_;clear n0_ n1_ n2_ n3_;(try clear hb);(try clear hb2);(try clear hk);(try clear hi);(try clear ho0))|((with_reducible refine gate_dst (N:=6) rfl ?_);refine box_event ?hg (N:=6) ?hd (cs:=#[.int .i64 0,.slice none 0 0,.int .i64 0]) (t:=28) ?hr ?_;(case hd=>rfl);(case hg=>rfl);(case hr=>first|(go_simp;done)|(go_simp;rfl));intro gb347 hg w20 hbox hb;have n0_:=Aside0.mk (Kd.S_below (by(with_reducible repeat (first|apply Kd.S_alloc|apply Kd.S_drewN|apply Kd.S_drew));exact HO338.out) hb);have n1_:=Aside0.mk (Kd.S_below (by(with_reducible repeat (first|apply Kd.S_alloc|apply Kd.S_drewN|apply Kd.S_drew));exact HO343.out) hb);have n2_:=Aside0.mk (bM BK333.out hb);have n3_:=Aside0.mk (below_step (bS GE333.out) hb);have n4_:=Aside0.mk (hbox);have n5_:=Aside0.mk ((by rw[hg];exact(below_size (bS GE333.out)):w.heap.size≤gb347));have n6_:=Aside0.mk ((by rw[hg];exact(below_size (bS GE333.out)):w.heap.size≤gb347));have n7_:=Aside0.mk ((bN BK333.out hg:gb333≠gb347));have n8_:=Aside0.mk ((bO BK333.out hg:gb347≠gb333));clear HO338 HO343 BK333 HB;have HO338:=n0_;have HO343:=n1_;have BK333:=n2_;have HB:=n3_;have BK347:=n4_;have GW347:=n5_;have GE347:=n6_;have NB333_347:=n7_;have NB347_333:=n8_;clear n0_ n1_ n2_ n3_ n4_ n5_ n6_ n7_ n8_;clear hb hbox hg;have hnb21:=NB347_333.out;have hnc21:=NB333_347.out;obtain⟨hcz22_0,hcz22_1,hcz22_2⟩:=cC3 BK347.out;obtain⟨hfz22_0,hfz22_1,hfz22_2⟩:=cF3 BK347.out;obtain⟨Ao23,co23,eo23⟩:=Kd.S_slice HO343.out;subst eo23;obtain⟨hcz24_0,hcz24_1,hcz24_2⟩:=cC3 BK333.out;obtain⟨hfz24_0,hfz24_1,hfz24_2⟩:=cF3 BK333.out)|((with_reducible refine gate_callee (f:=17) rfl ?_);refine goesA (some 33) rfl rfl Try.func17 #[.agg #[.int .i64 a0_0,.slice A0_1 l0_1.length c0_1,.int .i64 a0_2]] rfl ?_;(with_reducible refine(laws_toTurns.calls k a0_0 _ _ l0_1 a0_2 t348 t349 t352 _ ?side1 ?side2 A10.out).mono ?_);(case side1=>exact Kd.C_below HR0_1.out (bS2 GE333.out GE347.out));(case side2=>exact HC0_1.out);rintro e w25 ⟨v350,rfl,ho0,hb⟩;refine⟨_,rfl,?_⟩;obtain⟨N350_,hN_⟩:=sizeof_ hb;have n0_:=Aside0.mk (S_oldN (by(with_reducible repeat (first|apply Kd.S_alloc|apply Kd.S_drewN|apply Kd.S_drew));exact(Kd.S_mono (Kd.S_far (p:=⟨gb347,2,none⟩) (Kd.S_far (p:=⟨gb347,1,none⟩) (Kd.S_far (p:=⟨gb347,0,none⟩) (Kd.S_types HO338.out BK347.out (by decide)) (fun _ hk=>hk.2) (.int .i64 t340)) (fun _ hk=>hk.2) (.slice Ao23 t341.length co23)) (fun _ hk=>hk.2) (.int .i64 t344)) (fun _ h_=>h_.1))) hb hN_);have n1_:=Aside0.mk (S_oldN (by(with_reducible repeat (first|apply Kd.S_alloc|apply Kd.S_drewN|apply Kd.S_drew));exact(Kd.S_mono (Kd.S_far (p:=⟨gb347,2,none⟩) (Kd.S_far (p:=⟨gb347,1,none⟩) (Kd.S_far (p:=⟨gb347,0,none⟩) (Kd.S_types HO343.out BK347.out (by decide)) (fun _ hk=>hk.2) (.int .i64 t340)) (fun _ hk=>hk.2) (.slice Ao23 t341.length co23)) (fun _ hk=>hk.2) (.int .i64 t344)) (fun _ h_=>h_.1))) hb hN_);have n2_:=Aside0.mk (Kd.S_lower (S_newN (S_newN ho0 hN_) hN_) (below_size (bS2 GE333.out GE347.out)));have n3_:=Aside0.mk (blk_below (g:=gb333) (o:=.cells #[.int .i64 a0_0,.slice A0_1 l0_1.length c0_1,.int .i64 a0_2] 24 (0,0)) (by(with_reducible repeat (first|refine blk_drewN ?_ _|refine blk_drew ?_|refine blk_alloc ?_ _));refine blk_far ?_ NB333_347.out _;(with_reducible repeat (first|refine blk_drewN ?_ _|refine blk_drew ?_|refine blk_alloc ?_ _));refine blk_far ?_ NB333_347.out _;(with_reducible repeat (first|refine blk_drewN ?_ _|refine blk_drew ?_|refine blk_alloc ?_ _));refine blk_far ?_ NB333_347.out _;(with_reducible repeat (first|refine blk_drewN ?_ _|refine blk_drew ?_|refine blk_alloc ?_ _));exact BK333.out) hb);have n4_:=Aside0.mk (blk_below (g:=gb347) (o:=.cells #[.int .i64 t340,.slice Ao23 t341.length co23,.int .i64 t344] 28 (0,0)) (by(with_reducible repeat (first|refine blk_drewN ?_ _|refine blk_drew ?_|refine blk_alloc ?_ _));refine blk_put (cs:=#[.int .i64 t340,.slice Ao23 t341.length co23,.int .i64 0]) ?_ 2 _ rfl;(with_reducible repeat (first|refine blk_drewN ?_ _|refine blk_drew ?_|refine blk_alloc ?_ _));refine blk_put (cs:=#[.int .i64 t340,.slice none 0 0,.int .i64 0]) ?_ 1 _ rfl;(with_reducible repeat (first|refine blk_drewN ?_ _|refine blk_drew ?_|refine blk_alloc ?_ _));refine blk_put (cs:=#[.int .i64 0,.slice none 0 0,.int .i64 0]) ?_ 0 _ rfl;(with_reducible repeat (first|refine blk_drewN ?_ _|refine blk_drew ?_|refine blk_alloc ?_ _));exact BK347.out) hb);have n5_:=Aside0.mk (below_step (bS2 GE333.out GE347.out) hb);clear HO338 HO343 BK333 BK347 HB;have HO338:=n0_;have HO343:=n1_;have HO351:=n2_;have BK333:=n3_;have BK347:=n4_;have HB:=n5_;clear n0_ n1_ n2_ n3_ n4_ n5_;(try clear hb);(try clear hb2);(try clear hk);(try clear hi);(try clear ho0))|((with_reducible refine gate_dst (N:=9) rfl ?_);refine box_event ?hg (N:=9) ?hd (cs:=#[.int .i64 0,.slice none 0 0,.int .i64 0]) (t:=28) ?hr ?_;(case hd=>rfl);(case hg=>rfl);(case hr=>first|(go_simp;done)|(go_simp;rfl));intro gb353 hg w26 hbox hb;have n0_:=Aside0.mk (Kd.S_below (by(with_reducible repeat (first|apply Kd.S_alloc|apply Kd.S_drewN|apply Kd.S_drew));exact HO338.out) hb);have n1_:=Aside0.mk (Kd.S_below (by(with_reducible repeat (first|apply Kd.S_alloc|apply Kd.S_drewN|apply Kd.S_drew));exact HO343.out) hb);have n2_:=Aside0.mk (Kd.S_below (by(with_reducible repeat (first|apply Kd.S_alloc|apply Kd.S_drewN|apply Kd.S_drew));exact HO351.out) hb);have n3_:=Aside0.mk (bM BK333.out hb);have n4_:=Aside0.mk (bM BK347.out hb);have n5_:=Aside0.mk (below_step (bS2 GE333.out GE347.out) hb);have n6_:=Aside0.mk (hbox);have n7_:=Aside0.mk ((by rw[hg];exact(below_size (bS2 GE333.out GE347.out)):w.heap.size≤gb353));have n8_:=Aside0.mk ((by rw[hg];exact(below_size (bS2 GE333.out GE347.out)):w.heap.size≤gb353));have n9_:=Aside0.mk ((bN BK333.out hg:gb333≠gb353));have n10_:=Aside0.mk ((bO BK333.out hg:gb353≠gb333));have n11_:=Aside0.mk ((bN BK347.out hg:gb347≠gb353));have n12_:=Aside0.mk ((bO BK347.out hg:gb353≠gb347));clear HO338 HO343 HO351 BK333 BK347 HB;have HO338:=n0_;have HO343:=n1_;have HO351:=n2_;have BK333:=n3_;have BK347:=n4_;have HB:=n5_;have BK353:=n6_;have GW353:=n7_;have GE353:=n8_;have NB333_353:=n9_;have NB353_333:=n10_;have NB347_353:=n11_;have NB353_347:=n12_;clear n0_ n1_ n2_ n3_ n4_ n5_ n6_ n7_ n8_ n9_ n10_ n11_ n12_;clear hb hbox hg;have hnb27:=NB353_333.out;have hnc27:=NB333_353.out;have hnb28:=NB353_347.out;have hnc28:=NB347_353.out;obtain⟨hcz29_0,hcz29_1,hcz29_2⟩:=cC3 BK353.out;obtain⟨hfz29_0,hfz29_1,hfz29_2⟩:=cF3 BK353.out;obtain⟨Ao30,co30,eo30⟩:=Kd.S_slice HO351.out;subst eo30)|((with_reducible refine gate_callee (f:=56) rfl ?_);refine goesA (some 37) rfl rfl Try.func56 #[.agg #[.int .i64 t348,.slice Ao30 t349.length co30,.int .i64 t352],.int .i64 a1] rfl ?_;(with_reducible refine(impl_RunRounds.calls k t348 _ _ t349 t352 a1 t354 t355 t358 t359 t360 _ ?side1 ?side2 A11.out).mono ?_);(case side1=>refine(Kd.S_reads' (e:=116) (base:=w.heap.size) (ok:=fun k_=>((True∧N350_≤k_)∧N350_≤k_)) (n:=t349.length) (c:=co30) ?_).2.2;exact(by(with_reducible repeat (first|apply Kd.S_alloc|apply Kd.S_drewN|apply Kd.S_drew));exact(Kd.S_mono (Kd.S_far (p:=⟨gb353,2,none⟩) (Kd.S_far (p:=⟨gb353,1,none⟩) (Kd.S_far (p:=⟨gb353,0,none⟩) (Kd.S_types HO351.out BK353.out (by decide)) (fun _ hk=>hk.2) (.int .i64 t348)) (fun _ hk=>hk.2) (.slice Ao30 t349.length co30)) (fun _ hk=>hk.2) (.int .i64 t352)) (fun _ h_=>h_.1))));(case side2=>exact(Kd.S_reads' HO351.out).2.1);rintro e w31 ⟨v356,rfl,ho0,hb⟩;refine⟨_,rfl,?_⟩;obtain⟨N356_,hN_⟩:=sizeof_ hb;have n0_:=Aside0.mk (S_oldN (by(with_reducible repeat (first|apply Kd.S_alloc|apply Kd.S_drewN|apply Kd.S_drew));exact(Kd.S_mono (Kd.S_far (p:=⟨gb353,2,none⟩) (Kd.S_far (p:=⟨gb353,1,none⟩) (Kd.S_far (p:=⟨gb353,0,none⟩) (Kd.S_types HO338.out BK353.out (by decide)) (fun _ hk=>hk.2) (.int .i64 t348)) (fun _ hk=>hk.2) (.slice Ao30 t349.length co30)) (fun _ hk=>hk.2) (.int .i64 t352)) (fun _ h_=>h_.1))) hb hN_);have n1_:=Aside0.mk (S_oldN (by(with_reducible repeat (first|apply Kd.S_alloc|apply Kd.S_drewN|apply Kd.S_drew));exact(Kd.S_mono (Kd.S_far (p:=⟨gb353,2,none⟩) (Kd.S_far (p:=⟨gb353,1,none⟩) (Kd.S_far (p:=⟨gb353,0,none⟩) (Kd.S_types HO343.out BK353.out (by decide)) (fun _ hk=>hk.2) (.int .i64 t348)) (fun _ hk=>hk.2) (.slice Ao30 t349.length co30)) (fun _ hk=>hk.2) (.int .i64 t352)) (fun _ h_=>h_.1))) hb hN_);have n2_:=Aside0.mk (S_oldN (by(with_reducible repeat (first|apply Kd.S_alloc|apply Kd.S_drewN|apply Kd.S_drew));exact(Kd.S_mono (Kd.S_far (p:=⟨gb353,2,none⟩) (Kd.S_far (p:=⟨gb353,1,none⟩) (Kd.S_far (p:=⟨gb353,0,none⟩) (Kd.S_types HO351.out BK353.out (by decide)) (fun _ hk=>hk.2) (.int .i64 t348)) (fun _ hk=>hk.2) (.slice Ao30 t349.length co30)) (fun _ hk=>hk.2) (.int .i64 t352)) (fun _ h_=>h_.1))) hb hN_);have n3_:=Aside0.mk (Kd.S_lower (S_newN (S_newN (S_newN ho0 hN_) hN_) hN_) (below_size (bS3 GE333.out GE347.out GE353.out)));have n4_:=Aside0.mk (blk_below (g:=gb333) (o:=.cells #[.int .i64 a0_0,.slice A0_1 l0_1.length c0_1,.int .i64 a0_2] 24 (0,0)) (by(with_reducible repeat (first|refine blk_drewN ?_ _|refine blk_drew ?_|refine blk_alloc ?_ _));refine blk_far ?_ NB333_353.out _;(with_reducible repeat (first|refine blk_drewN ?_ _|refine blk_drew ?_|refine blk_alloc ?_ _));refine blk_far ?_ NB333_353.out _;(with_reducible repeat (first|refine blk_drewN ?_ _|refine blk_drew ?_|refine blk_alloc ?_ _));refine blk_far ?_ NB333_353.out _;(with_reducible repeat (first|refine blk_drewN ?_ _|refine blk_drew ?_|refine blk_alloc ?_ _));exact BK333.out) hb);have n5_:=Aside0.mk (blk_below (g:=gb347) (o:=.cells #[.int .i64 t340,.slice Ao23 t341.length co23,.int .i64 t344] 28 (0,0)) (by(with_reducible repeat (first|refine blk_drewN ?_ _|refine blk_drew ?_|refine blk_alloc ?_ _));refine blk_far ?_ NB347_353.out _;(with_reducible repeat (first|refine blk_drewN ?_ _|refine blk_drew ?_|refine blk_alloc ?_ _));refine blk_far ?_ NB347_353.out _;(with_reducible repeat (first|refine blk_drewN ?_ _|refine blk_drew ?_|refine blk_alloc ?_ _));refine blk_far ?_ NB347_353.out _;(with_reducible repeat (first|refine blk_drewN ?_ _|refine blk_drew ?_|refine blk_alloc ?_ _));exact BK347.out) hb);have n6_:=Aside0.mk (blk_below (g:=gb353) (o:=.cells #[.int .i64 t348,.slice Ao30 t349.length co30,.int .i64 t352] 28 (0,0)) (by(with_reducible repeat (first|refine blk_drewN ?_ _|refine blk_drew ?_|refine blk_alloc ?_ _));refine blk_put (cs:=#[.int .i64 t348,.slice Ao30 t349.length co30,.int .i64 0]) ?_ 2 _ rfl;(with_reducible repeat (first|refine blk_drewN ?_ _|refine blk_drew ?_|refine blk_alloc ?_ _));refine blk_put (cs:=#[.int .i64 t348,.slice none 0 0,.int .i64 0]) ?_ 1 _ rfl;(with_reducible repeat (first|refine blk_drewN ?_ _|refine blk_drew ?_|refine blk_alloc ?_ _));refine blk_put (cs:=#[.int .i64 0,.slice none 0 0,.int .i64 0]) ?_ 0 _ rfl;(with_reducible repeat (first|refine blk_drewN ?_ _|refine blk_drew ?_|refine blk_alloc ?_ _));exact BK353.out) hb);have n7_:=Aside0.mk (below_step (bS3 GE333.out GE347.out GE353.out) hb);clear HO338 HO343 HO351 BK333 BK347 BK353 HB;have HO338:=n0_;have HO343:=n1_;have HO351:=n2_;have HO357:=n3_;have BK333:=n4_;have BK347:=n5_;have BK353:=n6_;have HB:=n7_;clear n0_ n1_ n2_ n3_ n4_ n5_ n6_ n7_;(try clear hb);(try clear hb2);(try clear hk);(try clear hi);(try clear ho0))|((with_reducible refine gate_dst (N:=10) rfl ?_);refine box_event ?hg (N:=10) ?hd (cs:=#[.int .i64 0,.slice none 0 0,.int .i64 0]) (t:=28) ?hr ?_;(case hd=>rfl);(case hg=>rfl);(case hr=>first|(go_simp;done)|(go_simp;rfl));intro gb361 hg w32 hbox hb;have n0_:=Aside0.mk (Kd.S_below (by(with_reducible repeat (first|apply Kd.S_alloc|apply Kd.S_drewN|apply Kd.S_drew));exact HO338.out) hb);have n1_:=Aside0.mk (Kd.S_below (by(with_reducible repeat (first|apply Kd.S_alloc|apply Kd.S_drewN|apply Kd.S_drew));exact HO343.out) hb);have n2_:=Aside0.mk (Kd.S_below (by(with_reducible repeat (first|apply Kd.S_alloc|apply Kd.S_drewN|apply Kd.S_drew));exact HO351.out) hb);have n3_:=Aside0.mk (Kd.S_below (by(with_reducible repeat (first|apply Kd.S_alloc|apply Kd.S_drewN|apply Kd.S_drew));exact HO357.out) hb);have n4_:=Aside0.mk (bM BK333.out hb);have n5_:=Aside0.mk (bM BK347.out hb);have n6_:=Aside0.mk (bM BK353.out hb);have n7_:=Aside0.mk (below_step (bS3 GE333.out GE347.out GE353.out) hb);have n8_:=Aside0.mk (hbox);have n9_:=Aside0.mk ((by rw[hg];exact(below_size (bS3 GE333.out GE347.out GE353.out)):w.heap.size≤gb361));have n10_:=Aside0.mk ((by rw[hg];exact(below_size (bS3 GE333.out GE347.out GE353.out)):w.heap.size≤gb361));have n11_:=Aside0.mk ((bN BK333.out hg:gb333≠gb361));have n12_:=Aside0.mk ((bO BK333.out hg:gb361≠gb333));have n13_:=Aside0.mk ((bN BK347.out hg:gb347≠gb361));have n14_:=Aside0.mk ((bO BK347.out hg:gb361≠gb347));have n15_:=Aside0.mk ((bN BK353.out hg:gb353≠gb361));have n16_:=Aside0.mk ((bO BK353.out hg:gb361≠gb353));clear HO338 HO343 HO351 HO357 BK333 BK347 BK353 HB;have HO338:=n0_;have HO343:=n1_;have HO351:=n2_;have HO357:=n3_;have BK333:=n4_;have BK347:=n5_;have BK353:=n6_;have HB:=n7_;have BK361:=n8_;have GW361:=n9_;have GE361:=n10_;have NB333_361:=n11_;have NB361_333:=n12_;have NB347_361:=n13_;have NB361_347:=n14_;have NB353_361:=n15_;have NB361_353:=n16_;clear n0_ n1_ n2_ n3_ n4_ n5_ n6_ n7_ n8_ n9_ n10_ n11_ n12_ n13_ n14_ n15_ n16_;clear hb hbox hg;have hnb33:=NB361_333.out;have hnc33:=NB333_361.out;have hnb34:=NB361_347.out;have hnc34:=NB347_361.out;have hnb35:=NB361_353.out;have hnc35:=NB353_361.out;obtain⟨hcz36_0,hcz36_1,hcz36_2⟩:=cC3 BK361.out;obtain⟨hfz36_0,hfz36_1,hfz36_2⟩:=cF3 BK361.out;obtain⟨Ao37,co37,eo37⟩:=Kd.S_slice HO357.out;subst eo37))
  (try simp only[Act.put,List.setIfInBounds_toArray,List.set_cons_zero,List.set_cons_succ])
  go_cut [54] (fun v54 wc => ∃ (kq:Nat) (x54_11:Bool),v54=.bool x54_11∧Aside0 (laws_FnExactRunRounds.j0 kq a1 t345 t346 t359 t360 x54_11 a0_0 l0_1 a0_2 t340 t341 t344 t348 t349 t352 t354 t355 t358=some r)∧Aside0 (kq≤k)∧Aside0 (Kd.S k116 116 wc w.heap.size (fun k_=>k_ < N350_∧k_ < N356_) (.slice Ao23 t341.length co23) t341)∧Aside0 (Kd.S k116 116 wc w.heap.size (fun k_=>N350_≤k_∧k_ < N356_) (.slice Ao30 t349.length co30) t349)∧Aside0 (Kd.S k116 116 wc w.heap.size (fun k_=>N356_≤k_∧N356_≤k_) (.slice Ao37 t355.length co37) t355)∧Aside0 (wc.heap[gb333]?=some (.cells #[.int .i64 a0_0,(.slice A0_1 l0_1.length c0_1),.int .i64 a0_2] 24 (0,0)))∧Aside0 (wc.heap[gb347]?=some (.cells #[.int .i64 t340,(.slice Ao23 t341.length co23),.int .i64 t344] 28 (0,0)))∧Aside0 (wc.heap[gb353]?=some (.cells #[.int .i64 t348,(.slice Ao30 t349.length co30),.int .i64 t352] 28 (0,0)))∧Aside0 (wc.heap[gb361]?=some (.cells #[.int .i64 t354,(.slice Ao37 t355.length co37),.int .i64 t358] 28 (0,0)))∧Aside0 (Below w.heap.size w wc))
  case first =>
   have H:=HC12.out
   clear HC12
   replace H:=Option.bind_eq_some_iff.mp H
   obtain⟨t362,A380,H⟩:=H
   have A38:=Aside0.mk A380
   clear A380
   by_cases c39:t362=true
   ·subst c39
    have H1:(if t359=t345 then (laws_FnExactRunRounds.j0 k a1 t345 t346 t359 t360 (t360 != t346) a0_0 l0_1 a0_2 t340 t341 t344 t348 t349 t352 t354 t355 t358) else (laws_FnExactRunRounds.j0 k a1 t345 t346 t359 t360 true a0_0 l0_1 a0_2 t340 t341 t344 t348 t349 t352 t354 t355 t358))=some r:=by rw[if_pos rfl] at H;exact H
    clear H
    have H:=H1
    clear H1
    by_cases c40:t359=t345
    ·rw[if_pos c40] at H
     have c40b0:(t359 == t345)=true:=beq_iff_eq.mpr c40
     have c40b1:(t359 != t345)=false:=bne_eq_false_iff_eq.mpr c40
     clear c40
     (first|rw[c40b0]|(simp only[i64_w,i32_w];rw[c40b0])|skip)
     have H':=Aside0.mk H
     clear H
     have hnb41:=NB361_333.out
     have hnc41:=NB333_361.out
     have hnb42:=NB361_347.out
     have hnc42:=NB347_361.out
     have hnb43:=NB361_353.out
     have hnc43:=NB353_361.out
     obtain⟨hcz44_0,hcz44_1,hcz44_2⟩:=cC3 BK361.out
     obtain⟨hfz44_0,hfz44_1,hfz44_2⟩:=cF3 BK361.out
     have hnb45:=NB347_333.out
     have hnc45:=NB333_347.out
     have hnb46:=NB347_353.out
     have hnc46:=NB353_347.out
     obtain⟨hcz47_0,hcz47_1,hcz47_2⟩:=cC3 BK347.out
     obtain⟨hfz47_0,hfz47_1,hfz47_2⟩:=cF3 BK347.out
     go_wp2_with (first|((with_reducible refine gate_callee (f:=19) rfl ?_);refine goesA (some 43) rfl rfl Try.func19 #[.agg #[.int .i64 t354,.slice Ao37 t355.length co37,.int .i64 t358],.agg #[.int .i64 t340,.slice Ao23 t341.length co23,.int .i64 t344]] rfl ?_;(with_reducible refine(laws_eqTurns.calls k t354 _ _ t355 t358 t340 _ _ t341 t344 true _ ?side1 ?side2 ?side3 ?side4 A38.out).mono ?_);(case side1=>refine(Kd.S_reads' (e:=116) (base:=w.heap.size) (ok:=fun k_=>(((True∧N356_≤k_)∧N356_≤k_)∧N356_≤k_)) (n:=t355.length) (c:=co37) ?_).2.2;exact(by(with_reducible repeat (first|apply Kd.S_alloc|apply Kd.S_drewN|apply Kd.S_drew));exact(Kd.S_mono (Kd.S_far (p:=⟨gb361,2,none⟩) (Kd.S_far (p:=⟨gb361,1,none⟩) (Kd.S_far (p:=⟨gb361,0,none⟩) (Kd.S_types HO357.out BK361.out (by decide)) (fun _ hk=>hk.2) (.int .i64 t354)) (fun _ hk=>hk.2) (.slice Ao37 t355.length co37)) (fun _ hk=>hk.2) (.int .i64 t358)) (fun _ h_=>h_.1))));(case side2=>exact(Kd.S_reads' HO357.out).2.1);(case side3=>refine(Kd.S_reads' (e:=116) (base:=w.heap.size) (ok:=fun k_=>(((True∧N342_≤k_)∧k_ < N350_)∧k_ < N356_)) (n:=t341.length) (c:=co23) ?_).2.2;exact(by(with_reducible repeat (first|apply Kd.S_alloc|apply Kd.S_drewN|apply Kd.S_drew));exact(Kd.S_mono (Kd.S_far (p:=⟨gb361,2,none⟩) (Kd.S_far (p:=⟨gb361,1,none⟩) (Kd.S_far (p:=⟨gb361,0,none⟩) (Kd.S_types HO343.out BK361.out (by decide)) (fun _ hk=>hk.2) (.int .i64 t354)) (fun _ hk=>hk.2) (.slice Ao37 t355.length co37)) (fun _ hk=>hk.2) (.int .i64 t358)) (fun _ h_=>h_.1))));(case side4=>exact(Kd.S_reads' HO343.out).2.1);rintro e w48 ⟨rfl,hb⟩;refine⟨_,rfl,?_⟩;have n0_:=Aside0.mk (Kd.S_below (by(with_reducible repeat (first|apply Kd.S_alloc|apply Kd.S_drewN|apply Kd.S_drew));exact(Kd.S_mono (Kd.S_far (p:=⟨gb361,2,none⟩) (Kd.S_far (p:=⟨gb361,1,none⟩) (Kd.S_far (p:=⟨gb361,0,none⟩) (Kd.S_types HO338.out BK361.out (by decide)) (fun _ hk=>hk.2) (.int .i64 t354)) (fun _ hk=>hk.2) (.slice Ao37 t355.length co37)) (fun _ hk=>hk.2) (.int .i64 t358)) (fun _ h_=>h_.1))) hb);have n1_:=Aside0.mk (Kd.S_below (by(with_reducible repeat (first|apply Kd.S_alloc|apply Kd.S_drewN|apply Kd.S_drew));exact(Kd.S_mono (Kd.S_far (p:=⟨gb361,2,none⟩) (Kd.S_far (p:=⟨gb361,1,none⟩) (Kd.S_far (p:=⟨gb361,0,none⟩) (Kd.S_types HO343.out BK361.out (by decide)) (fun _ hk=>hk.2) (.int .i64 t354)) (fun _ hk=>hk.2) (.slice Ao37 t355.length co37)) (fun _ hk=>hk.2) (.int .i64 t358)) (fun _ h_=>h_.1))) hb);have n2_:=Aside0.mk (Kd.S_below (by(with_reducible repeat (first|apply Kd.S_alloc|apply Kd.S_drewN|apply Kd.S_drew));exact(Kd.S_mono (Kd.S_far (p:=⟨gb361,2,none⟩) (Kd.S_far (p:=⟨gb361,1,none⟩) (Kd.S_far (p:=⟨gb361,0,none⟩) (Kd.S_types HO351.out BK361.out (by decide)) (fun _ hk=>hk.2) (.int .i64 t354)) (fun _ hk=>hk.2) (.slice Ao37 t355.length co37)) (fun _ hk=>hk.2) (.int .i64 t358)) (fun _ h_=>h_.1))) hb);have n3_:=Aside0.mk (Kd.S_below (by(with_reducible repeat (first|apply Kd.S_alloc|apply Kd.S_drewN|apply Kd.S_drew));exact(Kd.S_mono (Kd.S_far (p:=⟨gb361,2,none⟩) (Kd.S_far (p:=⟨gb361,1,none⟩) (Kd.S_far (p:=⟨gb361,0,none⟩) (Kd.S_types HO357.out BK361.out (by decide)) (fun _ hk=>hk.2) (.int .i64 t354)) (fun _ hk=>hk.2) (.slice Ao37 t355.length co37)) (fun _ hk=>hk.2) (.int .i64 t358)) (fun _ h_=>h_.1))) hb);have n4_:=Aside0.mk (blk_below (g:=gb333) (o:=.cells #[.int .i64 a0_0,.slice A0_1 l0_1.length c0_1,.int .i64 a0_2] 24 (0,0)) (by(with_reducible repeat (first|refine blk_drewN ?_ _|refine blk_drew ?_|refine blk_alloc ?_ _));refine blk_far ?_ NB333_361.out _;(with_reducible repeat (first|refine blk_drewN ?_ _|refine blk_drew ?_|refine blk_alloc ?_ _));refine blk_far ?_ NB333_361.out _;(with_reducible repeat (first|refine blk_drewN ?_ _|refine blk_drew ?_|refine blk_alloc ?_ _));refine blk_far ?_ NB333_361.out _;(with_reducible repeat (first|refine blk_drewN ?_ _|refine blk_drew ?_|refine blk_alloc ?_ _));exact BK333.out) hb);have n5_:=Aside0.mk (blk_below (g:=gb347) (o:=.cells #[.int .i64 t340,.slice Ao23 t341.length co23,.int .i64 t344] 28 (0,0)) (by(with_reducible repeat (first|refine blk_drewN ?_ _|refine blk_drew ?_|refine blk_alloc ?_ _));refine blk_far ?_ NB347_361.out _;(with_reducible repeat (first|refine blk_drewN ?_ _|refine blk_drew ?_|refine blk_alloc ?_ _));refine blk_far ?_ NB347_361.out _;(with_reducible repeat (first|refine blk_drewN ?_ _|refine blk_drew ?_|refine blk_alloc ?_ _));refine blk_far ?_ NB347_361.out _;(with_reducible repeat (first|refine blk_drewN ?_ _|refine blk_drew ?_|refine blk_alloc ?_ _));exact BK347.out) hb);have n6_:=Aside0.mk (blk_below (g:=gb353) (o:=.cells #[.int .i64 t348,.slice Ao30 t349.length co30,.int .i64 t352] 28 (0,0)) (by(with_reducible repeat (first|refine blk_drewN ?_ _|refine blk_drew ?_|refine blk_alloc ?_ _));refine blk_far ?_ NB353_361.out _;(with_reducible repeat (first|refine blk_drewN ?_ _|refine blk_drew ?_|refine blk_alloc ?_ _));refine blk_far ?_ NB353_361.out _;(with_reducible repeat (first|refine blk_drewN ?_ _|refine blk_drew ?_|refine blk_alloc ?_ _));refine blk_far ?_ NB353_361.out _;(with_reducible repeat (first|refine blk_drewN ?_ _|refine blk_drew ?_|refine blk_alloc ?_ _));exact BK353.out) hb);have n7_:=Aside0.mk (blk_below (g:=gb361) (o:=.cells #[.int .i64 t354,.slice Ao37 t355.length co37,.int .i64 t358] 28 (0,0)) (by(with_reducible repeat (first|refine blk_drewN ?_ _|refine blk_drew ?_|refine blk_alloc ?_ _));refine blk_put (cs:=#[.int .i64 t354,.slice Ao37 t355.length co37,.int .i64 0]) ?_ 2 _ rfl;(with_reducible repeat (first|refine blk_drewN ?_ _|refine blk_drew ?_|refine blk_alloc ?_ _));refine blk_put (cs:=#[.int .i64 t354,.slice none 0 0,.int .i64 0]) ?_ 1 _ rfl;(with_reducible repeat (first|refine blk_drewN ?_ _|refine blk_drew ?_|refine blk_alloc ?_ _));refine blk_put (cs:=#[.int .i64 0,.slice none 0 0,.int .i64 0]) ?_ 0 _ rfl;(with_reducible repeat (first|refine blk_drewN ?_ _|refine blk_drew ?_|refine blk_alloc ?_ _));exact BK361.out) hb);have n8_:=Aside0.mk (below_step (bS4 GE333.out GE347.out GE353.out GE361.out) hb);clear HO338 HO343 HO351 HO357 BK333 BK347 BK353 BK361 HB;have HO338:=n0_;have HO343:=n1_;have HO351:=n2_;have HO357:=n3_;have BK333:=n4_;have BK347:=n5_;have BK353:=n6_;have BK361:=n7_;have HB:=n8_;clear n0_ n1_ n2_ n3_ n4_ n5_ n6_ n7_ n8_;(try clear hb);(try clear hb2);(try clear hk);(try clear hi)))
     go_meet
     case rel=>exact⟨_,((t360 != t346)),(bR),H',⟨by first|omega|exact Nat.le_refl _⟩,⟨by(with_reducible repeat (first|apply Kd.S_alloc|apply Kd.S_drewN|apply Kd.S_drew));exact Kd.S_mono HO343.out (fun _ hk=>⟨hk.1.2,hk.2⟩)⟩,⟨by(with_reducible repeat (first|apply Kd.S_alloc|apply Kd.S_drewN|apply Kd.S_drew));exact Kd.S_mono HO351.out (fun _ hk=>⟨hk.1.2,hk.2⟩)⟩,⟨by(with_reducible repeat (first|apply Kd.S_alloc|apply Kd.S_drewN|apply Kd.S_drew));exact Kd.S_mono HO357.out (fun _ hk=>⟨hk.1.2,hk.2⟩)⟩,⟨by(with_reducible repeat (first|refine blk_drewN ?_ _|refine blk_drew ?_|refine blk_alloc ?_ _));exact BK333.out⟩,⟨by(with_reducible repeat (first|refine blk_drewN ?_ _|refine blk_drew ?_|refine blk_alloc ?_ _));exact BK347.out⟩,⟨by(with_reducible repeat (first|refine blk_drewN ?_ _|refine blk_drew ?_|refine blk_alloc ?_ _));exact BK353.out⟩,⟨by(with_reducible repeat (first|refine blk_drewN ?_ _|refine blk_drew ?_|refine blk_alloc ?_ _));exact BK361.out⟩,⟨bS4 GE333.out GE347.out GE353.out GE361.out⟩⟩
    ·rw[if_neg c40] at H
     have c40b0:(t359 == t345)=false:=beq_eq_false_iff_ne.mpr c40
     have c40b1:(t359 != t345)=true:=bne_iff_ne.mpr c40
     (first|rw[c40b0]|(simp only[i64_w,i32_w];rw[c40b0])|skip)
     have H':=Aside0.mk H
     clear H
     have hnb49:=NB361_333.out
     have hnc49:=NB333_361.out
     have hnb50:=NB361_347.out
     have hnc50:=NB347_361.out
     have hnb51:=NB361_353.out
     have hnc51:=NB353_361.out
     obtain⟨hcz52_0,hcz52_1,hcz52_2⟩:=cC3 BK361.out
     obtain⟨hfz52_0,hfz52_1,hfz52_2⟩:=cF3 BK361.out
     have hnb53:=NB347_333.out
     have hnc53:=NB333_347.out
     have hnb54:=NB347_353.out
     have hnc54:=NB353_347.out
     obtain⟨hcz55_0,hcz55_1,hcz55_2⟩:=cC3 BK347.out
     obtain⟨hfz55_0,hfz55_1,hfz55_2⟩:=cF3 BK347.out
     go_wp2_with (first|((with_reducible refine gate_callee (f:=19) rfl ?_);refine goesA (some 43) rfl rfl Try.func19 #[.agg #[.int .i64 t354,.slice Ao37 t355.length co37,.int .i64 t358],.agg #[.int .i64 t340,.slice Ao23 t341.length co23,.int .i64 t344]] rfl ?_;(with_reducible refine(laws_eqTurns.calls k t354 _ _ t355 t358 t340 _ _ t341 t344 true _ ?side1 ?side2 ?side3 ?side4 A38.out).mono ?_);(case side1=>refine(Kd.S_reads' (e:=116) (base:=w.heap.size) (ok:=fun k_=>(((True∧N356_≤k_)∧N356_≤k_)∧N356_≤k_)) (n:=t355.length) (c:=co37) ?_).2.2;exact(by(with_reducible repeat (first|apply Kd.S_alloc|apply Kd.S_drewN|apply Kd.S_drew));exact(Kd.S_mono (Kd.S_far (p:=⟨gb361,2,none⟩) (Kd.S_far (p:=⟨gb361,1,none⟩) (Kd.S_far (p:=⟨gb361,0,none⟩) (Kd.S_types HO357.out BK361.out (by decide)) (fun _ hk=>hk.2) (.int .i64 t354)) (fun _ hk=>hk.2) (.slice Ao37 t355.length co37)) (fun _ hk=>hk.2) (.int .i64 t358)) (fun _ h_=>h_.1))));(case side2=>exact(Kd.S_reads' HO357.out).2.1);(case side3=>refine(Kd.S_reads' (e:=116) (base:=w.heap.size) (ok:=fun k_=>(((True∧N342_≤k_)∧k_ < N350_)∧k_ < N356_)) (n:=t341.length) (c:=co23) ?_).2.2;exact(by(with_reducible repeat (first|apply Kd.S_alloc|apply Kd.S_drewN|apply Kd.S_drew));exact(Kd.S_mono (Kd.S_far (p:=⟨gb361,2,none⟩) (Kd.S_far (p:=⟨gb361,1,none⟩) (Kd.S_far (p:=⟨gb361,0,none⟩) (Kd.S_types HO343.out BK361.out (by decide)) (fun _ hk=>hk.2) (.int .i64 t354)) (fun _ hk=>hk.2) (.slice Ao37 t355.length co37)) (fun _ hk=>hk.2) (.int .i64 t358)) (fun _ h_=>h_.1))));(case side4=>exact(Kd.S_reads' HO343.out).2.1);rintro e w56 ⟨rfl,hb⟩;refine⟨_,rfl,?_⟩;have n0_:=Aside0.mk (Kd.S_below (by(with_reducible repeat (first|apply Kd.S_alloc|apply Kd.S_drewN|apply Kd.S_drew));exact(Kd.S_mono (Kd.S_far (p:=⟨gb361,2,none⟩) (Kd.S_far (p:=⟨gb361,1,none⟩) (Kd.S_far (p:=⟨gb361,0,none⟩) (Kd.S_types HO338.out BK361.out (by decide)) (fun _ hk=>hk.2) (.int .i64 t354)) (fun _ hk=>hk.2) (.slice Ao37 t355.length co37)) (fun _ hk=>hk.2) (.int .i64 t358)) (fun _ h_=>h_.1))) hb);have n1_:=Aside0.mk (Kd.S_below (by(with_reducible repeat (first|apply Kd.S_alloc|apply Kd.S_drewN|apply Kd.S_drew));exact(Kd.S_mono (Kd.S_far (p:=⟨gb361,2,none⟩) (Kd.S_far (p:=⟨gb361,1,none⟩) (Kd.S_far (p:=⟨gb361,0,none⟩) (Kd.S_types HO343.out BK361.out (by decide)) (fun _ hk=>hk.2) (.int .i64 t354)) (fun _ hk=>hk.2) (.slice Ao37 t355.length co37)) (fun _ hk=>hk.2) (.int .i64 t358)) (fun _ h_=>h_.1))) hb);have n2_:=Aside0.mk (Kd.S_below (by(with_reducible repeat (first|apply Kd.S_alloc|apply Kd.S_drewN|apply Kd.S_drew));exact(Kd.S_mono (Kd.S_far (p:=⟨gb361,2,none⟩) (Kd.S_far (p:=⟨gb361,1,none⟩) (Kd.S_far (p:=⟨gb361,0,none⟩) (Kd.S_types HO351.out BK361.out (by decide)) (fun _ hk=>hk.2) (.int .i64 t354)) (fun _ hk=>hk.2) (.slice Ao37 t355.length co37)) (fun _ hk=>hk.2) (.int .i64 t358)) (fun _ h_=>h_.1))) hb);have n3_:=Aside0.mk (Kd.S_below (by(with_reducible repeat (first|apply Kd.S_alloc|apply Kd.S_drewN|apply Kd.S_drew));exact(Kd.S_mono (Kd.S_far (p:=⟨gb361,2,none⟩) (Kd.S_far (p:=⟨gb361,1,none⟩) (Kd.S_far (p:=⟨gb361,0,none⟩) (Kd.S_types HO357.out BK361.out (by decide)) (fun _ hk=>hk.2) (.int .i64 t354)) (fun _ hk=>hk.2) (.slice Ao37 t355.length co37)) (fun _ hk=>hk.2) (.int .i64 t358)) (fun _ h_=>h_.1))) hb);have n4_:=Aside0.mk (blk_below (g:=gb333) (o:=.cells #[.int .i64 a0_0,.slice A0_1 l0_1.length c0_1,.int .i64 a0_2] 24 (0,0)) (by(with_reducible repeat (first|refine blk_drewN ?_ _|refine blk_drew ?_|refine blk_alloc ?_ _));refine blk_far ?_ NB333_361.out _;(with_reducible repeat (first|refine blk_drewN ?_ _|refine blk_drew ?_|refine blk_alloc ?_ _));refine blk_far ?_ NB333_361.out _;(with_reducible repeat (first|refine blk_drewN ?_ _|refine blk_drew ?_|refine blk_alloc ?_ _));refine blk_far ?_ NB333_361.out _;(with_reducible repeat (first|refine blk_drewN ?_ _|refine blk_drew ?_|refine blk_alloc ?_ _));exact BK333.out) hb);have n5_:=Aside0.mk (blk_below (g:=gb347) (o:=.cells #[.int .i64 t340,.slice Ao23 t341.length co23,.int .i64 t344] 28 (0,0)) (by(with_reducible repeat (first|refine blk_drewN ?_ _|refine blk_drew ?_|refine blk_alloc ?_ _));refine blk_far ?_ NB347_361.out _;(with_reducible repeat (first|refine blk_drewN ?_ _|refine blk_drew ?_|refine blk_alloc ?_ _));refine blk_far ?_ NB347_361.out _;(with_reducible repeat (first|refine blk_drewN ?_ _|refine blk_drew ?_|refine blk_alloc ?_ _));refine blk_far ?_ NB347_361.out _;(with_reducible repeat (first|refine blk_drewN ?_ _|refine blk_drew ?_|refine blk_alloc ?_ _));exact BK347.out) hb);have n6_:=Aside0.mk (blk_below (g:=gb353) (o:=.cells #[.int .i64 t348,.slice Ao30 t349.length co30,.int .i64 t352] 28 (0,0)) (by(with_reducible repeat (first|refine blk_drewN ?_ _|refine blk_drew ?_|refine blk_alloc ?_ _));refine blk_far ?_ NB353_361.out _;(with_reducible repeat (first|refine blk_drewN ?_ _|refine blk_drew ?_|refine blk_alloc ?_ _));refine blk_far ?_ NB353_361.out _;(with_reducible repeat (first|refine blk_drewN ?_ _|refine blk_drew ?_|refine blk_alloc ?_ _));refine blk_far ?_ NB353_361.out _;(with_reducible repeat (first|refine blk_drewN ?_ _|refine blk_drew ?_|refine blk_alloc ?_ _));exact BK353.out) hb);have n7_:=Aside0.mk (blk_below (g:=gb361) (o:=.cells #[.int .i64 t354,.slice Ao37 t355.length co37,.int .i64 t358] 28 (0,0)) (by(with_reducible repeat (first|refine blk_drewN ?_ _|refine blk_drew ?_|refine blk_alloc ?_ _));refine blk_put (cs:=#[.int .i64 t354,.slice Ao37 t355.length co37,.int .i64 0]) ?_ 2 _ rfl;(with_reducible repeat (first|refine blk_drewN ?_ _|refine blk_drew ?_|refine blk_alloc ?_ _));refine blk_put (cs:=#[.int .i64 t354,.slice none 0 0,.int .i64 0]) ?_ 1 _ rfl;(with_reducible repeat (first|refine blk_drewN ?_ _|refine blk_drew ?_|refine blk_alloc ?_ _));refine blk_put (cs:=#[.int .i64 0,.slice none 0 0,.int .i64 0]) ?_ 0 _ rfl;(with_reducible repeat (first|refine blk_drewN ?_ _|refine blk_drew ?_|refine blk_alloc ?_ _));exact BK361.out) hb);have n8_:=Aside0.mk (below_step (bS4 GE333.out GE347.out GE353.out GE361.out) hb);clear HO338 HO343 HO351 HO357 BK333 BK347 BK353 BK361 HB;have HO338:=n0_;have HO343:=n1_;have HO351:=n2_;have HO357:=n3_;have BK333:=n4_;have BK347:=n5_;have BK353:=n6_;have BK361:=n7_;have HB:=n8_;clear n0_ n1_ n2_ n3_ n4_ n5_ n6_ n7_ n8_;(try clear hb);(try clear hb2);(try clear hk);(try clear hi)))
     go_meet
     case rel=>exact⟨_,(true),(bR),H',⟨by first|omega|exact Nat.le_refl _⟩,⟨by(with_reducible repeat (first|apply Kd.S_alloc|apply Kd.S_drewN|apply Kd.S_drew));exact Kd.S_mono HO343.out (fun _ hk=>⟨hk.1.2,hk.2⟩)⟩,⟨by(with_reducible repeat (first|apply Kd.S_alloc|apply Kd.S_drewN|apply Kd.S_drew));exact Kd.S_mono HO351.out (fun _ hk=>⟨hk.1.2,hk.2⟩)⟩,⟨by(with_reducible repeat (first|apply Kd.S_alloc|apply Kd.S_drewN|apply Kd.S_drew));exact Kd.S_mono HO357.out (fun _ hk=>⟨hk.1.2,hk.2⟩)⟩,⟨by(with_reducible repeat (first|refine blk_drewN ?_ _|refine blk_drew ?_|refine blk_alloc ?_ _));exact BK333.out⟩,⟨by(with_reducible repeat (first|refine blk_drewN ?_ _|refine blk_drew ?_|refine blk_alloc ?_ _));exact BK347.out⟩,⟨by(with_reducible repeat (first|refine blk_drewN ?_ _|refine blk_drew ?_|refine blk_alloc ?_ _));exact BK353.out⟩,⟨by(with_reducible repeat (first|refine blk_drewN ?_ _|refine blk_drew ?_|refine blk_alloc ?_ _));exact BK361.out⟩,⟨bS4 GE333.out GE347.out GE353.out GE361.out⟩⟩
   ·replace c39:=Bool.eq_false_iff.mpr c39
    subst c39
    have H1:(laws_FnExactRunRounds.j0 k a1 t345 t346 t359 t360 true a0_0 l0_1 a0_2 t340 t341 t344 t348 t349 t352 t354 t355 t358)=some r:=by rw[if_neg (show ¬ (false=true) by decide)] at H;exact H
    clear H
    have H:=H1
    clear H1
    have H':=Aside0.mk H
    clear H
    have hnb57:=NB361_333.out
    have hnc57:=NB333_361.out
    have hnb58:=NB361_347.out
    have hnc58:=NB347_361.out
    have hnb59:=NB361_353.out
    have hnc59:=NB353_361.out
    obtain⟨hcz60_0,hcz60_1,hcz60_2⟩:=cC3 BK361.out
    obtain⟨hfz60_0,hfz60_1,hfz60_2⟩:=cF3 BK361.out
    have hnb61:=NB347_333.out
    have hnc61:=NB333_347.out
    have hnb62:=NB347_353.out
    have hnc62:=NB353_347.out
    obtain⟨hcz63_0,hcz63_1,hcz63_2⟩:=cC3 BK347.out
    obtain⟨hfz63_0,hfz63_1,hfz63_2⟩:=cF3 BK347.out
    go_wp2_with (first|((with_reducible refine gate_callee (f:=19) rfl ?_);refine goesA (some 43) rfl rfl Try.func19 #[.agg #[.int .i64 t354,.slice Ao37 t355.length co37,.int .i64 t358],.agg #[.int .i64 t340,.slice Ao23 t341.length co23,.int .i64 t344]] rfl ?_;(with_reducible refine(laws_eqTurns.calls k t354 _ _ t355 t358 t340 _ _ t341 t344 false _ ?side1 ?side2 ?side3 ?side4 A38.out).mono ?_);(case side1=>refine(Kd.S_reads' (e:=116) (base:=w.heap.size) (ok:=fun k_=>(((True∧N356_≤k_)∧N356_≤k_)∧N356_≤k_)) (n:=t355.length) (c:=co37) ?_).2.2;exact(by(with_reducible repeat (first|apply Kd.S_alloc|apply Kd.S_drewN|apply Kd.S_drew));exact(Kd.S_mono (Kd.S_far (p:=⟨gb361,2,none⟩) (Kd.S_far (p:=⟨gb361,1,none⟩) (Kd.S_far (p:=⟨gb361,0,none⟩) (Kd.S_types HO357.out BK361.out (by decide)) (fun _ hk=>hk.2) (.int .i64 t354)) (fun _ hk=>hk.2) (.slice Ao37 t355.length co37)) (fun _ hk=>hk.2) (.int .i64 t358)) (fun _ h_=>h_.1))));(case side2=>exact(Kd.S_reads' HO357.out).2.1);(case side3=>refine(Kd.S_reads' (e:=116) (base:=w.heap.size) (ok:=fun k_=>(((True∧N342_≤k_)∧k_ < N350_)∧k_ < N356_)) (n:=t341.length) (c:=co23) ?_).2.2;exact(by(with_reducible repeat (first|apply Kd.S_alloc|apply Kd.S_drewN|apply Kd.S_drew));exact(Kd.S_mono (Kd.S_far (p:=⟨gb361,2,none⟩) (Kd.S_far (p:=⟨gb361,1,none⟩) (Kd.S_far (p:=⟨gb361,0,none⟩) (Kd.S_types HO343.out BK361.out (by decide)) (fun _ hk=>hk.2) (.int .i64 t354)) (fun _ hk=>hk.2) (.slice Ao37 t355.length co37)) (fun _ hk=>hk.2) (.int .i64 t358)) (fun _ h_=>h_.1))));(case side4=>exact(Kd.S_reads' HO343.out).2.1);rintro e w64 ⟨rfl,hb⟩;refine⟨_,rfl,?_⟩;have n0_:=Aside0.mk (Kd.S_below (by(with_reducible repeat (first|apply Kd.S_alloc|apply Kd.S_drewN|apply Kd.S_drew));exact(Kd.S_mono (Kd.S_far (p:=⟨gb361,2,none⟩) (Kd.S_far (p:=⟨gb361,1,none⟩) (Kd.S_far (p:=⟨gb361,0,none⟩) (Kd.S_types HO338.out BK361.out (by decide)) (fun _ hk=>hk.2) (.int .i64 t354)) (fun _ hk=>hk.2) (.slice Ao37 t355.length co37)) (fun _ hk=>hk.2) (.int .i64 t358)) (fun _ h_=>h_.1))) hb);have n1_:=Aside0.mk (Kd.S_below (by(with_reducible repeat (first|apply Kd.S_alloc|apply Kd.S_drewN|apply Kd.S_drew));exact(Kd.S_mono (Kd.S_far (p:=⟨gb361,2,none⟩) (Kd.S_far (p:=⟨gb361,1,none⟩) (Kd.S_far (p:=⟨gb361,0,none⟩) (Kd.S_types HO343.out BK361.out (by decide)) (fun _ hk=>hk.2) (.int .i64 t354)) (fun _ hk=>hk.2) (.slice Ao37 t355.length co37)) (fun _ hk=>hk.2) (.int .i64 t358)) (fun _ h_=>h_.1))) hb);have n2_:=Aside0.mk (Kd.S_below (by(with_reducible repeat (first|apply Kd.S_alloc|apply Kd.S_drewN|apply Kd.S_drew));exact(Kd.S_mono (Kd.S_far (p:=⟨gb361,2,none⟩) (Kd.S_far (p:=⟨gb361,1,none⟩) (Kd.S_far (p:=⟨gb361,0,none⟩) (Kd.S_types HO351.out BK361.out (by decide)) (fun _ hk=>hk.2) (.int .i64 t354)) (fun _ hk=>hk.2) (.slice Ao37 t355.length co37)) (fun _ hk=>hk.2) (.int .i64 t358)) (fun _ h_=>h_.1))) hb);have n3_:=Aside0.mk (Kd.S_below (by(with_reducible repeat (first|apply Kd.S_alloc|apply Kd.S_drewN|apply Kd.S_drew));exact(Kd.S_mono (Kd.S_far (p:=⟨gb361,2,none⟩) (Kd.S_far (p:=⟨gb361,1,none⟩) (Kd.S_far (p:=⟨gb361,0,none⟩) (Kd.S_types HO357.out BK361.out (by decide)) (fun _ hk=>hk.2) (.int .i64 t354)) (fun _ hk=>hk.2) (.slice Ao37 t355.length co37)) (fun _ hk=>hk.2) (.int .i64 t358)) (fun _ h_=>h_.1))) hb);have n4_:=Aside0.mk (blk_below (g:=gb333) (o:=.cells #[.int .i64 a0_0,.slice A0_1 l0_1.length c0_1,.int .i64 a0_2] 24 (0,0)) (by(with_reducible repeat (first|refine blk_drewN ?_ _|refine blk_drew ?_|refine blk_alloc ?_ _));refine blk_far ?_ NB333_361.out _;(with_reducible repeat (first|refine blk_drewN ?_ _|refine blk_drew ?_|refine blk_alloc ?_ _));refine blk_far ?_ NB333_361.out _;(with_reducible repeat (first|refine blk_drewN ?_ _|refine blk_drew ?_|refine blk_alloc ?_ _));refine blk_far ?_ NB333_361.out _;(with_reducible repeat (first|refine blk_drewN ?_ _|refine blk_drew ?_|refine blk_alloc ?_ _));exact BK333.out) hb);have n5_:=Aside0.mk (blk_below (g:=gb347) (o:=.cells #[.int .i64 t340,.slice Ao23 t341.length co23,.int .i64 t344] 28 (0,0)) (by(with_reducible repeat (first|refine blk_drewN ?_ _|refine blk_drew ?_|refine blk_alloc ?_ _));refine blk_far ?_ NB347_361.out _;(with_reducible repeat (first|refine blk_drewN ?_ _|refine blk_drew ?_|refine blk_alloc ?_ _));refine blk_far ?_ NB347_361.out _;(with_reducible repeat (first|refine blk_drewN ?_ _|refine blk_drew ?_|refine blk_alloc ?_ _));refine blk_far ?_ NB347_361.out _;(with_reducible repeat (first|refine blk_drewN ?_ _|refine blk_drew ?_|refine blk_alloc ?_ _));exact BK347.out) hb);have n6_:=Aside0.mk (blk_below (g:=gb353) (o:=.cells #[.int .i64 t348,.slice Ao30 t349.length co30,.int .i64 t352] 28 (0,0)) (by(with_reducible repeat (first|refine blk_drewN ?_ _|refine blk_drew ?_|refine blk_alloc ?_ _));refine blk_far ?_ NB353_361.out _;(with_reducible repeat (first|refine blk_drewN ?_ _|refine blk_drew ?_|refine blk_alloc ?_ _));refine blk_far ?_ NB353_361.out _;(with_reducible repeat (first|refine blk_drewN ?_ _|refine blk_drew ?_|refine blk_alloc ?_ _));refine blk_far ?_ NB353_361.out _;(with_reducible repeat (first|refine blk_drewN ?_ _|refine blk_drew ?_|refine blk_alloc ?_ _));exact BK353.out) hb);have n7_:=Aside0.mk (blk_below (g:=gb361) (o:=.cells #[.int .i64 t354,.slice Ao37 t355.length co37,.int .i64 t358] 28 (0,0)) (by(with_reducible repeat (first|refine blk_drewN ?_ _|refine blk_drew ?_|refine blk_alloc ?_ _));refine blk_put (cs:=#[.int .i64 t354,.slice Ao37 t355.length co37,.int .i64 0]) ?_ 2 _ rfl;(with_reducible repeat (first|refine blk_drewN ?_ _|refine blk_drew ?_|refine blk_alloc ?_ _));refine blk_put (cs:=#[.int .i64 t354,.slice none 0 0,.int .i64 0]) ?_ 1 _ rfl;(with_reducible repeat (first|refine blk_drewN ?_ _|refine blk_drew ?_|refine blk_alloc ?_ _));refine blk_put (cs:=#[.int .i64 0,.slice none 0 0,.int .i64 0]) ?_ 0 _ rfl;(with_reducible repeat (first|refine blk_drewN ?_ _|refine blk_drew ?_|refine blk_alloc ?_ _));exact BK361.out) hb);have n8_:=Aside0.mk (below_step (bS4 GE333.out GE347.out GE353.out GE361.out) hb);clear HO338 HO343 HO351 HO357 BK333 BK347 BK353 BK361 HB;have HO338:=n0_;have HO343:=n1_;have HO351:=n2_;have HO357:=n3_;have BK333:=n4_;have BK347:=n5_;have BK353:=n6_;have BK361:=n7_;have HB:=n8_;clear n0_ n1_ n2_ n3_ n4_ n5_ n6_ n7_ n8_;(try clear hb);(try clear hb2);(try clear hk);(try clear hi)))
    go_meet
    case rel=>exact⟨_,(true),(bR),H',⟨by first|omega|exact Nat.le_refl _⟩,⟨by(with_reducible repeat (first|apply Kd.S_alloc|apply Kd.S_drewN|apply Kd.S_drew));exact Kd.S_mono HO343.out (fun _ hk=>⟨hk.1.2,hk.2⟩)⟩,⟨by(with_reducible repeat (first|apply Kd.S_alloc|apply Kd.S_drewN|apply Kd.S_drew));exact Kd.S_mono HO351.out (fun _ hk=>⟨hk.1.2,hk.2⟩)⟩,⟨by(with_reducible repeat (first|apply Kd.S_alloc|apply Kd.S_drewN|apply Kd.S_drew));exact Kd.S_mono HO357.out (fun _ hk=>⟨hk.1.2,hk.2⟩)⟩,⟨by(with_reducible repeat (first|refine blk_drewN ?_ _|refine blk_drew ?_|refine blk_alloc ?_ _));exact BK333.out⟩,⟨by(with_reducible repeat (first|refine blk_drewN ?_ _|refine blk_drew ?_|refine blk_alloc ?_ _));exact BK347.out⟩,⟨by(with_reducible repeat (first|refine blk_drewN ?_ _|refine blk_drew ?_|refine blk_alloc ?_ _));exact BK353.out⟩,⟨by(with_reducible repeat (first|refine blk_drewN ?_ _|refine blk_drew ?_|refine blk_alloc ?_ _));exact BK361.out⟩,⟨bS4 GE333.out GE347.out GE353.out GE361.out⟩⟩
  case rest =>
   clear HC12
   try clear c1
   try clear c2
   try clear p2
   try clear c3
   try clear c4
   try clear c4b0
   try clear c5
   try clear c6
   try clear c9
   try clear c15
   try clear c17
   try clear c19
   try clear c21
   try clear c27
   try clear c28
   try clear c33
   try clear c34
   try clear c35
   try clear c39
   try clear c40
   try clear c40b0
   try clear c40b1
   try clear c41
   try clear c42
   try clear c43
   try clear c45
   try clear c46
   try clear c49
   try clear c50
   try clear c51
   try clear c53
   try clear c54
   try clear c55
   try clear c56
   try clear c57
   try clear c58
   try clear c59
   try clear c61
   try clear c62
   try clear hcz14_0 hcz14_1 hcz14_2
   try clear hcz16_0 hcz16_1 hcz16_2
   try clear hcz22_0 hcz22_1 hcz22_2
   try clear hcz24_0 hcz24_1 hcz24_2
   try clear hcz29_0 hcz29_1 hcz29_2
   try clear hcz36_0 hcz36_1 hcz36_2
   try clear hcz44_0 hcz44_1 hcz44_2
   try clear hcz47_0 hcz47_1 hcz47_2
   try clear hcz52_0 hcz52_1 hcz52_2
   try clear hcz55_0 hcz55_1 hcz55_2
   try clear hcz60_0 hcz60_1 hcz60_2
   try clear hcz63_0 hcz63_1 hcz63_2
   try clear hcz6_0 hcz6_1 hcz6_2
   try clear hfz14_0 hfz14_1 hfz14_2
   try clear hfz16_0 hfz16_1 hfz16_2
   try clear hfz22_0 hfz22_1 hfz22_2
   try clear hfz24_0 hfz24_1 hfz24_2
   try clear hfz29_0 hfz29_1 hfz29_2
   try clear hfz36_0 hfz36_1 hfz36_2
   try clear hfz44_0 hfz44_1 hfz44_2
   try clear hfz47_0 hfz47_1 hfz47_2
   try clear hfz52_0 hfz52_1 hfz52_2
   try clear hfz55_0 hfz55_1 hfz55_2
   try clear hfz60_0 hfz60_1 hfz60_2
   try clear hfz63_0 hfz63_1 hfz63_2
   try clear hfz6_0 hfz6_1 hfz6_2
   obtain⟨kq,x54_11,rfl,HA,HJ11,HO_348001,HO_354001,HO_362001,BK333,BK347,BK353,BK361,HB⟩:=hcut
   cases kq with
   | zero=>exact absurd HA.out (by simp[laws_FnExactRunRounds.j0])
   | succ kj11 =>
    have H:=HA.out
    clear HA
    simp only[laws_FnExactRunRounds.j0] at H
    by_cases c65:x54_11=true
    ·subst c65
     have H1:(some false)=some r:=by rw[if_pos rfl] at H;exact H
     clear H
     have H:=H1
     clear H1
     obtain rfl:=Option.some.inj H
     go_wp2
     go_ret
     exact⟨bE,bS4 GE333.out GE347.out GE353.out GE361.out⟩
    ·replace c65:=Bool.eq_false_iff.mpr c65
     subst c65
     have H1:((laws_toTurns.f kj11 a0_0 l0_1 a0_2).bind fun bt363=>((laws_eqTurns.f kj11 t348 t349 t352 bt363.1 bt363.2.1 bt363.2.2).bind fun t368=>(if t368=true then ((laws_markTurns.f kj11 t348 t349 t352 1).bind fun bt369=>(if bt369.1 < 0 then (laws_FnExactRunRounds.j1 kj11 a1 t345 t346 true a0_0 l0_1 a0_2 t340 t341 t344 t354 t355 t358) else ((laws_eqTurns.f kj11 t354 t355 t358 t340 t341 t344).bind fun t371=>(if t371=true then (if t359=t345 then (laws_FnExactRunRounds.j1 kj11 a1 t345 t346 (t360 != t346) a0_0 l0_1 a0_2 t340 t341 t344 t354 t355 t358) else (laws_FnExactRunRounds.j1 kj11 a1 t345 t346 true a0_0 l0_1 a0_2 t340 t341 t344 t354 t355 t358)) else (laws_FnExactRunRounds.j1 kj11 a1 t345 t346 true a0_0 l0_1 a0_2 t340 t341 t344 t354 t355 t358))))) else (some false))))=some r:=by rw[if_neg (show ¬ (false=true) by decide)] at H;exact H
     clear H
     have H:=H1
     clear H1
     replace H:=Option.bind_eq_some_iff.mp H
     obtain⟨⟨t363,t364,t367⟩,A660,H⟩:=H
     have A66:=Aside0.mk A660
     clear A660
     replace H:=Option.bind_eq_some_iff.mp H
     obtain⟨t368,A670,H⟩:=H
     have A67:=Aside0.mk A670
     clear A670
     by_cases c68:t368=true
     ·subst c68
      have H1:((laws_markTurns.f kj11 t348 t349 t352 1).bind fun bt369=>(if bt369.1 < 0 then (laws_FnExactRunRounds.j1 kj11 a1 t345 t346 true a0_0 l0_1 a0_2 t340 t341 t344 t354 t355 t358) else ((laws_eqTurns.f kj11 t354 t355 t358 t340 t341 t344).bind fun t371=>(if t371=true then (if t359=t345 then (laws_FnExactRunRounds.j1 kj11 a1 t345 t346 (t360 != t346) a0_0 l0_1 a0_2 t340 t341 t344 t354 t355 t358) else (laws_FnExactRunRounds.j1 kj11 a1 t345 t346 true a0_0 l0_1 a0_2 t340 t341 t344 t354 t355 t358)) else (laws_FnExactRunRounds.j1 kj11 a1 t345 t346 true a0_0 l0_1 a0_2 t340 t341 t344 t354 t355 t358)))))=some r:=by rw[if_pos rfl] at H;exact H
      clear H
      have H:=H1
      clear H1
      replace H:=Option.bind_eq_some_iff.mp H
      obtain⟨⟨t369,t370⟩,A690,H⟩:=H
      have A69:=Aside0.mk A690
      clear A690
      have HC70:=Aside0.mk H
      clear H
      try go_wp2
      have n0_:=Aside0.mk (Kd.S_drew HO_348001.out)
      have n1_:=Aside0.mk (Kd.S_drew HO_354001.out)
      have n2_:=Aside0.mk (Kd.S_drew HO_362001.out)
      have n3_:=Aside0.mk (blk_drew BK333.out)
      have n4_:=Aside0.mk (blk_drew BK347.out)
      have n5_:=Aside0.mk (blk_drew BK353.out)
      have n6_:=Aside0.mk (blk_drew BK361.out)
      have n7_:=Aside0.mk (below_drew1 HB.out)
      clear HO_348001 HO_354001 HO_362001 BK333 BK347 BK353 BK361 HB
      have HO_348001:=n0_
      have HO_354001:=n1_
      have HO_362001:=n2_
      have BK333:=n3_
      have BK347:=n4_
      have BK353:=n5_
      have BK361:=n6_
      have HB:=n7_
      clear n0_ n1_ n2_ n3_ n4_ n5_ n6_ n7_
      refine start_ (n:=5) (S:=fun w'=>w'.cell? ⟨gb353,0,none⟩=some (.int .i64 t348)∧w'.cell? ⟨gb353,1,none⟩=some (.slice Ao30 t349.length co30)∧w'.cell? ⟨gb353,2,none⟩=some (.int .i64 t352)∧w'.cell? ⟨gb333,0,none⟩=some (.int .i64 a0_0)∧w'.cell? ⟨gb333,1,none⟩=some (.slice A0_1 l0_1.length c0_1)∧w'.cell? ⟨gb333,2,none⟩=some (.int .i64 a0_2)) (ds:=[]) #[false,false,false,false,false] (by kernel_rfl) rfl rfl ⟨(blk_cell BK353.out 0).trans rfl,(blk_cell BK353.out 1).trans rfl,(blk_cell BK353.out 2).trans rfl,(blk_cell BK333.out 0).trans rfl,(blk_cell BK333.out 1).trans rfl,(blk_cell BK333.out 2).trans rfl⟩ (fun hHeld => ?_)
      generalize wc.drew=w71 at HO_348001 HO_354001 HO_362001 BK333 BK347 BK353 BK361 HB hHeld ⊢
      refine take_ (i:=0) (N:=some 55) (v:=?_) (a':=?_) #[true,false,false,false,false] rfl rfl (by kernel_rfl) (fun _ _ _ h=>h) (Or.inl ⟨by rfl,?_⟩) hHeld ?_ ?_
      rotate_left
      ·rintro w' ⟨s0,s1,s2,s3,s4,s5⟩
       go_simp
       with_reducible rfl
      rotate_left
      ·simp only[Act.put,List.setIfInBounds_toArray,List.set_cons_zero,List.set_cons_succ,i64_w,i32_w]
       rfl
      refine take_ (i:=1) (N:=some 56) (v:=?_) (a':=?_) #[true,true,false,false,false] rfl rfl (by kernel_rfl) (fun _ _ _ h=>h) (Or.inl ⟨by rfl,?_⟩) hHeld ?_ ?_
      rotate_left
      ·rintro w' ⟨s0,s1,s2,s3,s4,s5⟩
       go_simp
       with_reducible rfl
      rotate_left
      ·simp only[Act.put,List.setIfInBounds_toArray,List.set_cons_zero,List.set_cons_succ,i64_w,i32_w]
       rfl
      refine one_ (i:=2) (N:=some 57) #[true,true,true,false,false] rfl rfl (by kernel_rfl) (by decide) (fun K hK => ?_)
      refine goes_ Try.func17 (by kernel_rfl) rfl #[.agg #[.int .i64 a0_0,.slice A0_1 l0_1.length c0_1,.int .i64 a0_2]] (by rfl) rfl rfl (by(try simp only[List.map_toArray,List.map_cons,List.map_nil]);first|done|rfl|(simp only[List.length_drop,List.length_take];rfl)) ?_
      with_reducible refine(laws_toTurns.calls kj11 a0_0 _ _ l0_1 a0_2 t363 t364 t367 _ ?side1 ?side2 A66.out).mono ?_
      (case side1=>exact bC HR0_1.out)
      (case side2=>exact HC0_1.out)
      rintro e w72 ⟨v365,rfl,ho0,hb⟩
      refine⟨_,rfl,?_⟩
      obtain⟨N365_,hN_⟩:=sizeof_ hb
      have n0_:=Aside0.mk (S_oldN (by(with_reducible repeat (first|apply Kd.S_alloc|apply Kd.S_drewN|apply Kd.S_drew));exact HO_348001.out) hb hN_)
      have n1_:=Aside0.mk (S_oldN (by(with_reducible repeat (first|apply Kd.S_alloc|apply Kd.S_drewN|apply Kd.S_drew));exact HO_354001.out) hb hN_)
      have n2_:=Aside0.mk (S_oldN (by(with_reducible repeat (first|apply Kd.S_alloc|apply Kd.S_drewN|apply Kd.S_drew));exact HO_362001.out) hb hN_)
      have n3_:=Aside0.mk (Kd.S_lower (S_newN (S_newN (S_newN ho0 hN_) hN_) hN_) (below_size (bS4 GE333.out GE347.out GE353.out GE361.out)))
      have n4_:=Aside0.mk (bM BK333.out hb)
      have n5_:=Aside0.mk (bM BK347.out hb)
      have n6_:=Aside0.mk (bM BK353.out hb)
      have n7_:=Aside0.mk (bM BK361.out hb)
      have n8_:=Aside0.mk (below_step (bS4 GE333.out GE347.out GE353.out GE361.out) hb)
      clear HO_348001 HO_354001 HO_362001 BK333 BK347 BK353 BK361 HB
      have HO_348001:=n0_
      have HO_354001:=n1_
      have HO_362001:=n2_
      have HO366:=n3_
      have BK333:=n4_
      have BK347:=n5_
      have BK353:=n6_
      have BK361:=n7_
      have HB:=n8_
      clear n0_ n1_ n2_ n3_ n4_ n5_ n6_ n7_ n8_
      (try clear hb)
      (try clear hb2)
      (try clear hk)
      (try clear hi)
      (try clear ho0)
      obtain⟨Ao73,co73,eo73⟩:=Kd.S_slice HO366.out
      (first|subst eo73|(injection eo73 with f1_ f2_ f3_;have f4_:=f1_.symm;have f5_:=f3_.symm;clear f1_ f2_ f3_;subst f4_;subst f5_))
      refine hK.out _ _ ⟨(blk_cell BK353.out 0).trans rfl,(blk_cell BK353.out 1).trans rfl,(blk_cell BK353.out 2).trans rfl,(blk_cell BK333.out 0).trans rfl,(blk_cell BK333.out 1).trans rfl,(blk_cell BK333.out 2).trans rfl⟩ (fun hHeld => ?_)
      clear hK K
      refine norm_ (a':=?_) ?_ ?_
      rotate_left
      ·show Act.put _ (some 57) _=_
       simp only[Act.put,List.setIfInBounds_toArray,List.set_cons_zero,List.set_cons_succ,i64_w,i32_w]
       rfl
      refine one_ (i:=3) (N:=some 58) #[true,true,true,true,false] rfl rfl (by kernel_rfl) (by decide) (fun K hK => ?_)
      refine goes_ Try.func19 (by kernel_rfl) rfl #[.agg #[.int .i64 t348,.slice Ao30 t349.length co30,.int .i64 t352],.agg #[.int .i64 t363,.slice Ao73 t364.length co73,.int .i64 t367]] (by rfl) rfl rfl (by(try simp only[List.map_toArray,List.map_cons,List.map_nil]);first|done|rfl|(simp only[List.length_drop,List.length_take];rfl)) ?_
      with_reducible refine(laws_eqTurns.calls kj11 t348 _ _ t349 t352 t363 _ _ t364 t367 true _ ?side1 ?side2 ?side3 ?side4 A67.out).mono ?_
      (case side1=>repeat (first|exact(Kd.S_reads' HO_354001.out).2.2|(with_reducible refine Kd.C_alloc ?_ _)|(with_reducible refine Kd.C_drewN ?_ _)|(with_reducible refine Kd.C_drew ?_)))
      (case side2=>exact(Kd.S_reads' HO_354001.out).2.1)
      (case side3=>repeat (first|exact(Kd.S_reads' HO366.out).2.2|(with_reducible refine Kd.C_alloc ?_ _)|(with_reducible refine Kd.C_drewN ?_ _)|(with_reducible refine Kd.C_drew ?_)))
      (case side4=>exact(Kd.S_reads' HO366.out).2.1)
      rintro e w74 ⟨rfl,hb⟩
      refine⟨_,rfl,?_⟩
      have n0_:=Aside0.mk (Kd.S_below (by(with_reducible repeat (first|apply Kd.S_alloc|apply Kd.S_drewN|apply Kd.S_drew));exact HO_348001.out) hb)
      have n1_:=Aside0.mk (Kd.S_below (by(with_reducible repeat (first|apply Kd.S_alloc|apply Kd.S_drewN|apply Kd.S_drew));exact HO_354001.out) hb)
      have n2_:=Aside0.mk (Kd.S_below (by(with_reducible repeat (first|apply Kd.S_alloc|apply Kd.S_drewN|apply Kd.S_drew));exact HO_362001.out) hb)
      have n3_:=Aside0.mk (Kd.S_below (by(with_reducible repeat (first|apply Kd.S_alloc|apply Kd.S_drewN|apply Kd.S_drew));exact HO366.out) hb)
      have n4_:=Aside0.mk (bM BK333.out hb)
      have n5_:=Aside0.mk (bM BK347.out hb)
      have n6_:=Aside0.mk (bM BK353.out hb)
      have n7_:=Aside0.mk (bM BK361.out hb)
      have n8_:=Aside0.mk (below_step (bS4 GE333.out GE347.out GE353.out GE361.out) hb)
      clear HO_348001 HO_354001 HO_362001 HO366 BK333 BK347 BK353 BK361 HB
      have HO_348001:=n0_
      have HO_354001:=n1_
      have HO_362001:=n2_
      have HO366:=n3_
      have BK333:=n4_
      have BK347:=n5_
      have BK353:=n6_
      have BK361:=n7_
      have HB:=n8_
      clear n0_ n1_ n2_ n3_ n4_ n5_ n6_ n7_ n8_
      (try clear hb)
      (try clear hb2)
      (try clear hk)
      (try clear hi)
      refine hK.out _ _ ⟨(blk_cell BK353.out 0).trans rfl,(blk_cell BK353.out 1).trans rfl,(blk_cell BK353.out 2).trans rfl,(blk_cell BK333.out 0).trans rfl,(blk_cell BK333.out 1).trans rfl,(blk_cell BK333.out 2).trans rfl⟩ (fun hHeld => ?_)
      clear hK K
      refine norm_ (a':=?_) ?_ ?_
      rotate_left
      ·show Act.put _ (some 58) _=_
       simp only[Act.put,List.setIfInBounds_toArray,List.set_cons_zero,List.set_cons_succ,i64_w,i32_w]
       rfl
      refine pure_ (i:=4) (N:=some 59) (v:=?_) (a':=?_) #[true,true,true,true,true] rfl rfl (by kernel_rfl) (fun _ _ _ h=>h) (Or.inl ⟨by rfl,?_⟩) ?_ ?_
      rotate_left
      ·intro w'
       go_simp
       with_reducible rfl
      rotate_left
      ·simp only[Act.put,List.setIfInBounds_toArray,List.set_cons_zero,List.set_cons_succ,i64_w,i32_w]
       rfl
      refine done_ (by kernel_rfl) ?_
      have hnb75:=NB353_333.out
      have hnc75:=NB333_353.out
      have hnb76:=NB353_347.out
      have hnc76:=NB347_353.out
      have hnb77:=NB353_361.out
      have hnc77:=NB361_353.out
      obtain⟨hcz78_0,hcz78_1,hcz78_2⟩:=cC3 BK353.out
      obtain⟨hfz78_0,hfz78_1,hfz78_2⟩:=cF3 BK353.out
      go_upto_region 14 with (first|((with_reducible refine gate_callee (f:=20) rfl ?_);refine goesA (some 62) rfl rfl Try.func20 #[.agg #[.int .i64 t348,.slice Ao30 t349.length co30,.int .i64 t352],.int .i64 1] rfl ?_;obtain⟨P0_,hPS_,hPO_,hPB_⟩:=markable_ HO_354001.out;(with_reducible refine(laws_markTurns.calls kj11 t348 P0_ (.slice Ao30 t349.length co30) t349 t352 1 t369 t370 w _ ?side1 ?side2 A69.out).mono ?_);(case side1=>repeat (first|(with_reducible first|exact HB.out|apply below_alloc|apply pw_below_drewN|apply below_drew1|refine below_set ?_ GE333.out|refine below_set ?_ GE347.out|refine below_set ?_ GE353.out|refine below_set ?_ GE361.out)|exact HB.out));(case side2=>exact hPS_);rintro e w79 ⟨rfl,hy0,hb,hkp⟩;refine⟨_,rfl,?_⟩;have n0_:=Aside0.mk (Kd.S_mono (ok':=fun k_=>k_ < N350_∧k_ < N356_∧k_ < N365_) (Kd.S_keptB (HO_348001.out) hkp (fun k_ hk_ hs_=>by have h1_:=hPO_ k_ hs_;(try dsimp only at h1_ hk_);omega)) (fun k_ hk_=>⟨hk_.1.1.1,hk_.1.1.2,hk_.1.2⟩));have n1_:=Aside0.mk (Kd.S_mono hy0 (fun k_ h_=>hPO_ k_ h_));have n2_:=Aside0.mk (Kd.S_mono (ok':=fun k_=>N356_≤k_∧N356_≤k_∧k_ < N365_) (Kd.S_keptB (HO_362001.out) hkp (fun k_ hk_ hs_=>by have h1_:=hPO_ k_ hs_;(try dsimp only at h1_ hk_);omega)) (fun k_ hk_=>⟨hk_.1.1.1,hk_.1.1.2,hk_.1.2⟩));have n3_:=Aside0.mk (blk_kept (bL BK333.out) hkp (hPB_ _ _ _ BK333.out (by decide)));have n4_:=Aside0.mk (blk_kept (bL BK347.out) hkp (hPB_ _ _ _ BK347.out (by decide)));have n5_:=Aside0.mk (blk_kept (bL BK353.out) hkp (hPB_ _ _ _ BK353.out (by decide)));have n6_:=Aside0.mk (blk_kept (bL BK361.out) hkp (hPB_ _ _ _ BK361.out (by decide)));have n7_:=Aside0.mk (Kd.S_mono (ok':=fun k_=>N365_≤k_∧N365_≤k_∧N365_≤k_) (Kd.S_keptB (HO366.out) hkp (fun k_ hk_ hs_=>by have h1_:=hPO_ k_ hs_;(try dsimp only at h1_ hk_);omega)) (fun k_ hk_=>⟨hk_.1.1.1.2,hk_.1.1.2,hk_.1.2⟩));have n8_:=Aside0.mk (hb);clear HO_348001 HO_354001 HO_362001 BK333 BK347 BK353 BK361 HO366 HB;have HO_348001:=n0_;have HO_354001:=n1_;have HO_362001:=n2_;have BK333:=n3_;have BK347:=n4_;have BK353:=n5_;have BK361:=n6_;have HO366:=n7_;have HB:=n8_;clear n0_ n1_ n2_ n3_ n4_ n5_ n6_ n7_ n8_;(try clear hb);(try clear hkp);(try clear hy0)))
      (try simp only[Act.put,List.setIfInBounds_toArray,List.set_cons_zero,List.set_cons_succ])
      go_cut [80] (fun v80 wc => ∃ (kq:Nat) (x80_69:Bool),v80=.bool x80_69∧Aside0 (laws_FnExactRunRounds.j1 kq a1 t345 t346 x80_69 a0_0 l0_1 a0_2 t340 t341 t344 t354 t355 t358=some r)∧Aside0 (kq≤kj11)∧Aside0 (Kd.S k116 116 wc w.heap.size (fun k_=>k_ < N350_∧k_ < N356_) (.slice Ao23 t341.length co23) t341)∧Aside0 (Kd.S k116 116 wc w.heap.size (fun k_=>N350_≤k_∧k_ < N356_) (.slice Ao30 t349.length co30) t370)∧Aside0 (Kd.S k116 116 wc w.heap.size (fun k_=>N356_≤k_∧N356_≤k_) (.slice Ao37 t355.length co37) t355)∧Aside0 (wc.heap[gb333]?=some (.cells #[.int .i64 a0_0,(.slice A0_1 l0_1.length c0_1),.int .i64 a0_2] 24 (0,0)))∧Aside0 (wc.heap[gb347]?=some (.cells #[.int .i64 t340,(.slice Ao23 t341.length co23),.int .i64 t344] 28 (0,0)))∧Aside0 (wc.heap[gb353]?=some (.cells #[.int .i64 t348,(.slice Ao30 t349.length co30),.int .i64 t352] 28 (0,0)))∧Aside0 (wc.heap[gb361]?=some (.cells #[.int .i64 t354,(.slice Ao37 t355.length co37),.int .i64 t358] 28 (0,0)))∧Aside0 (Below w.heap.size w wc))
      case first =>
       have H:=HC70.out
       clear HC70
       by_cases c80:t369 < 0
       ·rw[if_pos c80] at H
        have c80b0:decide (t369 < 0)=true:=decide_eq_true c80
        clear c80
        (first|rw[c80b0]|(simp only[i64_w,i32_w];rw[c80b0])|skip)
        have H':=Aside0.mk H
        clear H
        go_wp2
        go_meet
        case rel=>exact⟨_,(true),(bR),H',⟨by have:=HJ11.out;first|omega|exact Nat.le_refl _⟩,⟨by(with_reducible repeat (first|apply Kd.S_alloc|apply Kd.S_drewN|apply Kd.S_drew));exact Kd.S_mono HO_348001.out (fun _ hk=>⟨hk.1,hk.2.1⟩)⟩,⟨by(with_reducible repeat (first|apply Kd.S_alloc|apply Kd.S_drewN|apply Kd.S_drew));exact Kd.S_mono HO_354001.out (fun _ hk=>⟨hk.1.1,hk.1.2⟩)⟩,⟨by(with_reducible repeat (first|apply Kd.S_alloc|apply Kd.S_drewN|apply Kd.S_drew));exact Kd.S_mono HO_362001.out (fun _ hk=>⟨hk.1,hk.2.1⟩)⟩,⟨by(with_reducible repeat (first|refine blk_drewN ?_ _|refine blk_drew ?_|refine blk_alloc ?_ _));exact BK333.out⟩,⟨by(with_reducible repeat (first|refine blk_drewN ?_ _|refine blk_drew ?_|refine blk_alloc ?_ _));exact BK347.out⟩,⟨by(with_reducible repeat (first|refine blk_drewN ?_ _|refine blk_drew ?_|refine blk_alloc ?_ _));exact BK353.out⟩,⟨by(with_reducible repeat (first|refine blk_drewN ?_ _|refine blk_drew ?_|refine blk_alloc ?_ _));exact BK361.out⟩,⟨bS4 GE333.out GE347.out GE353.out GE361.out⟩⟩
       ·rw[if_neg c80] at H
        have c80b0:decide (t369 < 0)=false:=decide_eq_false c80
        clear c80
        (first|rw[c80b0]|(simp only[i64_w,i32_w];rw[c80b0])|skip)
        replace H:=Option.bind_eq_some_iff.mp H
        obtain⟨t371,A810,H⟩:=H
        have A81:=Aside0.mk A810
        clear A810
        by_cases c82:t371=true
        ·subst c82
         have H1:(if t359=t345 then (laws_FnExactRunRounds.j1 kj11 a1 t345 t346 (t360 != t346) a0_0 l0_1 a0_2 t340 t341 t344 t354 t355 t358) else (laws_FnExactRunRounds.j1 kj11 a1 t345 t346 true a0_0 l0_1 a0_2 t340 t341 t344 t354 t355 t358))=some r:=by rw[if_pos rfl] at H;exact H
         clear H
         have H:=H1
         clear H1
         by_cases c83:t359=t345
         ·rw[if_pos c83] at H
          have c83b0:(t359 == t345)=true:=beq_iff_eq.mpr c83
          have c83b1:(t359 != t345)=false:=bne_eq_false_iff_eq.mpr c83
          clear c83
          have H':=Aside0.mk H
          clear H
          have hnb84:=NB361_333.out
          have hnc84:=NB333_361.out
          have hnb85:=NB361_347.out
          have hnc85:=NB347_361.out
          have hnb86:=NB361_353.out
          have hnc86:=NB353_361.out
          obtain⟨hcz87_0,hcz87_1,hcz87_2⟩:=cC3 BK361.out
          obtain⟨hfz87_0,hfz87_1,hfz87_2⟩:=cF3 BK361.out
          have hnb88:=NB347_333.out
          have hnc88:=NB333_347.out
          have hnb89:=NB347_353.out
          have hnc89:=NB353_347.out
          obtain⟨hcz90_0,hcz90_1,hcz90_2⟩:=cC3 BK347.out
          obtain⟨hfz90_0,hfz90_1,hfz90_2⟩:=cF3 BK347.out
          go_wp2_with (first|(go_at_call 19;(with_reducible refine(laws_eqTurns.calls kj11 t354 _ _ t355 t358 t340 _ _ t341 t344 true _ ?side1 ?side2 ?side3 ?side4 A81.out).mono ?_);(case side1=>repeat (first|exact(Kd.S_reads' HO_362001.out).2.2|(with_reducible refine Kd.C_alloc ?_ _)|(with_reducible refine Kd.C_drewN ?_ _)|(with_reducible refine Kd.C_drew ?_)));(case side2=>exact(Kd.S_reads' HO_362001.out).2.1);(case side3=>repeat (first|exact(Kd.S_reads' HO_348001.out).2.2|(with_reducible refine Kd.C_alloc ?_ _)|(with_reducible refine Kd.C_drewN ?_ _)|(with_reducible refine Kd.C_drew ?_)));(case side4=>exact(Kd.S_reads' HO_348001.out).2.1);rintro e w91 ⟨rfl,hb⟩;have n0_:=Aside0.mk (Kd.S_below (by(with_reducible repeat (first|apply Kd.S_alloc|apply Kd.S_drewN|apply Kd.S_drew));exact HO_348001.out) hb);have n1_:=Aside0.mk (Kd.S_below (by(with_reducible repeat (first|apply Kd.S_alloc|apply Kd.S_drewN|apply Kd.S_drew));exact HO_354001.out) hb);have n2_:=Aside0.mk (Kd.S_below (by(with_reducible repeat (first|apply Kd.S_alloc|apply Kd.S_drewN|apply Kd.S_drew));exact HO_362001.out) hb);have n3_:=Aside0.mk (Kd.S_below (by(with_reducible repeat (first|apply Kd.S_alloc|apply Kd.S_drewN|apply Kd.S_drew));exact HO366.out) hb);have n4_:=Aside0.mk (bM BK333.out hb);have n5_:=Aside0.mk (bM BK347.out hb);have n6_:=Aside0.mk (bM BK353.out hb);have n7_:=Aside0.mk (bM BK361.out hb);have n8_:=Aside0.mk (below_step (bS4 GE333.out GE347.out GE353.out GE361.out) hb);clear HO_348001 HO_354001 HO_362001 HO366 BK333 BK347 BK353 BK361 HB;have HO_348001:=n0_;have HO_354001:=n1_;have HO_362001:=n2_;have HO366:=n3_;have BK333:=n4_;have BK347:=n5_;have BK353:=n6_;have BK361:=n7_;have HB:=n8_;clear n0_ n1_ n2_ n3_ n4_ n5_ n6_ n7_ n8_;(try clear hb);(try clear hb2);(try clear hk);(try clear hi)))
          go_meet
          case rel=>exact⟨_,((t360 != t346)),(bR),H',⟨by have:=HJ11.out;first|omega|exact Nat.le_refl _⟩,⟨by(with_reducible repeat (first|apply Kd.S_alloc|apply Kd.S_drewN|apply Kd.S_drew));exact Kd.S_mono HO_348001.out (fun _ hk=>⟨hk.1,hk.2.1⟩)⟩,⟨by(with_reducible repeat (first|apply Kd.S_alloc|apply Kd.S_drewN|apply Kd.S_drew));exact Kd.S_mono HO_354001.out (fun _ hk=>⟨hk.1.1,hk.1.2⟩)⟩,⟨by(with_reducible repeat (first|apply Kd.S_alloc|apply Kd.S_drewN|apply Kd.S_drew));exact Kd.S_mono HO_362001.out (fun _ hk=>⟨hk.1,hk.2.1⟩)⟩,⟨by(with_reducible repeat (first|refine blk_drewN ?_ _|refine blk_drew ?_|refine blk_alloc ?_ _));exact BK333.out⟩,⟨by(with_reducible repeat (first|refine blk_drewN ?_ _|refine blk_drew ?_|refine blk_alloc ?_ _));exact BK347.out⟩,⟨by(with_reducible repeat (first|refine blk_drewN ?_ _|refine blk_drew ?_|refine blk_alloc ?_ _));exact BK353.out⟩,⟨by(with_reducible repeat (first|refine blk_drewN ?_ _|refine blk_drew ?_|refine blk_alloc ?_ _));exact BK361.out⟩,⟨bS4 GE333.out GE347.out GE353.out GE361.out⟩⟩
         ·rw[if_neg c83] at H
          have c83b0:(t359 == t345)=false:=beq_eq_false_iff_ne.mpr c83
          have c83b1:(t359 != t345)=true:=bne_iff_ne.mpr c83
          have H':=Aside0.mk H
          clear H
          have hnb92:=NB361_333.out
          have hnc92:=NB333_361.out
          have hnb93:=NB361_347.out
          have hnc93:=NB347_361.out
          have hnb94:=NB361_353.out
          have hnc94:=NB353_361.out
          obtain⟨hcz95_0,hcz95_1,hcz95_2⟩:=cC3 BK361.out
          obtain⟨hfz95_0,hfz95_1,hfz95_2⟩:=cF3 BK361.out
          have hnb96:=NB347_333.out
          have hnc96:=NB333_347.out
          have hnb97:=NB347_353.out
          have hnc97:=NB353_347.out
          obtain⟨hcz98_0,hcz98_1,hcz98_2⟩:=cC3 BK347.out
          obtain⟨hfz98_0,hfz98_1,hfz98_2⟩:=cF3 BK347.out
          go_wp2_with (first|(go_at_call 19;(with_reducible refine(laws_eqTurns.calls kj11 t354 _ _ t355 t358 t340 _ _ t341 t344 true _ ?side1 ?side2 ?side3 ?side4 A81.out).mono ?_);(case side1=>repeat (first|exact(Kd.S_reads' HO_362001.out).2.2|(with_reducible refine Kd.C_alloc ?_ _)|(with_reducible refine Kd.C_drewN ?_ _)|(with_reducible refine Kd.C_drew ?_)));(case side2=>exact(Kd.S_reads' HO_362001.out).2.1);(case side3=>repeat (first|exact(Kd.S_reads' HO_348001.out).2.2|(with_reducible refine Kd.C_alloc ?_ _)|(with_reducible refine Kd.C_drewN ?_ _)|(with_reducible refine Kd.C_drew ?_)));(case side4=>exact(Kd.S_reads' HO_348001.out).2.1);rintro e w99 ⟨rfl,hb⟩;have n0_:=Aside0.mk (Kd.S_below (by(with_reducible repeat (first|apply Kd.S_alloc|apply Kd.S_drewN|apply Kd.S_drew));exact HO_348001.out) hb);have n1_:=Aside0.mk (Kd.S_below (by(with_reducible repeat (first|apply Kd.S_alloc|apply Kd.S_drewN|apply Kd.S_drew));exact HO_354001.out) hb);have n2_:=Aside0.mk (Kd.S_below (by(with_reducible repeat (first|apply Kd.S_alloc|apply Kd.S_drewN|apply Kd.S_drew));exact HO_362001.out) hb);have n3_:=Aside0.mk (Kd.S_below (by(with_reducible repeat (first|apply Kd.S_alloc|apply Kd.S_drewN|apply Kd.S_drew));exact HO366.out) hb);have n4_:=Aside0.mk (bM BK333.out hb);have n5_:=Aside0.mk (bM BK347.out hb);have n6_:=Aside0.mk (bM BK353.out hb);have n7_:=Aside0.mk (bM BK361.out hb);have n8_:=Aside0.mk (below_step (bS4 GE333.out GE347.out GE353.out GE361.out) hb);clear HO_348001 HO_354001 HO_362001 HO366 BK333 BK347 BK353 BK361 HB;have HO_348001:=n0_;have HO_354001:=n1_;have HO_362001:=n2_;have HO366:=n3_;have BK333:=n4_;have BK347:=n5_;have BK353:=n6_;have BK361:=n7_;have HB:=n8_;clear n0_ n1_ n2_ n3_ n4_ n5_ n6_ n7_ n8_;(try clear hb);(try clear hb2);(try clear hk);(try clear hi)))
          go_meet
          case rel=>exact⟨_,(true),(bR),H',⟨by have:=HJ11.out;first|omega|exact Nat.le_refl _⟩,⟨by(with_reducible repeat (first|apply Kd.S_alloc|apply Kd.S_drewN|apply Kd.S_drew));exact Kd.S_mono HO_348001.out (fun _ hk=>⟨hk.1,hk.2.1⟩)⟩,⟨by(with_reducible repeat (first|apply Kd.S_alloc|apply Kd.S_drewN|apply Kd.S_drew));exact Kd.S_mono HO_354001.out (fun _ hk=>⟨hk.1.1,hk.1.2⟩)⟩,⟨by(with_reducible repeat (first|apply Kd.S_alloc|apply Kd.S_drewN|apply Kd.S_drew));exact Kd.S_mono HO_362001.out (fun _ hk=>⟨hk.1,hk.2.1⟩)⟩,⟨by(with_reducible repeat (first|refine blk_drewN ?_ _|refine blk_drew ?_|refine blk_alloc ?_ _));exact BK333.out⟩,⟨by(with_reducible repeat (first|refine blk_drewN ?_ _|refine blk_drew ?_|refine blk_alloc ?_ _));exact BK347.out⟩,⟨by(with_reducible repeat (first|refine blk_drewN ?_ _|refine blk_drew ?_|refine blk_alloc ?_ _));exact BK353.out⟩,⟨by(with_reducible repeat (first|refine blk_drewN ?_ _|refine blk_drew ?_|refine blk_alloc ?_ _));exact BK361.out⟩,⟨bS4 GE333.out GE347.out GE353.out GE361.out⟩⟩
        ·replace c82:=Bool.eq_false_iff.mpr c82
         subst c82
         have H1:(laws_FnExactRunRounds.j1 kj11 a1 t345 t346 true a0_0 l0_1 a0_2 t340 t341 t344 t354 t355 t358)=some r:=by rw[if_neg (show ¬ (false=true) by decide)] at H;exact H
         clear H
         have H:=H1
         clear H1
         have H':=Aside0.mk H
         clear H
         have hnb100:=NB361_333.out
         have hnc100:=NB333_361.out
         have hnb101:=NB361_347.out
         have hnc101:=NB347_361.out
         have hnb102:=NB361_353.out
         have hnc102:=NB353_361.out
         obtain⟨hcz103_0,hcz103_1,hcz103_2⟩:=cC3 BK361.out
         obtain⟨hfz103_0,hfz103_1,hfz103_2⟩:=cF3 BK361.out
         have hnb104:=NB347_333.out
         have hnc104:=NB333_347.out
         have hnb105:=NB347_353.out
         have hnc105:=NB353_347.out
         obtain⟨hcz106_0,hcz106_1,hcz106_2⟩:=cC3 BK347.out
         obtain⟨hfz106_0,hfz106_1,hfz106_2⟩:=cF3 BK347.out
         go_wp2_with (first|(go_at_call 19;(with_reducible refine(laws_eqTurns.calls kj11 t354 _ _ t355 t358 t340 _ _ t341 t344 false _ ?side1 ?side2 ?side3 ?side4 A81.out).mono ?_);(case side1=>repeat (first|exact(Kd.S_reads' HO_362001.out).2.2|(with_reducible refine Kd.C_alloc ?_ _)|(with_reducible refine Kd.C_drewN ?_ _)|(with_reducible refine Kd.C_drew ?_)));(case side2=>exact(Kd.S_reads' HO_362001.out).2.1);(case side3=>repeat (first|exact(Kd.S_reads' HO_348001.out).2.2|(with_reducible refine Kd.C_alloc ?_ _)|(with_reducible refine Kd.C_drewN ?_ _)|(with_reducible refine Kd.C_drew ?_)));(case side4=>exact(Kd.S_reads' HO_348001.out).2.1);rintro e w107 ⟨rfl,hb⟩;have n0_:=Aside0.mk (Kd.S_below (by(with_reducible repeat (first|apply Kd.S_alloc|apply Kd.S_drewN|apply Kd.S_drew));exact HO_348001.out) hb);have n1_:=Aside0.mk (Kd.S_below (by(with_reducible repeat (first|apply Kd.S_alloc|apply Kd.S_drewN|apply Kd.S_drew));exact HO_354001.out) hb);have n2_:=Aside0.mk (Kd.S_below (by(with_reducible repeat (first|apply Kd.S_alloc|apply Kd.S_drewN|apply Kd.S_drew));exact HO_362001.out) hb);have n3_:=Aside0.mk (Kd.S_below (by(with_reducible repeat (first|apply Kd.S_alloc|apply Kd.S_drewN|apply Kd.S_drew));exact HO366.out) hb);have n4_:=Aside0.mk (bM BK333.out hb);have n5_:=Aside0.mk (bM BK347.out hb);have n6_:=Aside0.mk (bM BK353.out hb);have n7_:=Aside0.mk (bM BK361.out hb);have n8_:=Aside0.mk (below_step (bS4 GE333.out GE347.out GE353.out GE361.out) hb);clear HO_348001 HO_354001 HO_362001 HO366 BK333 BK347 BK353 BK361 HB;have HO_348001:=n0_;have HO_354001:=n1_;have HO_362001:=n2_;have HO366:=n3_;have BK333:=n4_;have BK347:=n5_;have BK353:=n6_;have BK361:=n7_;have HB:=n8_;clear n0_ n1_ n2_ n3_ n4_ n5_ n6_ n7_ n8_;(try clear hb);(try clear hb2);(try clear hk);(try clear hi)))
         go_meet
         case rel=>exact⟨_,(true),(bR),H',⟨by have:=HJ11.out;first|omega|exact Nat.le_refl _⟩,⟨by(with_reducible repeat (first|apply Kd.S_alloc|apply Kd.S_drewN|apply Kd.S_drew));exact Kd.S_mono HO_348001.out (fun _ hk=>⟨hk.1,hk.2.1⟩)⟩,⟨by(with_reducible repeat (first|apply Kd.S_alloc|apply Kd.S_drewN|apply Kd.S_drew));exact Kd.S_mono HO_354001.out (fun _ hk=>⟨hk.1.1,hk.1.2⟩)⟩,⟨by(with_reducible repeat (first|apply Kd.S_alloc|apply Kd.S_drewN|apply Kd.S_drew));exact Kd.S_mono HO_362001.out (fun _ hk=>⟨hk.1,hk.2.1⟩)⟩,⟨by(with_reducible repeat (first|refine blk_drewN ?_ _|refine blk_drew ?_|refine blk_alloc ?_ _));exact BK333.out⟩,⟨by(with_reducible repeat (first|refine blk_drewN ?_ _|refine blk_drew ?_|refine blk_alloc ?_ _));exact BK347.out⟩,⟨by(with_reducible repeat (first|refine blk_drewN ?_ _|refine blk_drew ?_|refine blk_alloc ?_ _));exact BK353.out⟩,⟨by(with_reducible repeat (first|refine blk_drewN ?_ _|refine blk_drew ?_|refine blk_alloc ?_ _));exact BK361.out⟩,⟨bS4 GE333.out GE347.out GE353.out GE361.out⟩⟩
      case rest =>
       clear HC70
       try clear c1
       try clear c2
       try clear p2
       try clear c3
       try clear c4
       try clear c4b0
       try clear c5
       try clear c6
       try clear c7
       try clear c8
       try clear c9
       try clear c10
       try clear c15
       try clear c17
       try clear c19
       try clear c20
       try clear c21
       try clear c27
       try clear c28
       try clear c33
       try clear c34
       try clear c35
       try clear c39
       try clear c40
       try clear c40b0
       try clear c40b1
       try clear c41
       try clear c42
       try clear c43
       try clear c45
       try clear c46
       try clear c49
       try clear c50
       try clear c51
       try clear c53
       try clear c54
       try clear c55
       try clear c56
       try clear c57
       try clear c58
       try clear c59
       try clear c61
       try clear c62
       try clear c65
       try clear c68
       try clear c75
       try clear c76
       try clear c77
       try clear c80
       try clear c80b0
       try clear c82
       try clear c83
       try clear c83b0
       try clear c83b1
       try clear c84
       try clear c85
       try clear c86
       try clear c88
       try clear c89
       try clear c92
       try clear c93
       try clear c94
       try clear c96
       try clear c97
       try clear c100
       try clear c101
       try clear c102
       try clear c104
       try clear c105
       try clear hcz103_0 hcz103_1 hcz103_2
       try clear hcz106_0 hcz106_1 hcz106_2
       try clear hcz14_0 hcz14_1 hcz14_2
       try clear hcz16_0 hcz16_1 hcz16_2
       try clear hcz22_0 hcz22_1 hcz22_2
       try clear hcz24_0 hcz24_1 hcz24_2
       try clear hcz29_0 hcz29_1 hcz29_2
       try clear hcz36_0 hcz36_1 hcz36_2
       try clear hcz44_0 hcz44_1 hcz44_2
       try clear hcz47_0 hcz47_1 hcz47_2
       try clear hcz52_0 hcz52_1 hcz52_2
       try clear hcz55_0 hcz55_1 hcz55_2
       try clear hcz60_0 hcz60_1 hcz60_2
       try clear hcz63_0 hcz63_1 hcz63_2
       try clear hcz6_0 hcz6_1 hcz6_2
       try clear hcz78_0 hcz78_1 hcz78_2
       try clear hcz87_0 hcz87_1 hcz87_2
       try clear hcz90_0 hcz90_1 hcz90_2
       try clear hcz95_0 hcz95_1 hcz95_2
       try clear hcz98_0 hcz98_1 hcz98_2
       try clear hfz103_0 hfz103_1 hfz103_2
       try clear hfz106_0 hfz106_1 hfz106_2
       try clear hfz14_0 hfz14_1 hfz14_2
       try clear hfz16_0 hfz16_1 hfz16_2
       try clear hfz22_0 hfz22_1 hfz22_2
       try clear hfz24_0 hfz24_1 hfz24_2
       try clear hfz29_0 hfz29_1 hfz29_2
       try clear hfz36_0 hfz36_1 hfz36_2
       try clear hfz44_0 hfz44_1 hfz44_2
       try clear hfz47_0 hfz47_1 hfz47_2
       try clear hfz52_0 hfz52_1 hfz52_2
       try clear hfz55_0 hfz55_1 hfz55_2
       try clear hfz60_0 hfz60_1 hfz60_2
       try clear hfz63_0 hfz63_1 hfz63_2
       try clear hfz6_0 hfz6_1 hfz6_2
       try clear hfz78_0 hfz78_1 hfz78_2
       try clear hfz87_0 hfz87_1 hfz87_2
       try clear hfz90_0 hfz90_1 hfz90_2
       try clear hfz95_0 hfz95_1 hfz95_2
       try clear hfz98_0 hfz98_1 hfz98_2
       try clear p2
       obtain⟨kq,x80_69,rfl,HA,HJ69,HO_348001,HO_354001,HO_362001,BK333,BK347,BK353,BK361,HB⟩:=hcut
       have hl354001_69:=(Kd.S_reads' HO_354001.out).1
       rw[hl354001_69] at HO_354001
       (try simp only[hl354001_69])
       (try simp only[hl354001_69] at BK333)
       (try simp only[hl354001_69] at BK347)
       (try simp only[hl354001_69] at BK353)
       (try simp only[hl354001_69] at BK361)
       (try simp only[hl354001_69] at HO_348001)
       (try simp only[hl354001_69] at HO_362001)
       cases kq with
       | zero=>exact absurd HA.out (by simp[laws_FnExactRunRounds.j1])
       | succ kj69 =>
        have H:=HA.out
        clear HA
        simp only[laws_FnExactRunRounds.j1] at H
        by_cases c108:x80_69=true
        ·subst c108
         have H1:(some false)=some r:=by rw[if_pos rfl] at H;exact H
         clear H
         have H:=H1
         clear H1
         obtain rfl:=Option.some.inj H
         go_wp2
         go_ret
         exact⟨bE,bS4 GE333.out GE347.out GE353.out GE361.out⟩
        ·replace c108:=Bool.eq_false_iff.mpr c108
         subst c108
         have H1:((laws_markTurns.f kj69 t354 t355 t358 1).bind fun bt372=>((laws_heldTurns.f kj69 t354 bt372.2 t358 1).bind fun t374=>(if t374 < 0 then (some false) else (if t374=bt372.1 then ((laws_toTurns.f kj69 a0_0 l0_1 a0_2).bind fun bt375=>((impl_RunRounds.f kj69 bt375.1 bt375.2.1 bt375.2.2 a1).bind fun bt380=>((laws_eqTurns.f kj69 bt380.1 bt380.2.1 bt380.2.2.1 t340 t341 t344).bind fun t388=>(if t388=true then (if bt380.2.2.2.1=t345 then (laws_FnExactRunRounds.j2 kj69 bt372.1 (bt380.2.2.2.2 != t346) t354 bt372.2 t358) else (laws_FnExactRunRounds.j2 kj69 bt372.1 true t354 bt372.2 t358)) else (laws_FnExactRunRounds.j2 kj69 bt372.1 true t354 bt372.2 t358))))) else (some false)))))=some r:=by rw[if_neg (show ¬ (false=true) by decide)] at H;exact H
         clear H
         have H:=H1
         clear H1
         replace H:=Option.bind_eq_some_iff.mp H
         obtain⟨⟨t372,t373⟩,A1090,H⟩:=H
         have A109:=Aside0.mk A1090
         clear A1090
         replace H:=Option.bind_eq_some_iff.mp H
         obtain⟨t374,A1100,H⟩:=H
         have A110:=Aside0.mk A1100
         clear A1100
         by_cases c111:t374 < 0
         ·rw[if_pos c111] at H
          have c111b0:decide (t374 < 0)=true:=decide_eq_true c111
          clear c111
          obtain rfl:=Option.some.inj H
          have hnb112:=NB361_333.out
          have hnc112:=NB333_361.out
          have hnb113:=NB361_347.out
          have hnc113:=NB347_361.out
          have hnb114:=NB361_353.out
          have hnc114:=NB353_361.out
          obtain⟨hcz115_0,hcz115_1,hcz115_2⟩:=cC3 BK361.out
          obtain⟨hfz115_0,hfz115_1,hfz115_2⟩:=cF3 BK361.out
          go_wp2_with (first|((with_reducible refine gate_callee (f:=20) rfl ?_);refine goesA (some 83) rfl rfl Try.func20 #[.agg #[.int .i64 t354,.slice Ao37 t355.length co37,.int .i64 t358],.int .i64 1] rfl ?_;obtain⟨P0_,hPS_,hPO_,hPB_⟩:=markable_ HO_362001.out;(with_reducible refine(laws_markTurns.calls kj69 t354 P0_ (.slice Ao37 t355.length co37) t355 t358 1 t372 t373 w _ ?side1 ?side2 A109.out).mono ?_);(case side1=>repeat (first|(with_reducible first|exact HB.out|apply below_alloc|apply pw_below_drewN|apply below_drew1|refine below_set ?_ GE333.out|refine below_set ?_ GE347.out|refine below_set ?_ GE353.out|refine below_set ?_ GE361.out)|exact HB.out));(case side2=>exact hPS_);rintro e w116 ⟨rfl,hy0,hb,hkp⟩;refine⟨_,rfl,?_⟩;have n0_:=Aside0.mk (Kd.S_mono (ok':=fun k_=>k_ < N350_∧k_ < N356_) (Kd.S_keptB (HO_348001.out) hkp (fun k_ hk_ hs_=>by have h1_:=hPO_ k_ hs_;(try dsimp only at h1_ hk_);omega)) (fun k_ hk_=>⟨hk_.1.1,hk_.1.2⟩));have n1_:=Aside0.mk (Kd.S_mono (ok':=fun k_=>N350_≤k_∧k_ < N356_) (Kd.S_keptB (HO_354001.out) hkp (fun k_ hk_ hs_=>by have h1_:=hPO_ k_ hs_;(try dsimp only at h1_ hk_);omega)) (fun k_ hk_=>⟨hk_.1.1,hk_.1.2⟩));have n2_:=Aside0.mk (Kd.S_mono hy0 (fun k_ h_=>hPO_ k_ h_));have n3_:=Aside0.mk (blk_kept (bL BK333.out) hkp (hPB_ _ _ _ BK333.out (by decide)));have n4_:=Aside0.mk (blk_kept (bL BK347.out) hkp (hPB_ _ _ _ BK347.out (by decide)));have n5_:=Aside0.mk (blk_kept (bL BK353.out) hkp (hPB_ _ _ _ BK353.out (by decide)));have n6_:=Aside0.mk (blk_kept (bL BK361.out) hkp (hPB_ _ _ _ BK361.out (by decide)));have n7_:=Aside0.mk (hb);clear HO_348001 HO_354001 HO_362001 BK333 BK347 BK353 BK361 HB;have HO_348001:=n0_;have HO_354001:=n1_;have HO_362001:=n2_;have BK333:=n3_;have BK347:=n4_;have BK353:=n5_;have BK361:=n6_;have HB:=n7_;clear n0_ n1_ n2_ n3_ n4_ n5_ n6_ n7_;(try clear hb);(try clear hkp);(try clear hy0);obtain⟨hcz117_0,hcz117_1,hcz117_2⟩:=cC3 BK361.out;obtain⟨hfz117_0,hfz117_1,hfz117_2⟩:=cF3 BK361.out)|((with_reducible refine gate_callee (f:=21) rfl ?_);refine goesL_ (some 86) rfl rfl Try.func21 (by kernel_rfl) rfl #[.agg #[.int .i64 t354,.slice Ao37 t373.length co37,.int .i64 t358],.int .i64 1] rfl (by(try simp only[List.map_toArray,List.map_cons,List.map_nil]);first|done|(rw[show t373.length=t355.length from (Kd.S_reads' HO_362001.out).1.symm]<;>rfl)|rfl|(simp only[List.length_drop,List.length_take];rfl)) ?_;(with_reducible refine(laws_heldTurns.calls kj69 t354 _ _ t373 t358 1 t374 _ ?side1 ?side2 A110.out).mono ?_);(case side1=>repeat (first|exact(Kd.S_reads' HO_362001.out).2.2|(with_reducible refine Kd.C_alloc ?_ _)|(with_reducible refine Kd.C_drewN ?_ _)|(with_reducible refine Kd.C_drew ?_)));(case side2=>rw[show t373.length=t355.length from (Kd.S_reads' HO_362001.out).1.symm];exact(Kd.S_reads' HO_362001.out).2.1);rintro e w118 ⟨rfl,hb⟩;refine⟨_,rfl,?_⟩;have n0_:=Aside0.mk (Kd.S_below (by(with_reducible repeat (first|apply Kd.S_alloc|apply Kd.S_drewN|apply Kd.S_drew));exact HO_348001.out) hb);have n1_:=Aside0.mk (Kd.S_below (by(with_reducible repeat (first|apply Kd.S_alloc|apply Kd.S_drewN|apply Kd.S_drew));exact HO_354001.out) hb);have n2_:=Aside0.mk (Kd.S_below (by(with_reducible repeat (first|apply Kd.S_alloc|apply Kd.S_drewN|apply Kd.S_drew));exact HO_362001.out) hb);have n3_:=Aside0.mk (bM BK333.out hb);have n4_:=Aside0.mk (bM BK347.out hb);have n5_:=Aside0.mk (bM BK353.out hb);have n6_:=Aside0.mk (bM BK361.out hb);have n7_:=Aside0.mk (below_step (bS4 GE333.out GE347.out GE353.out GE361.out) hb);clear HO_348001 HO_354001 HO_362001 BK333 BK347 BK353 BK361 HB;have HO_348001:=n0_;have HO_354001:=n1_;have HO_362001:=n2_;have BK333:=n3_;have BK347:=n4_;have BK353:=n5_;have BK361:=n6_;have HB:=n7_;clear n0_ n1_ n2_ n3_ n4_ n5_ n6_ n7_;(try clear hb);(try clear hb2);(try clear hk);(try clear hi)))
          go_ret
          exact⟨bE,bS4 GE333.out GE347.out GE353.out GE361.out⟩
         ·rw[if_neg c111] at H
          have c111b0:decide (t374 < 0)=false:=decide_eq_false c111
          clear c111
          by_cases c119:t374=t372
          ·rw[if_pos c119] at H
           have c119b0:(t374 == t372)=true:=beq_iff_eq.mpr c119
           have c119b1:(t374 != t372)=false:=bne_eq_false_iff_eq.mpr c119
           clear c119
           replace H:=Option.bind_eq_some_iff.mp H
           obtain⟨⟨t375,t376,t379⟩,A1200,H⟩:=H
           have A120:=Aside0.mk A1200
           clear A1200
           replace H:=Option.bind_eq_some_iff.mp H
           obtain⟨⟨t380,t381,t384,t385,t386⟩,A1210,H⟩:=H
           have A121:=Aside0.mk A1210
           clear A1210
           have HC122:=Aside0.mk H
           clear H
           have hnb123:=NB361_333.out
           have hnc123:=NB333_361.out
           have hnb124:=NB361_347.out
           have hnc124:=NB347_361.out
           have hnb125:=NB361_353.out
           have hnc125:=NB353_361.out
           obtain⟨hcz126_0,hcz126_1,hcz126_2⟩:=cC3 BK361.out
           obtain⟨hfz126_0,hfz126_1,hfz126_2⟩:=cF3 BK361.out
           go_upto_region 25 with (first|((with_reducible refine gate_callee (f:=20) rfl ?_);refine goesA (some 83) rfl rfl Try.func20 #[.agg #[.int .i64 t354,.slice Ao37 t355.length co37,.int .i64 t358],.int .i64 1] rfl ?_;obtain⟨P0_,hPS_,hPO_,hPB_⟩:=markable_ HO_362001.out;(with_reducible refine(laws_markTurns.calls kj69 t354 P0_ (.slice Ao37 t355.length co37) t355 t358 1 t372 t373 w _ ?side1 ?side2 A109.out).mono ?_);(case side1=>repeat (first|(with_reducible first|exact HB.out|apply below_alloc|apply pw_below_drewN|apply below_drew1|refine below_set ?_ GE333.out|refine below_set ?_ GE347.out|refine below_set ?_ GE353.out|refine below_set ?_ GE361.out)|exact HB.out));(case side2=>exact hPS_);rintro e w127 ⟨rfl,hy0,hb,hkp⟩;refine⟨_,rfl,?_⟩;have n0_:=Aside0.mk (Kd.S_mono (ok':=fun k_=>k_ < N350_∧k_ < N356_) (Kd.S_keptB (HO_348001.out) hkp (fun k_ hk_ hs_=>by have h1_:=hPO_ k_ hs_;(try dsimp only at h1_ hk_);omega)) (fun k_ hk_=>⟨hk_.1.1,hk_.1.2⟩));have n1_:=Aside0.mk (Kd.S_mono (ok':=fun k_=>N350_≤k_∧k_ < N356_) (Kd.S_keptB (HO_354001.out) hkp (fun k_ hk_ hs_=>by have h1_:=hPO_ k_ hs_;(try dsimp only at h1_ hk_);omega)) (fun k_ hk_=>⟨hk_.1.1,hk_.1.2⟩));have n2_:=Aside0.mk (Kd.S_mono hy0 (fun k_ h_=>hPO_ k_ h_));have n3_:=Aside0.mk (blk_kept (bL BK333.out) hkp (hPB_ _ _ _ BK333.out (by decide)));have n4_:=Aside0.mk (blk_kept (bL BK347.out) hkp (hPB_ _ _ _ BK347.out (by decide)));have n5_:=Aside0.mk (blk_kept (bL BK353.out) hkp (hPB_ _ _ _ BK353.out (by decide)));have n6_:=Aside0.mk (blk_kept (bL BK361.out) hkp (hPB_ _ _ _ BK361.out (by decide)));have n7_:=Aside0.mk (hb);clear HO_348001 HO_354001 HO_362001 BK333 BK347 BK353 BK361 HB;have HO_348001:=n0_;have HO_354001:=n1_;have HO_362001:=n2_;have BK333:=n3_;have BK347:=n4_;have BK353:=n5_;have BK361:=n6_;have HB:=n7_;clear n0_ n1_ n2_ n3_ n4_ n5_ n6_ n7_;(try clear hb);(try clear hkp);(try clear hy0);obtain⟨hcz128_0,hcz128_1,hcz128_2⟩:=cC3 BK361.out;obtain⟨hfz128_0,hfz128_1,hfz128_2⟩:=cF3 BK361.out)|((with_reducible refine gate_callee (f:=21) rfl ?_);refine goesL_ (some 86) rfl rfl Try.func21 (by kernel_rfl) rfl #[.agg #[.int .i64 t354,.slice Ao37 t373.length co37,.int .i64 t358],.int .i64 1] rfl (by(try simp only[List.map_toArray,List.map_cons,List.map_nil]);first|done|(rw[show t373.length=t355.length from (Kd.S_reads' HO_362001.out).1.symm]<;>rfl)|rfl|(simp only[List.length_drop,List.length_take];rfl)) ?_;(with_reducible refine(laws_heldTurns.calls kj69 t354 _ _ t373 t358 1 t374 _ ?side1 ?side2 A110.out).mono ?_);(case side1=>repeat (first|exact(Kd.S_reads' HO_362001.out).2.2|(with_reducible refine Kd.C_alloc ?_ _)|(with_reducible refine Kd.C_drewN ?_ _)|(with_reducible refine Kd.C_drew ?_)));(case side2=>rw[show t373.length=t355.length from (Kd.S_reads' HO_362001.out).1.symm];exact(Kd.S_reads' HO_362001.out).2.1);rintro e w129 ⟨rfl,hb⟩;refine⟨_,rfl,?_⟩;have n0_:=Aside0.mk (Kd.S_below (by(with_reducible repeat (first|apply Kd.S_alloc|apply Kd.S_drewN|apply Kd.S_drew));exact HO_348001.out) hb);have n1_:=Aside0.mk (Kd.S_below (by(with_reducible repeat (first|apply Kd.S_alloc|apply Kd.S_drewN|apply Kd.S_drew));exact HO_354001.out) hb);have n2_:=Aside0.mk (Kd.S_below (by(with_reducible repeat (first|apply Kd.S_alloc|apply Kd.S_drewN|apply Kd.S_drew));exact HO_362001.out) hb);have n3_:=Aside0.mk (bM BK333.out hb);have n4_:=Aside0.mk (bM BK347.out hb);have n5_:=Aside0.mk (bM BK353.out hb);have n6_:=Aside0.mk (bM BK361.out hb);have n7_:=Aside0.mk (below_step (bS4 GE333.out GE347.out GE353.out GE361.out) hb);clear HO_348001 HO_354001 HO_362001 BK333 BK347 BK353 BK361 HB;have HO_348001:=n0_;have HO_354001:=n1_;have HO_362001:=n2_;have BK333:=n3_;have BK347:=n4_;have BK353:=n5_;have BK361:=n6_;have HB:=n7_;clear n0_ n1_ n2_ n3_ n4_ n5_ n6_ n7_;(try clear hb);(try clear hb2);(try clear hk);(try clear hi);have hnb130:=NB333_347.out;have hnc130:=NB347_333.out;have hnb131:=NB333_353.out;have hnc131:=NB353_333.out;obtain⟨hcz132_0,hcz132_1,hcz132_2⟩:=cC3 BK333.out;obtain⟨hfz132_0,hfz132_1,hfz132_2⟩:=cF3 BK333.out)|((with_reducible refine gate_callee (f:=17) rfl ?_);refine goesA (some 94) rfl rfl Try.func17 #[.agg #[.int .i64 a0_0,.slice A0_1 l0_1.length c0_1,.int .i64 a0_2]] rfl ?_;(with_reducible refine(laws_toTurns.calls kj69 a0_0 _ _ l0_1 a0_2 t375 t376 t379 _ ?side1 ?side2 A120.out).mono ?_);(case side1=>exact bC HR0_1.out);(case side2=>exact HC0_1.out);rintro e w133 ⟨v377,rfl,ho0,hb⟩;refine⟨_,rfl,?_⟩;obtain⟨N377_,hN_⟩:=sizeof_ hb;have n0_:=Aside0.mk (S_oldN (by(with_reducible repeat (first|apply Kd.S_alloc|apply Kd.S_drewN|apply Kd.S_drew));exact HO_348001.out) hb hN_);have n1_:=Aside0.mk (S_oldN (by(with_reducible repeat (first|apply Kd.S_alloc|apply Kd.S_drewN|apply Kd.S_drew));exact HO_354001.out) hb hN_);have n2_:=Aside0.mk (S_oldN (by(with_reducible repeat (first|apply Kd.S_alloc|apply Kd.S_drewN|apply Kd.S_drew));exact HO_362001.out) hb hN_);have n3_:=Aside0.mk (Kd.S_lower (S_newN (S_newN (S_newN ho0 hN_) hN_) hN_) (below_size (bS4 GE333.out GE347.out GE353.out GE361.out)));have n4_:=Aside0.mk (bM BK333.out hb);have n5_:=Aside0.mk (bM BK347.out hb);have n6_:=Aside0.mk (bM BK353.out hb);have n7_:=Aside0.mk (bM BK361.out hb);have n8_:=Aside0.mk (below_step (bS4 GE333.out GE347.out GE353.out GE361.out) hb);clear HO_348001 HO_354001 HO_362001 BK333 BK347 BK353 BK361 HB;have HO_348001:=n0_;have HO_354001:=n1_;have HO_362001:=n2_;have HO378:=n3_;have BK333:=n4_;have BK347:=n5_;have BK353:=n6_;have BK361:=n7_;have HB:=n8_;clear n0_ n1_ n2_ n3_ n4_ n5_ n6_ n7_ n8_;(try clear hb);(try clear hb2);(try clear hk);(try clear hi);(try clear ho0);obtain⟨Ao134,co134,eo134⟩:=Kd.S_slice HO378.out;subst eo134)|((with_reducible refine gate_callee (f:=56) rfl ?_);refine goesA (some 96) rfl rfl Try.func56 #[.agg #[.int .i64 t375,.slice Ao134 t376.length co134,.int .i64 t379],.int .i64 a1] rfl ?_;(with_reducible refine(impl_RunRounds.calls kj69 t375 _ _ t376 t379 a1 t380 t381 t384 t385 t386 _ ?side1 ?side2 A121.out).mono ?_);(case side1=>repeat (first|exact(Kd.S_reads' HO378.out).2.2|(with_reducible refine Kd.C_alloc ?_ _)|(with_reducible refine Kd.C_drewN ?_ _)|(with_reducible refine Kd.C_drew ?_)));(case side2=>exact(Kd.S_reads' HO378.out).2.1);rintro e w135 ⟨v382,rfl,ho0,hb⟩;refine⟨_,rfl,?_⟩;obtain⟨N382_,hN_⟩:=sizeof_ hb;have n0_:=Aside0.mk (S_oldN (by(with_reducible repeat (first|apply Kd.S_alloc|apply Kd.S_drewN|apply Kd.S_drew));exact HO_348001.out) hb hN_);have n1_:=Aside0.mk (S_oldN (by(with_reducible repeat (first|apply Kd.S_alloc|apply Kd.S_drewN|apply Kd.S_drew));exact HO_354001.out) hb hN_);have n2_:=Aside0.mk (S_oldN (by(with_reducible repeat (first|apply Kd.S_alloc|apply Kd.S_drewN|apply Kd.S_drew));exact HO_362001.out) hb hN_);have n3_:=Aside0.mk (S_oldN (by(with_reducible repeat (first|apply Kd.S_alloc|apply Kd.S_drewN|apply Kd.S_drew));exact HO378.out) hb hN_);have n4_:=Aside0.mk (Kd.S_lower (S_newN (S_newN (S_newN (S_newN ho0 hN_) hN_) hN_) hN_) (below_size (bS4 GE333.out GE347.out GE353.out GE361.out)));have n5_:=Aside0.mk (bM BK333.out hb);have n6_:=Aside0.mk (bM BK347.out hb);have n7_:=Aside0.mk (bM BK353.out hb);have n8_:=Aside0.mk (bM BK361.out hb);have n9_:=Aside0.mk (below_step (bS4 GE333.out GE347.out GE353.out GE361.out) hb);clear HO_348001 HO_354001 HO_362001 HO378 BK333 BK347 BK353 BK361 HB;have HO_348001:=n0_;have HO_354001:=n1_;have HO_362001:=n2_;have HO378:=n3_;have HO383:=n4_;have BK333:=n5_;have BK347:=n6_;have BK353:=n7_;have BK361:=n8_;have HB:=n9_;clear n0_ n1_ n2_ n3_ n4_ n5_ n6_ n7_ n8_ n9_;(try clear hb);(try clear hb2);(try clear hk);(try clear hi);(try clear ho0))|((with_reducible refine gate_dst (N:=16) rfl ?_);refine box_event ?hg (N:=16) ?hd (cs:=#[.int .i64 0,.slice none 0 0,.int .i64 0]) (t:=28) ?hr ?_;(case hd=>rfl);(case hg=>rfl);(case hr=>first|(go_simp;done)|(go_simp;rfl));intro gb387 hg w136 hbox hb;have n0_:=Aside0.mk (Kd.S_below (by(with_reducible repeat (first|apply Kd.S_alloc|apply Kd.S_drewN|apply Kd.S_drew));exact HO_348001.out) hb);have n1_:=Aside0.mk (Kd.S_below (by(with_reducible repeat (first|apply Kd.S_alloc|apply Kd.S_drewN|apply Kd.S_drew));exact HO_354001.out) hb);have n2_:=Aside0.mk (Kd.S_below (by(with_reducible repeat (first|apply Kd.S_alloc|apply Kd.S_drewN|apply Kd.S_drew));exact HO_362001.out) hb);have n3_:=Aside0.mk (Kd.S_below (by(with_reducible repeat (first|apply Kd.S_alloc|apply Kd.S_drewN|apply Kd.S_drew));exact HO378.out) hb);have n4_:=Aside0.mk (Kd.S_below (by(with_reducible repeat (first|apply Kd.S_alloc|apply Kd.S_drewN|apply Kd.S_drew));exact HO383.out) hb);have n5_:=Aside0.mk (bM BK333.out hb);have n6_:=Aside0.mk (bM BK347.out hb);have n7_:=Aside0.mk (bM BK353.out hb);have n8_:=Aside0.mk (bM BK361.out hb);have n9_:=Aside0.mk (below_step (bS4 GE333.out GE347.out GE353.out GE361.out) hb);have n10_:=Aside0.mk (hbox);have n11_:=Aside0.mk ((by rw[hg];exact(below_size (bS4 GE333.out GE347.out GE353.out GE361.out)):w.heap.size≤gb387));have n12_:=Aside0.mk ((by rw[hg];exact(below_size (bS4 GE333.out GE347.out GE353.out GE361.out)):w.heap.size≤gb387));have n13_:=Aside0.mk ((bN BK333.out hg:gb333≠gb387));have n14_:=Aside0.mk ((bO BK333.out hg:gb387≠gb333));have n15_:=Aside0.mk ((bN BK347.out hg:gb347≠gb387));have n16_:=Aside0.mk ((bO BK347.out hg:gb387≠gb347));have n17_:=Aside0.mk ((bN BK353.out hg:gb353≠gb387));have n18_:=Aside0.mk ((bO BK353.out hg:gb387≠gb353));have n19_:=Aside0.mk ((bN BK361.out hg:gb361≠gb387));have n20_:=Aside0.mk ((bO BK361.out hg:gb387≠gb361));clear HO_348001 HO_354001 HO_362001 HO378 HO383 BK333 BK347 BK353 BK361 HB;have HO_348001:=n0_;have HO_354001:=n1_;have HO_362001:=n2_;have HO378:=n3_;have HO383:=n4_;have BK333:=n5_;have BK347:=n6_;have BK353:=n7_;have BK361:=n8_;have HB:=n9_;have BK387:=n10_;have GW387:=n11_;have GE387:=n12_;have NB333_387:=n13_;have NB387_333:=n14_;have NB347_387:=n15_;have NB387_347:=n16_;have NB353_387:=n17_;have NB387_353:=n18_;have NB361_387:=n19_;have NB387_361:=n20_;clear n0_ n1_ n2_ n3_ n4_ n5_ n6_ n7_ n8_ n9_ n10_ n11_ n12_ n13_ n14_ n15_ n16_ n17_ n18_ n19_ n20_;clear hb hbox hg;have hnb137:=NB387_333.out;have hnc137:=NB333_387.out;have hnb138:=NB387_347.out;have hnc138:=NB347_387.out;have hnb139:=NB387_353.out;have hnc139:=NB353_387.out;have hnb140:=NB387_361.out;have hnc140:=NB361_387.out;obtain⟨hcz141_0,hcz141_1,hcz141_2⟩:=cC3 BK387.out;obtain⟨hfz141_0,hfz141_1,hfz141_2⟩:=cF3 BK387.out;obtain⟨Ao142,co142,eo142⟩:=Kd.S_slice HO383.out;subst eo142))
           (try simp only[Act.put,List.setIfInBounds_toArray,List.set_cons_zero,List.set_cons_succ])
           go_cut [113] (fun v113 wc => ∃ (kq:Nat) (x113_121:Bool),v113=.bool x113_121∧Aside0 (laws_FnExactRunRounds.j2 kq t372 x113_121 t354 t373 t358=some r)∧Aside0 (kq≤kj69)∧Aside0 (Kd.S k116 116 wc w.heap.size (fun k_=>k_ < N350_∧k_ < N356_∧k_ < N382_) (.slice Ao23 t341.length co23) t341)∧Aside0 (Kd.S k116 116 wc w.heap.size (fun k_=>N350_≤k_∧k_ < N356_∧k_ < N382_) (.slice Ao30 t370.length co30) t370)∧Aside0 (Kd.S k116 116 wc w.heap.size (fun k_=>N356_≤k_∧N356_≤k_∧k_ < N382_) (.slice Ao37 t355.length co37) t373)∧Aside0 (Kd.S k116 116 wc w.heap.size (fun k_=>N382_≤k_∧N382_≤k_∧N382_≤k_) (.slice Ao142 t381.length co142) t381)∧Aside0 (wc.heap[gb333]?=some (.cells #[.int .i64 a0_0,(.slice A0_1 l0_1.length c0_1),.int .i64 a0_2] 24 (0,0)))∧Aside0 (wc.heap[gb347]?=some (.cells #[.int .i64 t340,(.slice Ao23 t341.length co23),.int .i64 t344] 28 (0,0)))∧Aside0 (wc.heap[gb353]?=some (.cells #[.int .i64 t348,(.slice Ao30 t370.length co30),.int .i64 t352] 28 (0,0)))∧Aside0 (wc.heap[gb361]?=some (.cells #[.int .i64 t354,(.slice Ao37 t355.length co37),.int .i64 t358] 28 (0,0)))∧Aside0 (wc.heap[gb387]?=some (.cells #[.int .i64 t380,(.slice Ao142 t381.length co142),.int .i64 t384] 28 (0,0)))∧Aside0 (Below w.heap.size w wc))
           case first =>
            have H:=HC122.out
            clear HC122
            replace H:=Option.bind_eq_some_iff.mp H
            obtain⟨t388,A1430,H⟩:=H
            have A143:=Aside0.mk A1430
            clear A1430
            by_cases c144:t388=true
            ·subst c144
             have H1:(if t385=t345 then (laws_FnExactRunRounds.j2 kj69 t372 (t386 != t346) t354 t373 t358) else (laws_FnExactRunRounds.j2 kj69 t372 true t354 t373 t358))=some r:=by rw[if_pos rfl] at H;exact H
             clear H
             have H:=H1
             clear H1
             by_cases c145:t385=t345
             ·rw[if_pos c145] at H
              have c145b0:(t385 == t345)=true:=beq_iff_eq.mpr c145
              have c145b1:(t385 != t345)=false:=bne_eq_false_iff_eq.mpr c145
              clear c145
              (first|rw[c145b0]|(simp only[i64_w,i32_w];rw[c145b0])|skip)
              have H':=Aside0.mk H
              clear H
              have hnb146:=NB387_333.out
              have hnc146:=NB333_387.out
              have hnb147:=NB387_347.out
              have hnc147:=NB347_387.out
              have hnb148:=NB387_353.out
              have hnc148:=NB353_387.out
              have hnb149:=NB387_361.out
              have hnc149:=NB361_387.out
              obtain⟨hcz150_0,hcz150_1,hcz150_2⟩:=cC3 BK387.out
              obtain⟨hfz150_0,hfz150_1,hfz150_2⟩:=cF3 BK387.out
              have hnb151:=NB347_333.out
              have hnc151:=NB333_347.out
              have hnb152:=NB347_353.out
              have hnc152:=NB353_347.out
              have hnb153:=NB347_361.out
              have hnc153:=NB361_347.out
              obtain⟨hcz154_0,hcz154_1,hcz154_2⟩:=cC3 BK347.out
              obtain⟨hfz154_0,hfz154_1,hfz154_2⟩:=cF3 BK347.out
              go_wp2_with (first|((with_reducible refine gate_callee (f:=19) rfl ?_);refine goesA (some 102) rfl rfl Try.func19 #[.agg #[.int .i64 t380,.slice Ao142 t381.length co142,.int .i64 t384],.agg #[.int .i64 t340,.slice Ao23 t341.length co23,.int .i64 t344]] rfl ?_;(with_reducible refine(laws_eqTurns.calls kj69 t380 _ _ t381 t384 t340 _ _ t341 t344 true _ ?side1 ?side2 ?side3 ?side4 A143.out).mono ?_);(case side1=>refine(Kd.S_reads' (e:=116) (base:=w.heap.size) (ok:=fun k_=>((((True∧N382_≤k_)∧N382_≤k_)∧N382_≤k_)∧N382_≤k_)) (n:=t381.length) (c:=co142) ?_).2.2;exact(by(with_reducible repeat (first|apply Kd.S_alloc|apply Kd.S_drewN|apply Kd.S_drew));exact(Kd.S_mono (Kd.S_far (p:=⟨gb387,2,none⟩) (Kd.S_far (p:=⟨gb387,1,none⟩) (Kd.S_far (p:=⟨gb387,0,none⟩) (Kd.S_types HO383.out BK387.out (by decide)) (fun _ hk=>hk.2) (.int .i64 t380)) (fun _ hk=>hk.2) (.slice Ao142 t381.length co142)) (fun _ hk=>hk.2) (.int .i64 t384)) (fun _ h_=>h_.1))));(case side2=>exact(Kd.S_reads' HO383.out).2.1);(case side3=>refine(Kd.S_reads' (e:=116) (base:=w.heap.size) (ok:=fun k_=>(((k_ < N350_∧k_ < N356_)∧k_ < N377_)∧k_ < N382_)) (n:=t341.length) (c:=co23) ?_).2.2;exact(by(with_reducible repeat (first|apply Kd.S_alloc|apply Kd.S_drewN|apply Kd.S_drew));exact(Kd.S_mono (Kd.S_far (p:=⟨gb387,2,none⟩) (Kd.S_far (p:=⟨gb387,1,none⟩) (Kd.S_far (p:=⟨gb387,0,none⟩) (Kd.S_types HO_348001.out BK387.out (by decide)) (fun _ hk=>hk.2) (.int .i64 t380)) (fun _ hk=>hk.2) (.slice Ao142 t381.length co142)) (fun _ hk=>hk.2) (.int .i64 t384)) (fun _ h_=>h_.1))));(case side4=>exact(Kd.S_reads' HO_348001.out).2.1);rintro e w155 ⟨rfl,hb⟩;refine⟨_,rfl,?_⟩;have n0_:=Aside0.mk (Kd.S_below (by(with_reducible repeat (first|apply Kd.S_alloc|apply Kd.S_drewN|apply Kd.S_drew));exact(Kd.S_mono (Kd.S_far (p:=⟨gb387,2,none⟩) (Kd.S_far (p:=⟨gb387,1,none⟩) (Kd.S_far (p:=⟨gb387,0,none⟩) (Kd.S_types HO_348001.out BK387.out (by decide)) (fun _ hk=>hk.2) (.int .i64 t380)) (fun _ hk=>hk.2) (.slice Ao142 t381.length co142)) (fun _ hk=>hk.2) (.int .i64 t384)) (fun _ h_=>h_.1))) hb);have n1_:=Aside0.mk (Kd.S_below (by(with_reducible repeat (first|apply Kd.S_alloc|apply Kd.S_drewN|apply Kd.S_drew));exact(Kd.S_mono (Kd.S_far (p:=⟨gb387,2,none⟩) (Kd.S_far (p:=⟨gb387,1,none⟩) (Kd.S_far (p:=⟨gb387,0,none⟩) (Kd.S_types HO_354001.out BK387.out (by decide)) (fun _ hk=>hk.2) (.int .i64 t380)) (fun _ hk=>hk.2) (.slice Ao142 t381.length co142)) (fun _ hk=>hk.2) (.int .i64 t384)) (fun _ h_=>h_.1))) hb);have n2_:=Aside0.mk (Kd.S_below (by(with_reducible repeat (first|apply Kd.S_alloc|apply Kd.S_drewN|apply Kd.S_drew));exact(Kd.S_mono (Kd.S_far (p:=⟨gb387,2,none⟩) (Kd.S_far (p:=⟨gb387,1,none⟩) (Kd.S_far (p:=⟨gb387,0,none⟩) (Kd.S_types HO_362001.out BK387.out (by decide)) (fun _ hk=>hk.2) (.int .i64 t380)) (fun _ hk=>hk.2) (.slice Ao142 t381.length co142)) (fun _ hk=>hk.2) (.int .i64 t384)) (fun _ h_=>h_.1))) hb);have n3_:=Aside0.mk (Kd.S_below (by(with_reducible repeat (first|apply Kd.S_alloc|apply Kd.S_drewN|apply Kd.S_drew));exact(Kd.S_mono (Kd.S_far (p:=⟨gb387,2,none⟩) (Kd.S_far (p:=⟨gb387,1,none⟩) (Kd.S_far (p:=⟨gb387,0,none⟩) (Kd.S_types HO378.out BK387.out (by decide)) (fun _ hk=>hk.2) (.int .i64 t380)) (fun _ hk=>hk.2) (.slice Ao142 t381.length co142)) (fun _ hk=>hk.2) (.int .i64 t384)) (fun _ h_=>h_.1))) hb);have n4_:=Aside0.mk (Kd.S_below (by(with_reducible repeat (first|apply Kd.S_alloc|apply Kd.S_drewN|apply Kd.S_drew));exact(Kd.S_mono (Kd.S_far (p:=⟨gb387,2,none⟩) (Kd.S_far (p:=⟨gb387,1,none⟩) (Kd.S_far (p:=⟨gb387,0,none⟩) (Kd.S_types HO383.out BK387.out (by decide)) (fun _ hk=>hk.2) (.int .i64 t380)) (fun _ hk=>hk.2) (.slice Ao142 t381.length co142)) (fun _ hk=>hk.2) (.int .i64 t384)) (fun _ h_=>h_.1))) hb);have n5_:=Aside0.mk (blk_below (g:=gb333) (o:=.cells #[.int .i64 a0_0,.slice A0_1 l0_1.length c0_1,.int .i64 a0_2] 24 (0,0)) (by(with_reducible repeat (first|refine blk_drewN ?_ _|refine blk_drew ?_|refine blk_alloc ?_ _));refine blk_far ?_ NB333_387.out _;(with_reducible repeat (first|refine blk_drewN ?_ _|refine blk_drew ?_|refine blk_alloc ?_ _));refine blk_far ?_ NB333_387.out _;(with_reducible repeat (first|refine blk_drewN ?_ _|refine blk_drew ?_|refine blk_alloc ?_ _));refine blk_far ?_ NB333_387.out _;(with_reducible repeat (first|refine blk_drewN ?_ _|refine blk_drew ?_|refine blk_alloc ?_ _));exact BK333.out) hb);have n6_:=Aside0.mk (blk_below (g:=gb347) (o:=.cells #[.int .i64 t340,.slice Ao23 t341.length co23,.int .i64 t344] 28 (0,0)) (by(with_reducible repeat (first|refine blk_drewN ?_ _|refine blk_drew ?_|refine blk_alloc ?_ _));refine blk_far ?_ NB347_387.out _;(with_reducible repeat (first|refine blk_drewN ?_ _|refine blk_drew ?_|refine blk_alloc ?_ _));refine blk_far ?_ NB347_387.out _;(with_reducible repeat (first|refine blk_drewN ?_ _|refine blk_drew ?_|refine blk_alloc ?_ _));refine blk_far ?_ NB347_387.out _;(with_reducible repeat (first|refine blk_drewN ?_ _|refine blk_drew ?_|refine blk_alloc ?_ _));exact BK347.out) hb);have n7_:=Aside0.mk (blk_below (g:=gb353) (o:=.cells #[.int .i64 t348,.slice Ao30 t370.length co30,.int .i64 t352] 28 (0,0)) (by(with_reducible repeat (first|refine blk_drewN ?_ _|refine blk_drew ?_|refine blk_alloc ?_ _));refine blk_far ?_ NB353_387.out _;(with_reducible repeat (first|refine blk_drewN ?_ _|refine blk_drew ?_|refine blk_alloc ?_ _));refine blk_far ?_ NB353_387.out _;(with_reducible repeat (first|refine blk_drewN ?_ _|refine blk_drew ?_|refine blk_alloc ?_ _));refine blk_far ?_ NB353_387.out _;(with_reducible repeat (first|refine blk_drewN ?_ _|refine blk_drew ?_|refine blk_alloc ?_ _));exact BK353.out) hb);have n8_:=Aside0.mk (blk_below (g:=gb361) (o:=.cells #[.int .i64 t354,.slice Ao37 t355.length co37,.int .i64 t358] 28 (0,0)) (by(with_reducible repeat (first|refine blk_drewN ?_ _|refine blk_drew ?_|refine blk_alloc ?_ _));refine blk_far ?_ NB361_387.out _;(with_reducible repeat (first|refine blk_drewN ?_ _|refine blk_drew ?_|refine blk_alloc ?_ _));refine blk_far ?_ NB361_387.out _;(with_reducible repeat (first|refine blk_drewN ?_ _|refine blk_drew ?_|refine blk_alloc ?_ _));refine blk_far ?_ NB361_387.out _;(with_reducible repeat (first|refine blk_drewN ?_ _|refine blk_drew ?_|refine blk_alloc ?_ _));exact BK361.out) hb);have n9_:=Aside0.mk (blk_below (g:=gb387) (o:=.cells #[.int .i64 t380,.slice Ao142 t381.length co142,.int .i64 t384] 28 (0,0)) (by(with_reducible repeat (first|refine blk_drewN ?_ _|refine blk_drew ?_|refine blk_alloc ?_ _));refine blk_put (cs:=#[.int .i64 t380,.slice Ao142 t381.length co142,.int .i64 0]) ?_ 2 _ rfl;(with_reducible repeat (first|refine blk_drewN ?_ _|refine blk_drew ?_|refine blk_alloc ?_ _));refine blk_put (cs:=#[.int .i64 t380,.slice none 0 0,.int .i64 0]) ?_ 1 _ rfl;(with_reducible repeat (first|refine blk_drewN ?_ _|refine blk_drew ?_|refine blk_alloc ?_ _));refine blk_put (cs:=#[.int .i64 0,.slice none 0 0,.int .i64 0]) ?_ 0 _ rfl;(with_reducible repeat (first|refine blk_drewN ?_ _|refine blk_drew ?_|refine blk_alloc ?_ _));exact BK387.out) hb);have n10_:=Aside0.mk (below_step (bS5 GE333.out GE347.out GE353.out GE361.out GE387.out) hb);clear HO_348001 HO_354001 HO_362001 HO378 HO383 BK333 BK347 BK353 BK361 BK387 HB;have HO_348001:=n0_;have HO_354001:=n1_;have HO_362001:=n2_;have HO378:=n3_;have HO383:=n4_;have BK333:=n5_;have BK347:=n6_;have BK353:=n7_;have BK361:=n8_;have BK387:=n9_;have HB:=n10_;clear n0_ n1_ n2_ n3_ n4_ n5_ n6_ n7_ n8_ n9_ n10_;(try clear hb);(try clear hb2);(try clear hk);(try clear hi)))
              go_meet
              case rel=>exact⟨_,((t386 != t346)),(bR),H',⟨by have:=HJ11.out;have:=HJ69.out;first|omega|exact Nat.le_refl _⟩,⟨by(try simp only[hl354001_69]);(with_reducible repeat (first|apply Kd.S_alloc|apply Kd.S_drewN|apply Kd.S_drew));exact Kd.S_mono HO_348001.out (fun _ hk=>⟨hk.1.1.1,⟨hk.1.1.2,hk.2⟩⟩)⟩,⟨by(try simp only[hl354001_69]);(with_reducible repeat (first|apply Kd.S_alloc|apply Kd.S_drewN|apply Kd.S_drew));exact Kd.S_mono HO_354001.out (fun _ hk=>⟨hk.1.1.1,⟨hk.1.1.2,hk.2⟩⟩)⟩,⟨by(try simp only[hl354001_69]);(with_reducible repeat (first|apply Kd.S_alloc|apply Kd.S_drewN|apply Kd.S_drew));exact Kd.S_mono HO_362001.out (fun _ hk=>⟨hk.1.1.1,⟨hk.1.1.2,hk.2⟩⟩)⟩,⟨by(try simp only[hl354001_69]);(with_reducible repeat (first|apply Kd.S_alloc|apply Kd.S_drewN|apply Kd.S_drew));exact Kd.S_mono HO383.out (fun _ hk=>⟨hk.1.1.1.2,⟨hk.1.1.2,hk.1.2⟩⟩)⟩,⟨by(try simp only[hl354001_69]);(with_reducible repeat (first|refine blk_drewN ?_ _|refine blk_drew ?_|refine blk_alloc ?_ _));exact BK333.out⟩,⟨by(try simp only[hl354001_69]);(with_reducible repeat (first|refine blk_drewN ?_ _|refine blk_drew ?_|refine blk_alloc ?_ _));exact BK347.out⟩,⟨by(try simp only[hl354001_69]);(with_reducible repeat (first|refine blk_drewN ?_ _|refine blk_drew ?_|refine blk_alloc ?_ _));exact BK353.out⟩,⟨by(try simp only[hl354001_69]);(with_reducible repeat (first|refine blk_drewN ?_ _|refine blk_drew ?_|refine blk_alloc ?_ _));exact BK361.out⟩,⟨by(try simp only[hl354001_69]);(with_reducible repeat (first|refine blk_drewN ?_ _|refine blk_drew ?_|refine blk_alloc ?_ _));exact BK387.out⟩,⟨bS5 GE333.out GE347.out GE353.out GE361.out GE387.out⟩⟩
             ·rw[if_neg c145] at H
              have c145b0:(t385 == t345)=false:=beq_eq_false_iff_ne.mpr c145
              have c145b1:(t385 != t345)=true:=bne_iff_ne.mpr c145
              (first|rw[c145b0]|(simp only[i64_w,i32_w];rw[c145b0])|skip)
              have H':=Aside0.mk H
              clear H
              have hnb156:=NB387_333.out
              have hnc156:=NB333_387.out
              have hnb157:=NB387_347.out
              have hnc157:=NB347_387.out
              have hnb158:=NB387_353.out
              have hnc158:=NB353_387.out
              have hnb159:=NB387_361.out
              have hnc159:=NB361_387.out
              obtain⟨hcz160_0,hcz160_1,hcz160_2⟩:=cC3 BK387.out
              obtain⟨hfz160_0,hfz160_1,hfz160_2⟩:=cF3 BK387.out
              have hnb161:=NB347_333.out
              have hnc161:=NB333_347.out
              have hnb162:=NB347_353.out
              have hnc162:=NB353_347.out
              have hnb163:=NB347_361.out
              have hnc163:=NB361_347.out
              obtain⟨hcz164_0,hcz164_1,hcz164_2⟩:=cC3 BK347.out
              obtain⟨hfz164_0,hfz164_1,hfz164_2⟩:=cF3 BK347.out
              go_wp2_with (first|((with_reducible refine gate_callee (f:=19) rfl ?_);refine goesA (some 102) rfl rfl Try.func19 #[.agg #[.int .i64 t380,.slice Ao142 t381.length co142,.int .i64 t384],.agg #[.int .i64 t340,.slice Ao23 t341.length co23,.int .i64 t344]] rfl ?_;(with_reducible refine(laws_eqTurns.calls kj69 t380 _ _ t381 t384 t340 _ _ t341 t344 true _ ?side1 ?side2 ?side3 ?side4 A143.out).mono ?_);(case side1=>refine(Kd.S_reads' (e:=116) (base:=w.heap.size) (ok:=fun k_=>((((True∧N382_≤k_)∧N382_≤k_)∧N382_≤k_)∧N382_≤k_)) (n:=t381.length) (c:=co142) ?_).2.2;exact(by(with_reducible repeat (first|apply Kd.S_alloc|apply Kd.S_drewN|apply Kd.S_drew));exact(Kd.S_mono (Kd.S_far (p:=⟨gb387,2,none⟩) (Kd.S_far (p:=⟨gb387,1,none⟩) (Kd.S_far (p:=⟨gb387,0,none⟩) (Kd.S_types HO383.out BK387.out (by decide)) (fun _ hk=>hk.2) (.int .i64 t380)) (fun _ hk=>hk.2) (.slice Ao142 t381.length co142)) (fun _ hk=>hk.2) (.int .i64 t384)) (fun _ h_=>h_.1))));(case side2=>exact(Kd.S_reads' HO383.out).2.1);(case side3=>refine(Kd.S_reads' (e:=116) (base:=w.heap.size) (ok:=fun k_=>(((k_ < N350_∧k_ < N356_)∧k_ < N377_)∧k_ < N382_)) (n:=t341.length) (c:=co23) ?_).2.2;exact(by(with_reducible repeat (first|apply Kd.S_alloc|apply Kd.S_drewN|apply Kd.S_drew));exact(Kd.S_mono (Kd.S_far (p:=⟨gb387,2,none⟩) (Kd.S_far (p:=⟨gb387,1,none⟩) (Kd.S_far (p:=⟨gb387,0,none⟩) (Kd.S_types HO_348001.out BK387.out (by decide)) (fun _ hk=>hk.2) (.int .i64 t380)) (fun _ hk=>hk.2) (.slice Ao142 t381.length co142)) (fun _ hk=>hk.2) (.int .i64 t384)) (fun _ h_=>h_.1))));(case side4=>exact(Kd.S_reads' HO_348001.out).2.1);rintro e w165 ⟨rfl,hb⟩;refine⟨_,rfl,?_⟩;have n0_:=Aside0.mk (Kd.S_below (by(with_reducible repeat (first|apply Kd.S_alloc|apply Kd.S_drewN|apply Kd.S_drew));exact(Kd.S_mono (Kd.S_far (p:=⟨gb387,2,none⟩) (Kd.S_far (p:=⟨gb387,1,none⟩) (Kd.S_far (p:=⟨gb387,0,none⟩) (Kd.S_types HO_348001.out BK387.out (by decide)) (fun _ hk=>hk.2) (.int .i64 t380)) (fun _ hk=>hk.2) (.slice Ao142 t381.length co142)) (fun _ hk=>hk.2) (.int .i64 t384)) (fun _ h_=>h_.1))) hb);have n1_:=Aside0.mk (Kd.S_below (by(with_reducible repeat (first|apply Kd.S_alloc|apply Kd.S_drewN|apply Kd.S_drew));exact(Kd.S_mono (Kd.S_far (p:=⟨gb387,2,none⟩) (Kd.S_far (p:=⟨gb387,1,none⟩) (Kd.S_far (p:=⟨gb387,0,none⟩) (Kd.S_types HO_354001.out BK387.out (by decide)) (fun _ hk=>hk.2) (.int .i64 t380)) (fun _ hk=>hk.2) (.slice Ao142 t381.length co142)) (fun _ hk=>hk.2) (.int .i64 t384)) (fun _ h_=>h_.1))) hb);have n2_:=Aside0.mk (Kd.S_below (by(with_reducible repeat (first|apply Kd.S_alloc|apply Kd.S_drewN|apply Kd.S_drew));exact(Kd.S_mono (Kd.S_far (p:=⟨gb387,2,none⟩) (Kd.S_far (p:=⟨gb387,1,none⟩) (Kd.S_far (p:=⟨gb387,0,none⟩) (Kd.S_types HO_362001.out BK387.out (by decide)) (fun _ hk=>hk.2) (.int .i64 t380)) (fun _ hk=>hk.2) (.slice Ao142 t381.length co142)) (fun _ hk=>hk.2) (.int .i64 t384)) (fun _ h_=>h_.1))) hb);have n3_:=Aside0.mk (Kd.S_below (by(with_reducible repeat (first|apply Kd.S_alloc|apply Kd.S_drewN|apply Kd.S_drew));exact(Kd.S_mono (Kd.S_far (p:=⟨gb387,2,none⟩) (Kd.S_far (p:=⟨gb387,1,none⟩) (Kd.S_far (p:=⟨gb387,0,none⟩) (Kd.S_types HO378.out BK387.out (by decide)) (fun _ hk=>hk.2) (.int .i64 t380)) (fun _ hk=>hk.2) (.slice Ao142 t381.length co142)) (fun _ hk=>hk.2) (.int .i64 t384)) (fun _ h_=>h_.1))) hb);have n4_:=Aside0.mk (Kd.S_below (by(with_reducible repeat (first|apply Kd.S_alloc|apply Kd.S_drewN|apply Kd.S_drew));exact(Kd.S_mono (Kd.S_far (p:=⟨gb387,2,none⟩) (Kd.S_far (p:=⟨gb387,1,none⟩) (Kd.S_far (p:=⟨gb387,0,none⟩) (Kd.S_types HO383.out BK387.out (by decide)) (fun _ hk=>hk.2) (.int .i64 t380)) (fun _ hk=>hk.2) (.slice Ao142 t381.length co142)) (fun _ hk=>hk.2) (.int .i64 t384)) (fun _ h_=>h_.1))) hb);have n5_:=Aside0.mk (blk_below (g:=gb333) (o:=.cells #[.int .i64 a0_0,.slice A0_1 l0_1.length c0_1,.int .i64 a0_2] 24 (0,0)) (by(with_reducible repeat (first|refine blk_drewN ?_ _|refine blk_drew ?_|refine blk_alloc ?_ _));refine blk_far ?_ NB333_387.out _;(with_reducible repeat (first|refine blk_drewN ?_ _|refine blk_drew ?_|refine blk_alloc ?_ _));refine blk_far ?_ NB333_387.out _;(with_reducible repeat (first|refine blk_drewN ?_ _|refine blk_drew ?_|refine blk_alloc ?_ _));refine blk_far ?_ NB333_387.out _;(with_reducible repeat (first|refine blk_drewN ?_ _|refine blk_drew ?_|refine blk_alloc ?_ _));exact BK333.out) hb);have n6_:=Aside0.mk (blk_below (g:=gb347) (o:=.cells #[.int .i64 t340,.slice Ao23 t341.length co23,.int .i64 t344] 28 (0,0)) (by(with_reducible repeat (first|refine blk_drewN ?_ _|refine blk_drew ?_|refine blk_alloc ?_ _));refine blk_far ?_ NB347_387.out _;(with_reducible repeat (first|refine blk_drewN ?_ _|refine blk_drew ?_|refine blk_alloc ?_ _));refine blk_far ?_ NB347_387.out _;(with_reducible repeat (first|refine blk_drewN ?_ _|refine blk_drew ?_|refine blk_alloc ?_ _));refine blk_far ?_ NB347_387.out _;(with_reducible repeat (first|refine blk_drewN ?_ _|refine blk_drew ?_|refine blk_alloc ?_ _));exact BK347.out) hb);have n7_:=Aside0.mk (blk_below (g:=gb353) (o:=.cells #[.int .i64 t348,.slice Ao30 t370.length co30,.int .i64 t352] 28 (0,0)) (by(with_reducible repeat (first|refine blk_drewN ?_ _|refine blk_drew ?_|refine blk_alloc ?_ _));refine blk_far ?_ NB353_387.out _;(with_reducible repeat (first|refine blk_drewN ?_ _|refine blk_drew ?_|refine blk_alloc ?_ _));refine blk_far ?_ NB353_387.out _;(with_reducible repeat (first|refine blk_drewN ?_ _|refine blk_drew ?_|refine blk_alloc ?_ _));refine blk_far ?_ NB353_387.out _;(with_reducible repeat (first|refine blk_drewN ?_ _|refine blk_drew ?_|refine blk_alloc ?_ _));exact BK353.out) hb);have n8_:=Aside0.mk (blk_below (g:=gb361) (o:=.cells #[.int .i64 t354,.slice Ao37 t355.length co37,.int .i64 t358] 28 (0,0)) (by(with_reducible repeat (first|refine blk_drewN ?_ _|refine blk_drew ?_|refine blk_alloc ?_ _));refine blk_far ?_ NB361_387.out _;(with_reducible repeat (first|refine blk_drewN ?_ _|refine blk_drew ?_|refine blk_alloc ?_ _));refine blk_far ?_ NB361_387.out _;(with_reducible repeat (first|refine blk_drewN ?_ _|refine blk_drew ?_|refine blk_alloc ?_ _));refine blk_far ?_ NB361_387.out _;(with_reducible repeat (first|refine blk_drewN ?_ _|refine blk_drew ?_|refine blk_alloc ?_ _));exact BK361.out) hb);have n9_:=Aside0.mk (blk_below (g:=gb387) (o:=.cells #[.int .i64 t380,.slice Ao142 t381.length co142,.int .i64 t384] 28 (0,0)) (by(with_reducible repeat (first|refine blk_drewN ?_ _|refine blk_drew ?_|refine blk_alloc ?_ _));refine blk_put (cs:=#[.int .i64 t380,.slice Ao142 t381.length co142,.int .i64 0]) ?_ 2 _ rfl;(with_reducible repeat (first|refine blk_drewN ?_ _|refine blk_drew ?_|refine blk_alloc ?_ _));refine blk_put (cs:=#[.int .i64 t380,.slice none 0 0,.int .i64 0]) ?_ 1 _ rfl;(with_reducible repeat (first|refine blk_drewN ?_ _|refine blk_drew ?_|refine blk_alloc ?_ _));refine blk_put (cs:=#[.int .i64 0,.slice none 0 0,.int .i64 0]) ?_ 0 _ rfl;(with_reducible repeat (first|refine blk_drewN ?_ _|refine blk_drew ?_|refine blk_alloc ?_ _));exact BK387.out) hb);have n10_:=Aside0.mk (below_step (bS5 GE333.out GE347.out GE353.out GE361.out GE387.out) hb);clear HO_348001 HO_354001 HO_362001 HO378 HO383 BK333 BK347 BK353 BK361 BK387 HB;have HO_348001:=n0_;have HO_354001:=n1_;have HO_362001:=n2_;have HO378:=n3_;have HO383:=n4_;have BK333:=n5_;have BK347:=n6_;have BK353:=n7_;have BK361:=n8_;have BK387:=n9_;have HB:=n10_;clear n0_ n1_ n2_ n3_ n4_ n5_ n6_ n7_ n8_ n9_ n10_;(try clear hb);(try clear hb2);(try clear hk);(try clear hi)))
              go_meet
              case rel=>exact⟨_,(true),(bR),H',⟨by have:=HJ11.out;have:=HJ69.out;first|omega|exact Nat.le_refl _⟩,⟨by(try simp only[hl354001_69]);(with_reducible repeat (first|apply Kd.S_alloc|apply Kd.S_drewN|apply Kd.S_drew));exact Kd.S_mono HO_348001.out (fun _ hk=>⟨hk.1.1.1,⟨hk.1.1.2,hk.2⟩⟩)⟩,⟨by(try simp only[hl354001_69]);(with_reducible repeat (first|apply Kd.S_alloc|apply Kd.S_drewN|apply Kd.S_drew));exact Kd.S_mono HO_354001.out (fun _ hk=>⟨hk.1.1.1,⟨hk.1.1.2,hk.2⟩⟩)⟩,⟨by(try simp only[hl354001_69]);(with_reducible repeat (first|apply Kd.S_alloc|apply Kd.S_drewN|apply Kd.S_drew));exact Kd.S_mono HO_362001.out (fun _ hk=>⟨hk.1.1.1,⟨hk.1.1.2,hk.2⟩⟩)⟩,⟨by(try simp only[hl354001_69]);(with_reducible repeat (first|apply Kd.S_alloc|apply Kd.S_drewN|apply Kd.S_drew));exact Kd.S_mono HO383.out (fun _ hk=>⟨hk.1.1.1.2,⟨hk.1.1.2,hk.1.2⟩⟩)⟩,⟨by(try simp only[hl354001_69]);(with_reducible repeat (first|refine blk_drewN ?_ _|refine blk_drew ?_|refine blk_alloc ?_ _));exact BK333.out⟩,⟨by(try simp only[hl354001_69]);(with_reducible repeat (first|refine blk_drewN ?_ _|refine blk_drew ?_|refine blk_alloc ?_ _));exact BK347.out⟩,⟨by(try simp only[hl354001_69]);(with_reducible repeat (first|refine blk_drewN ?_ _|refine blk_drew ?_|refine blk_alloc ?_ _));exact BK353.out⟩,⟨by(try simp only[hl354001_69]);(with_reducible repeat (first|refine blk_drewN ?_ _|refine blk_drew ?_|refine blk_alloc ?_ _));exact BK361.out⟩,⟨by(try simp only[hl354001_69]);(with_reducible repeat (first|refine blk_drewN ?_ _|refine blk_drew ?_|refine blk_alloc ?_ _));exact BK387.out⟩,⟨bS5 GE333.out GE347.out GE353.out GE361.out GE387.out⟩⟩
            ·replace c144:=Bool.eq_false_iff.mpr c144
             subst c144
             have H1:(laws_FnExactRunRounds.j2 kj69 t372 true t354 t373 t358)=some r:=by rw[if_neg (show ¬ (false=true) by decide)] at H;exact H
             clear H
             have H:=H1
             clear H1
             have H':=Aside0.mk H
             clear H
             have hnb166:=NB387_333.out
             have hnc166:=NB333_387.out
             have hnb167:=NB387_347.out
             have hnc167:=NB347_387.out
             have hnb168:=NB387_353.out
             have hnc168:=NB353_387.out
             have hnb169:=NB387_361.out
             have hnc169:=NB361_387.out
             obtain⟨hcz170_0,hcz170_1,hcz170_2⟩:=cC3 BK387.out
             obtain⟨hfz170_0,hfz170_1,hfz170_2⟩:=cF3 BK387.out
             have hnb171:=NB347_333.out
             have hnc171:=NB333_347.out
             have hnb172:=NB347_353.out
             have hnc172:=NB353_347.out
             have hnb173:=NB347_361.out
             have hnc173:=NB361_347.out
             obtain⟨hcz174_0,hcz174_1,hcz174_2⟩:=cC3 BK347.out
             obtain⟨hfz174_0,hfz174_1,hfz174_2⟩:=cF3 BK347.out
             go_wp2_with (first|((with_reducible refine gate_callee (f:=19) rfl ?_);refine goesA (some 102) rfl rfl Try.func19 #[.agg #[.int .i64 t380,.slice Ao142 t381.length co142,.int .i64 t384],.agg #[.int .i64 t340,.slice Ao23 t341.length co23,.int .i64 t344]] rfl ?_;(with_reducible refine(laws_eqTurns.calls kj69 t380 _ _ t381 t384 t340 _ _ t341 t344 false _ ?side1 ?side2 ?side3 ?side4 A143.out).mono ?_);(case side1=>refine(Kd.S_reads' (e:=116) (base:=w.heap.size) (ok:=fun k_=>((((True∧N382_≤k_)∧N382_≤k_)∧N382_≤k_)∧N382_≤k_)) (n:=t381.length) (c:=co142) ?_).2.2;exact(by(with_reducible repeat (first|apply Kd.S_alloc|apply Kd.S_drewN|apply Kd.S_drew));exact(Kd.S_mono (Kd.S_far (p:=⟨gb387,2,none⟩) (Kd.S_far (p:=⟨gb387,1,none⟩) (Kd.S_far (p:=⟨gb387,0,none⟩) (Kd.S_types HO383.out BK387.out (by decide)) (fun _ hk=>hk.2) (.int .i64 t380)) (fun _ hk=>hk.2) (.slice Ao142 t381.length co142)) (fun _ hk=>hk.2) (.int .i64 t384)) (fun _ h_=>h_.1))));(case side2=>exact(Kd.S_reads' HO383.out).2.1);(case side3=>refine(Kd.S_reads' (e:=116) (base:=w.heap.size) (ok:=fun k_=>(((k_ < N350_∧k_ < N356_)∧k_ < N377_)∧k_ < N382_)) (n:=t341.length) (c:=co23) ?_).2.2;exact(by(with_reducible repeat (first|apply Kd.S_alloc|apply Kd.S_drewN|apply Kd.S_drew));exact(Kd.S_mono (Kd.S_far (p:=⟨gb387,2,none⟩) (Kd.S_far (p:=⟨gb387,1,none⟩) (Kd.S_far (p:=⟨gb387,0,none⟩) (Kd.S_types HO_348001.out BK387.out (by decide)) (fun _ hk=>hk.2) (.int .i64 t380)) (fun _ hk=>hk.2) (.slice Ao142 t381.length co142)) (fun _ hk=>hk.2) (.int .i64 t384)) (fun _ h_=>h_.1))));(case side4=>exact(Kd.S_reads' HO_348001.out).2.1);rintro e w175 ⟨rfl,hb⟩;refine⟨_,rfl,?_⟩;have n0_:=Aside0.mk (Kd.S_below (by(with_reducible repeat (first|apply Kd.S_alloc|apply Kd.S_drewN|apply Kd.S_drew));exact(Kd.S_mono (Kd.S_far (p:=⟨gb387,2,none⟩) (Kd.S_far (p:=⟨gb387,1,none⟩) (Kd.S_far (p:=⟨gb387,0,none⟩) (Kd.S_types HO_348001.out BK387.out (by decide)) (fun _ hk=>hk.2) (.int .i64 t380)) (fun _ hk=>hk.2) (.slice Ao142 t381.length co142)) (fun _ hk=>hk.2) (.int .i64 t384)) (fun _ h_=>h_.1))) hb);have n1_:=Aside0.mk (Kd.S_below (by(with_reducible repeat (first|apply Kd.S_alloc|apply Kd.S_drewN|apply Kd.S_drew));exact(Kd.S_mono (Kd.S_far (p:=⟨gb387,2,none⟩) (Kd.S_far (p:=⟨gb387,1,none⟩) (Kd.S_far (p:=⟨gb387,0,none⟩) (Kd.S_types HO_354001.out BK387.out (by decide)) (fun _ hk=>hk.2) (.int .i64 t380)) (fun _ hk=>hk.2) (.slice Ao142 t381.length co142)) (fun _ hk=>hk.2) (.int .i64 t384)) (fun _ h_=>h_.1))) hb);have n2_:=Aside0.mk (Kd.S_below (by(with_reducible repeat (first|apply Kd.S_alloc|apply Kd.S_drewN|apply Kd.S_drew));exact(Kd.S_mono (Kd.S_far (p:=⟨gb387,2,none⟩) (Kd.S_far (p:=⟨gb387,1,none⟩) (Kd.S_far (p:=⟨gb387,0,none⟩) (Kd.S_types HO_362001.out BK387.out (by decide)) (fun _ hk=>hk.2) (.int .i64 t380)) (fun _ hk=>hk.2) (.slice Ao142 t381.length co142)) (fun _ hk=>hk.2) (.int .i64 t384)) (fun _ h_=>h_.1))) hb);have n3_:=Aside0.mk (Kd.S_below (by(with_reducible repeat (first|apply Kd.S_alloc|apply Kd.S_drewN|apply Kd.S_drew));exact(Kd.S_mono (Kd.S_far (p:=⟨gb387,2,none⟩) (Kd.S_far (p:=⟨gb387,1,none⟩) (Kd.S_far (p:=⟨gb387,0,none⟩) (Kd.S_types HO378.out BK387.out (by decide)) (fun _ hk=>hk.2) (.int .i64 t380)) (fun _ hk=>hk.2) (.slice Ao142 t381.length co142)) (fun _ hk=>hk.2) (.int .i64 t384)) (fun _ h_=>h_.1))) hb);have n4_:=Aside0.mk (Kd.S_below (by(with_reducible repeat (first|apply Kd.S_alloc|apply Kd.S_drewN|apply Kd.S_drew));exact(Kd.S_mono (Kd.S_far (p:=⟨gb387,2,none⟩) (Kd.S_far (p:=⟨gb387,1,none⟩) (Kd.S_far (p:=⟨gb387,0,none⟩) (Kd.S_types HO383.out BK387.out (by decide)) (fun _ hk=>hk.2) (.int .i64 t380)) (fun _ hk=>hk.2) (.slice Ao142 t381.length co142)) (fun _ hk=>hk.2) (.int .i64 t384)) (fun _ h_=>h_.1))) hb);have n5_:=Aside0.mk (blk_below (g:=gb333) (o:=.cells #[.int .i64 a0_0,.slice A0_1 l0_1.length c0_1,.int .i64 a0_2] 24 (0,0)) (by(with_reducible repeat (first|refine blk_drewN ?_ _|refine blk_drew ?_|refine blk_alloc ?_ _));refine blk_far ?_ NB333_387.out _;(with_reducible repeat (first|refine blk_drewN ?_ _|refine blk_drew ?_|refine blk_alloc ?_ _));refine blk_far ?_ NB333_387.out _;(with_reducible repeat (first|refine blk_drewN ?_ _|refine blk_drew ?_|refine blk_alloc ?_ _));refine blk_far ?_ NB333_387.out _;(with_reducible repeat (first|refine blk_drewN ?_ _|refine blk_drew ?_|refine blk_alloc ?_ _));exact BK333.out) hb);have n6_:=Aside0.mk (blk_below (g:=gb347) (o:=.cells #[.int .i64 t340,.slice Ao23 t341.length co23,.int .i64 t344] 28 (0,0)) (by(with_reducible repeat (first|refine blk_drewN ?_ _|refine blk_drew ?_|refine blk_alloc ?_ _));refine blk_far ?_ NB347_387.out _;(with_reducible repeat (first|refine blk_drewN ?_ _|refine blk_drew ?_|refine blk_alloc ?_ _));refine blk_far ?_ NB347_387.out _;(with_reducible repeat (first|refine blk_drewN ?_ _|refine blk_drew ?_|refine blk_alloc ?_ _));refine blk_far ?_ NB347_387.out _;(with_reducible repeat (first|refine blk_drewN ?_ _|refine blk_drew ?_|refine blk_alloc ?_ _));exact BK347.out) hb);have n7_:=Aside0.mk (blk_below (g:=gb353) (o:=.cells #[.int .i64 t348,.slice Ao30 t370.length co30,.int .i64 t352] 28 (0,0)) (by(with_reducible repeat (first|refine blk_drewN ?_ _|refine blk_drew ?_|refine blk_alloc ?_ _));refine blk_far ?_ NB353_387.out _;(with_reducible repeat (first|refine blk_drewN ?_ _|refine blk_drew ?_|refine blk_alloc ?_ _));refine blk_far ?_ NB353_387.out _;(with_reducible repeat (first|refine blk_drewN ?_ _|refine blk_drew ?_|refine blk_alloc ?_ _));refine blk_far ?_ NB353_387.out _;(with_reducible repeat (first|refine blk_drewN ?_ _|refine blk_drew ?_|refine blk_alloc ?_ _));exact BK353.out) hb);have n8_:=Aside0.mk (blk_below (g:=gb361) (o:=.cells #[.int .i64 t354,.slice Ao37 t355.length co37,.int .i64 t358] 28 (0,0)) (by(with_reducible repeat (first|refine blk_drewN ?_ _|refine blk_drew ?_|refine blk_alloc ?_ _));refine blk_far ?_ NB361_387.out _;(with_reducible repeat (first|refine blk_drewN ?_ _|refine blk_drew ?_|refine blk_alloc ?_ _));refine blk_far ?_ NB361_387.out _;(with_reducible repeat (first|refine blk_drewN ?_ _|refine blk_drew ?_|refine blk_alloc ?_ _));refine blk_far ?_ NB361_387.out _;(with_reducible repeat (first|refine blk_drewN ?_ _|refine blk_drew ?_|refine blk_alloc ?_ _));exact BK361.out) hb);have n9_:=Aside0.mk (blk_below (g:=gb387) (o:=.cells #[.int .i64 t380,.slice Ao142 t381.length co142,.int .i64 t384] 28 (0,0)) (by(with_reducible repeat (first|refine blk_drewN ?_ _|refine blk_drew ?_|refine blk_alloc ?_ _));refine blk_put (cs:=#[.int .i64 t380,.slice Ao142 t381.length co142,.int .i64 0]) ?_ 2 _ rfl;(with_reducible repeat (first|refine blk_drewN ?_ _|refine blk_drew ?_|refine blk_alloc ?_ _));refine blk_put (cs:=#[.int .i64 t380,.slice none 0 0,.int .i64 0]) ?_ 1 _ rfl;(with_reducible repeat (first|refine blk_drewN ?_ _|refine blk_drew ?_|refine blk_alloc ?_ _));refine blk_put (cs:=#[.int .i64 0,.slice none 0 0,.int .i64 0]) ?_ 0 _ rfl;(with_reducible repeat (first|refine blk_drewN ?_ _|refine blk_drew ?_|refine blk_alloc ?_ _));exact BK387.out) hb);have n10_:=Aside0.mk (below_step (bS5 GE333.out GE347.out GE353.out GE361.out GE387.out) hb);clear HO_348001 HO_354001 HO_362001 HO378 HO383 BK333 BK347 BK353 BK361 BK387 HB;have HO_348001:=n0_;have HO_354001:=n1_;have HO_362001:=n2_;have HO378:=n3_;have HO383:=n4_;have BK333:=n5_;have BK347:=n6_;have BK353:=n7_;have BK361:=n8_;have BK387:=n9_;have HB:=n10_;clear n0_ n1_ n2_ n3_ n4_ n5_ n6_ n7_ n8_ n9_ n10_;(try clear hb);(try clear hb2);(try clear hk);(try clear hi)))
             go_meet
             case rel=>exact⟨_,(true),(bR),H',⟨by have:=HJ11.out;have:=HJ69.out;first|omega|exact Nat.le_refl _⟩,⟨by(try simp only[hl354001_69]);(with_reducible repeat (first|apply Kd.S_alloc|apply Kd.S_drewN|apply Kd.S_drew));exact Kd.S_mono HO_348001.out (fun _ hk=>⟨hk.1.1.1,⟨hk.1.1.2,hk.2⟩⟩)⟩,⟨by(try simp only[hl354001_69]);(with_reducible repeat (first|apply Kd.S_alloc|apply Kd.S_drewN|apply Kd.S_drew));exact Kd.S_mono HO_354001.out (fun _ hk=>⟨hk.1.1.1,⟨hk.1.1.2,hk.2⟩⟩)⟩,⟨by(try simp only[hl354001_69]);(with_reducible repeat (first|apply Kd.S_alloc|apply Kd.S_drewN|apply Kd.S_drew));exact Kd.S_mono HO_362001.out (fun _ hk=>⟨hk.1.1.1,⟨hk.1.1.2,hk.2⟩⟩)⟩,⟨by(try simp only[hl354001_69]);(with_reducible repeat (first|apply Kd.S_alloc|apply Kd.S_drewN|apply Kd.S_drew));exact Kd.S_mono HO383.out (fun _ hk=>⟨hk.1.1.1.2,⟨hk.1.1.2,hk.1.2⟩⟩)⟩,⟨by(try simp only[hl354001_69]);(with_reducible repeat (first|refine blk_drewN ?_ _|refine blk_drew ?_|refine blk_alloc ?_ _));exact BK333.out⟩,⟨by(try simp only[hl354001_69]);(with_reducible repeat (first|refine blk_drewN ?_ _|refine blk_drew ?_|refine blk_alloc ?_ _));exact BK347.out⟩,⟨by(try simp only[hl354001_69]);(with_reducible repeat (first|refine blk_drewN ?_ _|refine blk_drew ?_|refine blk_alloc ?_ _));exact BK353.out⟩,⟨by(try simp only[hl354001_69]);(with_reducible repeat (first|refine blk_drewN ?_ _|refine blk_drew ?_|refine blk_alloc ?_ _));exact BK361.out⟩,⟨by(try simp only[hl354001_69]);(with_reducible repeat (first|refine blk_drewN ?_ _|refine blk_drew ?_|refine blk_alloc ?_ _));exact BK387.out⟩,⟨bS5 GE333.out GE347.out GE353.out GE361.out GE387.out⟩⟩
           case rest =>
            clear HC122
            try clear c1
            try clear c2
            try clear p2
            try clear c3
            try clear c4
            try clear c4b0
            try clear c5
            try clear c6
            try clear c7
            try clear c8
            try clear c9
            try clear c10
            try clear c11
            try clear c12
            try clear c13
            try clear c14
            try clear c15
            try clear c16
            try clear c17
            try clear c19
            try clear c20
            try clear c21
            try clear c27
            try clear c28
            try clear c33
            try clear c34
            try clear c35
            try clear c39
            try clear c40
            try clear c40b0
            try clear c40b1
            try clear c41
            try clear c42
            try clear c43
            try clear c45
            try clear c46
            try clear c49
            try clear c50
            try clear c51
            try clear c53
            try clear c54
            try clear c55
            try clear c56
            try clear c57
            try clear c58
            try clear c59
            try clear c61
            try clear c62
            try clear c65
            try clear c68
            try clear c75
            try clear c76
            try clear c77
            try clear c80
            try clear c80b0
            try clear c82
            try clear c83
            try clear c83b0
            try clear c83b1
            try clear c84
            try clear c85
            try clear c86
            try clear c88
            try clear c89
            try clear c92
            try clear c93
            try clear c94
            try clear c96
            try clear c97
            try clear c100
            try clear c101
            try clear c102
            try clear c104
            try clear c105
            try clear c108
            try clear c111
            try clear c111b0
            try clear c112
            try clear c113
            try clear c114
            try clear c119
            try clear c119b0
            try clear c119b1
            try clear c123
            try clear c124
            try clear c125
            try clear c130
            try clear c131
            try clear c137
            try clear c138
            try clear c139
            try clear c140
            try clear c144
            try clear c145
            try clear c145b0
            try clear c145b1
            try clear c146
            try clear c147
            try clear c148
            try clear c149
            try clear c151
            try clear c152
            try clear c153
            try clear c156
            try clear c157
            try clear c158
            try clear c159
            try clear c161
            try clear c162
            try clear c163
            try clear c166
            try clear c167
            try clear c168
            try clear c169
            try clear c171
            try clear c172
            try clear c173
            try clear hcz103_0 hcz103_1 hcz103_2
            try clear hcz106_0 hcz106_1 hcz106_2
            try clear hcz115_0 hcz115_1 hcz115_2
            try clear hcz117_0 hcz117_1 hcz117_2
            try clear hcz126_0 hcz126_1 hcz126_2
            try clear hcz128_0 hcz128_1 hcz128_2
            try clear hcz132_0 hcz132_1 hcz132_2
            try clear hcz141_0 hcz141_1 hcz141_2
            try clear hcz14_0 hcz14_1 hcz14_2
            try clear hcz150_0 hcz150_1 hcz150_2
            try clear hcz154_0 hcz154_1 hcz154_2
            try clear hcz160_0 hcz160_1 hcz160_2
            try clear hcz164_0 hcz164_1 hcz164_2
            try clear hcz16_0 hcz16_1 hcz16_2
            try clear hcz170_0 hcz170_1 hcz170_2
            try clear hcz174_0 hcz174_1 hcz174_2
            try clear hcz22_0 hcz22_1 hcz22_2
            try clear hcz24_0 hcz24_1 hcz24_2
            try clear hcz29_0 hcz29_1 hcz29_2
            try clear hcz36_0 hcz36_1 hcz36_2
            try clear hcz44_0 hcz44_1 hcz44_2
            try clear hcz47_0 hcz47_1 hcz47_2
            try clear hcz52_0 hcz52_1 hcz52_2
            try clear hcz55_0 hcz55_1 hcz55_2
            try clear hcz60_0 hcz60_1 hcz60_2
            try clear hcz63_0 hcz63_1 hcz63_2
            try clear hcz6_0 hcz6_1 hcz6_2
            try clear hcz78_0 hcz78_1 hcz78_2
            try clear hcz87_0 hcz87_1 hcz87_2
            try clear hcz90_0 hcz90_1 hcz90_2
            try clear hcz95_0 hcz95_1 hcz95_2
            try clear hcz98_0 hcz98_1 hcz98_2
            try clear hfz103_0 hfz103_1 hfz103_2
            try clear hfz106_0 hfz106_1 hfz106_2
            try clear hfz115_0 hfz115_1 hfz115_2
            try clear hfz117_0 hfz117_1 hfz117_2
            try clear hfz126_0 hfz126_1 hfz126_2
            try clear hfz128_0 hfz128_1 hfz128_2
            try clear hfz132_0 hfz132_1 hfz132_2
            try clear hfz141_0 hfz141_1 hfz141_2
            try clear hfz14_0 hfz14_1 hfz14_2
            try clear hfz150_0 hfz150_1 hfz150_2
            try clear hfz154_0 hfz154_1 hfz154_2
            try clear hfz160_0 hfz160_1 hfz160_2
            try clear hfz164_0 hfz164_1 hfz164_2
            try clear hfz16_0 hfz16_1 hfz16_2
            try clear hfz170_0 hfz170_1 hfz170_2
            try clear hfz174_0 hfz174_1 hfz174_2
            try clear hfz22_0 hfz22_1 hfz22_2
            try clear hfz24_0 hfz24_1 hfz24_2
            try clear hfz29_0 hfz29_1 hfz29_2
            try clear hfz36_0 hfz36_1 hfz36_2
            try clear hfz44_0 hfz44_1 hfz44_2
            try clear hfz47_0 hfz47_1 hfz47_2
            try clear hfz52_0 hfz52_1 hfz52_2
            try clear hfz55_0 hfz55_1 hfz55_2
            try clear hfz60_0 hfz60_1 hfz60_2
            try clear hfz63_0 hfz63_1 hfz63_2
            try clear hfz6_0 hfz6_1 hfz6_2
            try clear hfz78_0 hfz78_1 hfz78_2
            try clear hfz87_0 hfz87_1 hfz87_2
            try clear hfz90_0 hfz90_1 hfz90_2
            try clear hfz95_0 hfz95_1 hfz95_2
            try clear hfz98_0 hfz98_1 hfz98_2
            try clear p2
            obtain⟨kq,x113_121,rfl,HA,HJ121,HO_348001,HO_354001,HO_362001,HO_388001,BK333,BK347,BK353,BK361,BK387,HB⟩:=hcut
            have hl362001_121:=(Kd.S_reads' HO_362001.out).1
            rw[hl362001_121] at HO_362001
            (try simp only[hl362001_121])
            (try simp only[hl362001_121] at BK333)
            (try simp only[hl362001_121] at BK347)
            (try simp only[hl362001_121] at BK353)
            (try simp only[hl362001_121] at BK361)
            (try simp only[hl362001_121] at BK387)
            (try simp only[hl362001_121] at HO_348001)
            (try simp only[hl362001_121] at HO_354001)
            (try simp only[hl362001_121] at HO_388001)
            cases kq with
            | zero=>exact absurd HA.out (by simp[laws_FnExactRunRounds.j2])
            | succ kj121 =>
             have H:=HA.out
             clear HA
             simp only[laws_FnExactRunRounds.j2] at H
             by_cases c176:x113_121=true
             ·subst c176
              have H1:(some false)=some r:=by rw[if_pos rfl] at H;exact H
              clear H
              have H:=H1
              clear H1
              obtain rfl:=Option.some.inj H
              go_wp2
              go_ret
              exact⟨bE,bS5 GE333.out GE347.out GE353.out GE361.out GE387.out⟩
             ·replace c176:=Bool.eq_false_iff.mpr c176
              subst c176
              have H1:((laws_heldTurns.f kj121 t354 t373 t358 1).bind fun t389=>(if t389 < 0 then (some false) else (if t389=t372 then (some true) else (some false))))=some r:=by rw[if_neg (show ¬ (false=true) by decide)] at H;exact H
              clear H
              have H:=H1
              clear H1
              replace H:=Option.bind_eq_some_iff.mp H
              obtain⟨t389,A1770,H⟩:=H
              have A177:=Aside0.mk A1770
              clear A1770
              by_cases c178:t389 < 0
              ·rw[if_pos c178] at H
               have c178b0:decide (t389 < 0)=true:=decide_eq_true c178
               clear c178
               obtain rfl:=Option.some.inj H
               have hnb179:=NB361_333.out
               have hnc179:=NB333_361.out
               have hnb180:=NB361_347.out
               have hnc180:=NB347_361.out
               have hnb181:=NB361_353.out
               have hnc181:=NB353_361.out
               have hnb182:=NB361_387.out
               have hnc182:=NB387_361.out
               obtain⟨hcz183_0,hcz183_1,hcz183_2⟩:=cC3 BK361.out
               obtain⟨hfz183_0,hfz183_1,hfz183_2⟩:=cF3 BK361.out
               go_wp2_with (first|((with_reducible refine gate_callee (f:=21) rfl ?_);refine goesA (some 116) rfl rfl Try.func21 #[.agg #[.int .i64 t354,.slice Ao37 t373.length co37,.int .i64 t358],.int .i64 1] rfl ?_;(with_reducible refine(laws_heldTurns.calls kj121 t354 _ _ t373 t358 1 t389 _ ?side1 ?side2 A177.out).mono ?_);(case side1=>repeat (first|exact(Kd.S_reads' HO_362001.out).2.2|(with_reducible refine Kd.C_alloc ?_ _)|(with_reducible refine Kd.C_drewN ?_ _)|(with_reducible refine Kd.C_drew ?_)));(case side2=>exact(Kd.S_reads' HO_362001.out).2.1);rintro e w184 ⟨rfl,hb⟩;refine⟨_,rfl,?_⟩;have n0_:=Aside0.mk (Kd.S_below (by(with_reducible repeat (first|apply Kd.S_alloc|apply Kd.S_drewN|apply Kd.S_drew));exact HO_348001.out) hb);have n1_:=Aside0.mk (Kd.S_below (by(with_reducible repeat (first|apply Kd.S_alloc|apply Kd.S_drewN|apply Kd.S_drew));exact HO_354001.out) hb);have n2_:=Aside0.mk (Kd.S_below (by(with_reducible repeat (first|apply Kd.S_alloc|apply Kd.S_drewN|apply Kd.S_drew));exact HO_362001.out) hb);have n3_:=Aside0.mk (Kd.S_below (by(with_reducible repeat (first|apply Kd.S_alloc|apply Kd.S_drewN|apply Kd.S_drew));exact HO_388001.out) hb);have n4_:=Aside0.mk (bM BK333.out hb);have n5_:=Aside0.mk (bM BK347.out hb);have n6_:=Aside0.mk (bM BK353.out hb);have n7_:=Aside0.mk (bM BK361.out hb);have n8_:=Aside0.mk (bM BK387.out hb);have n9_:=Aside0.mk (below_step (bS5 GE333.out GE347.out GE353.out GE361.out GE387.out) hb);clear HO_348001 HO_354001 HO_362001 HO_388001 BK333 BK347 BK353 BK361 BK387 HB;have HO_348001:=n0_;have HO_354001:=n1_;have HO_362001:=n2_;have HO_388001:=n3_;have BK333:=n4_;have BK347:=n5_;have BK353:=n6_;have BK361:=n7_;have BK387:=n8_;have HB:=n9_;clear n0_ n1_ n2_ n3_ n4_ n5_ n6_ n7_ n8_ n9_;(try clear hb);(try clear hb2);(try clear hk);(try clear hi)))
               go_ret
               exact⟨bE,bS5 GE333.out GE347.out GE353.out GE361.out GE387.out⟩
              ·rw[if_neg c178] at H
               have c178b0:decide (t389 < 0)=false:=decide_eq_false c178
               clear c178
               by_cases c185:t389=t372
               ·rw[if_pos c185] at H
                have c185b0:(t389 == t372)=true:=beq_iff_eq.mpr c185
                have c185b1:(t389 != t372)=false:=bne_eq_false_iff_eq.mpr c185
                clear c185
                obtain rfl:=Option.some.inj H
                have hnb186:=NB361_333.out
                have hnc186:=NB333_361.out
                have hnb187:=NB361_347.out
                have hnc187:=NB347_361.out
                have hnb188:=NB361_353.out
                have hnc188:=NB353_361.out
                have hnb189:=NB361_387.out
                have hnc189:=NB387_361.out
                obtain⟨hcz190_0,hcz190_1,hcz190_2⟩:=cC3 BK361.out
                obtain⟨hfz190_0,hfz190_1,hfz190_2⟩:=cF3 BK361.out
                go_wp2_with (first|((with_reducible refine gate_callee (f:=21) rfl ?_);refine goesA (some 116) rfl rfl Try.func21 #[.agg #[.int .i64 t354,.slice Ao37 t373.length co37,.int .i64 t358],.int .i64 1] rfl ?_;(with_reducible refine(laws_heldTurns.calls kj121 t354 _ _ t373 t358 1 t389 _ ?side1 ?side2 A177.out).mono ?_);(case side1=>repeat (first|exact(Kd.S_reads' HO_362001.out).2.2|(with_reducible refine Kd.C_alloc ?_ _)|(with_reducible refine Kd.C_drewN ?_ _)|(with_reducible refine Kd.C_drew ?_)));(case side2=>exact(Kd.S_reads' HO_362001.out).2.1);rintro e w191 ⟨rfl,hb⟩;refine⟨_,rfl,?_⟩;have n0_:=Aside0.mk (Kd.S_below (by(with_reducible repeat (first|apply Kd.S_alloc|apply Kd.S_drewN|apply Kd.S_drew));exact HO_348001.out) hb);have n1_:=Aside0.mk (Kd.S_below (by(with_reducible repeat (first|apply Kd.S_alloc|apply Kd.S_drewN|apply Kd.S_drew));exact HO_354001.out) hb);have n2_:=Aside0.mk (Kd.S_below (by(with_reducible repeat (first|apply Kd.S_alloc|apply Kd.S_drewN|apply Kd.S_drew));exact HO_362001.out) hb);have n3_:=Aside0.mk (Kd.S_below (by(with_reducible repeat (first|apply Kd.S_alloc|apply Kd.S_drewN|apply Kd.S_drew));exact HO_388001.out) hb);have n4_:=Aside0.mk (bM BK333.out hb);have n5_:=Aside0.mk (bM BK347.out hb);have n6_:=Aside0.mk (bM BK353.out hb);have n7_:=Aside0.mk (bM BK361.out hb);have n8_:=Aside0.mk (bM BK387.out hb);have n9_:=Aside0.mk (below_step (bS5 GE333.out GE347.out GE353.out GE361.out GE387.out) hb);clear HO_348001 HO_354001 HO_362001 HO_388001 BK333 BK347 BK353 BK361 BK387 HB;have HO_348001:=n0_;have HO_354001:=n1_;have HO_362001:=n2_;have HO_388001:=n3_;have BK333:=n4_;have BK347:=n5_;have BK353:=n6_;have BK361:=n7_;have BK387:=n8_;have HB:=n9_;clear n0_ n1_ n2_ n3_ n4_ n5_ n6_ n7_ n8_ n9_;(try clear hb);(try clear hb2);(try clear hk);(try clear hi)))
                go_ret
                exact⟨bE,bS5 GE333.out GE347.out GE353.out GE361.out GE387.out⟩
               ·rw[if_neg c185] at H
                have c185b0:(t389 == t372)=false:=beq_eq_false_iff_ne.mpr c185
                have c185b1:(t389 != t372)=true:=bne_iff_ne.mpr c185
                obtain rfl:=Option.some.inj H
                have hnb192:=NB361_333.out
                have hnc192:=NB333_361.out
                have hnb193:=NB361_347.out
                have hnc193:=NB347_361.out
                have hnb194:=NB361_353.out
                have hnc194:=NB353_361.out
                have hnb195:=NB361_387.out
                have hnc195:=NB387_361.out
                obtain⟨hcz196_0,hcz196_1,hcz196_2⟩:=cC3 BK361.out
                obtain⟨hfz196_0,hfz196_1,hfz196_2⟩:=cF3 BK361.out
                go_wp2_with (first|((with_reducible refine gate_callee (f:=21) rfl ?_);refine goesA (some 116) rfl rfl Try.func21 #[.agg #[.int .i64 t354,.slice Ao37 t373.length co37,.int .i64 t358],.int .i64 1] rfl ?_;(with_reducible refine(laws_heldTurns.calls kj121 t354 _ _ t373 t358 1 t389 _ ?side1 ?side2 A177.out).mono ?_);(case side1=>repeat (first|exact(Kd.S_reads' HO_362001.out).2.2|(with_reducible refine Kd.C_alloc ?_ _)|(with_reducible refine Kd.C_drewN ?_ _)|(with_reducible refine Kd.C_drew ?_)));(case side2=>exact(Kd.S_reads' HO_362001.out).2.1);rintro e w197 ⟨rfl,hb⟩;refine⟨_,rfl,?_⟩;have n0_:=Aside0.mk (Kd.S_below (by(with_reducible repeat (first|apply Kd.S_alloc|apply Kd.S_drewN|apply Kd.S_drew));exact HO_348001.out) hb);have n1_:=Aside0.mk (Kd.S_below (by(with_reducible repeat (first|apply Kd.S_alloc|apply Kd.S_drewN|apply Kd.S_drew));exact HO_354001.out) hb);have n2_:=Aside0.mk (Kd.S_below (by(with_reducible repeat (first|apply Kd.S_alloc|apply Kd.S_drewN|apply Kd.S_drew));exact HO_362001.out) hb);have n3_:=Aside0.mk (Kd.S_below (by(with_reducible repeat (first|apply Kd.S_alloc|apply Kd.S_drewN|apply Kd.S_drew));exact HO_388001.out) hb);have n4_:=Aside0.mk (bM BK333.out hb);have n5_:=Aside0.mk (bM BK347.out hb);have n6_:=Aside0.mk (bM BK353.out hb);have n7_:=Aside0.mk (bM BK361.out hb);have n8_:=Aside0.mk (bM BK387.out hb);have n9_:=Aside0.mk (below_step (bS5 GE333.out GE347.out GE353.out GE361.out GE387.out) hb);clear HO_348001 HO_354001 HO_362001 HO_388001 BK333 BK347 BK353 BK361 BK387 HB;have HO_348001:=n0_;have HO_354001:=n1_;have HO_362001:=n2_;have HO_388001:=n3_;have BK333:=n4_;have BK347:=n5_;have BK353:=n6_;have BK361:=n7_;have BK387:=n8_;have HB:=n9_;clear n0_ n1_ n2_ n3_ n4_ n5_ n6_ n7_ n8_ n9_;(try clear hb);(try clear hb2);(try clear hk);(try clear hi)))
                go_ret
                exact⟨bE,bS5 GE333.out GE347.out GE353.out GE361.out GE387.out⟩
          ·rw[if_neg c119] at H
           have c119b0:(t374 == t372)=false:=beq_eq_false_iff_ne.mpr c119
           have c119b1:(t374 != t372)=true:=bne_iff_ne.mpr c119
           obtain rfl:=Option.some.inj H
           have hnb198:=NB361_333.out
           have hnc198:=NB333_361.out
           have hnb199:=NB361_347.out
           have hnc199:=NB347_361.out
           have hnb200:=NB361_353.out
           have hnc200:=NB353_361.out
           obtain⟨hcz201_0,hcz201_1,hcz201_2⟩:=cC3 BK361.out
           obtain⟨hfz201_0,hfz201_1,hfz201_2⟩:=cF3 BK361.out
           go_wp2_with (first|((with_reducible refine gate_callee (f:=20) rfl ?_);refine goesA (some 83) rfl rfl Try.func20 #[.agg #[.int .i64 t354,.slice Ao37 t355.length co37,.int .i64 t358],.int .i64 1] rfl ?_;obtain⟨P0_,hPS_,hPO_,hPB_⟩:=markable_ HO_362001.out;(with_reducible refine(laws_markTurns.calls kj69 t354 P0_ (.slice Ao37 t355.length co37) t355 t358 1 t372 t373 w _ ?side1 ?side2 A109.out).mono ?_);(case side1=>repeat (first|(with_reducible first|exact HB.out|apply below_alloc|apply pw_below_drewN|apply below_drew1|refine below_set ?_ GE333.out|refine below_set ?_ GE347.out|refine below_set ?_ GE353.out|refine below_set ?_ GE361.out)|exact HB.out));(case side2=>exact hPS_);rintro e w202 ⟨rfl,hy0,hb,hkp⟩;refine⟨_,rfl,?_⟩;have n0_:=Aside0.mk (Kd.S_mono (ok':=fun k_=>k_ < N350_∧k_ < N356_) (Kd.S_keptB (HO_348001.out) hkp (fun k_ hk_ hs_=>by have h1_:=hPO_ k_ hs_;(try dsimp only at h1_ hk_);omega)) (fun k_ hk_=>⟨hk_.1.1,hk_.1.2⟩));have n1_:=Aside0.mk (Kd.S_mono (ok':=fun k_=>N350_≤k_∧k_ < N356_) (Kd.S_keptB (HO_354001.out) hkp (fun k_ hk_ hs_=>by have h1_:=hPO_ k_ hs_;(try dsimp only at h1_ hk_);omega)) (fun k_ hk_=>⟨hk_.1.1,hk_.1.2⟩));have n2_:=Aside0.mk (Kd.S_mono hy0 (fun k_ h_=>hPO_ k_ h_));have n3_:=Aside0.mk (blk_kept (bL BK333.out) hkp (hPB_ _ _ _ BK333.out (by decide)));have n4_:=Aside0.mk (blk_kept (bL BK347.out) hkp (hPB_ _ _ _ BK347.out (by decide)));have n5_:=Aside0.mk (blk_kept (bL BK353.out) hkp (hPB_ _ _ _ BK353.out (by decide)));have n6_:=Aside0.mk (blk_kept (bL BK361.out) hkp (hPB_ _ _ _ BK361.out (by decide)));have n7_:=Aside0.mk (hb);clear HO_348001 HO_354001 HO_362001 BK333 BK347 BK353 BK361 HB;have HO_348001:=n0_;have HO_354001:=n1_;have HO_362001:=n2_;have BK333:=n3_;have BK347:=n4_;have BK353:=n5_;have BK361:=n6_;have HB:=n7_;clear n0_ n1_ n2_ n3_ n4_ n5_ n6_ n7_;(try clear hb);(try clear hkp);(try clear hy0);obtain⟨hcz203_0,hcz203_1,hcz203_2⟩:=cC3 BK361.out;obtain⟨hfz203_0,hfz203_1,hfz203_2⟩:=cF3 BK361.out)|((with_reducible refine gate_callee (f:=21) rfl ?_);refine goesL_ (some 86) rfl rfl Try.func21 (by kernel_rfl) rfl #[.agg #[.int .i64 t354,.slice Ao37 t373.length co37,.int .i64 t358],.int .i64 1] rfl (by(try simp only[List.map_toArray,List.map_cons,List.map_nil]);first|done|(rw[show t373.length=t355.length from (Kd.S_reads' HO_362001.out).1.symm]<;>rfl)|rfl|(simp only[List.length_drop,List.length_take];rfl)) ?_;(with_reducible refine(laws_heldTurns.calls kj69 t354 _ _ t373 t358 1 t374 _ ?side1 ?side2 A110.out).mono ?_);(case side1=>repeat (first|exact(Kd.S_reads' HO_362001.out).2.2|(with_reducible refine Kd.C_alloc ?_ _)|(with_reducible refine Kd.C_drewN ?_ _)|(with_reducible refine Kd.C_drew ?_)));(case side2=>rw[show t373.length=t355.length from (Kd.S_reads' HO_362001.out).1.symm];exact(Kd.S_reads' HO_362001.out).2.1);rintro e w204 ⟨rfl,hb⟩;refine⟨_,rfl,?_⟩;have n0_:=Aside0.mk (Kd.S_below (by(with_reducible repeat (first|apply Kd.S_alloc|apply Kd.S_drewN|apply Kd.S_drew));exact HO_348001.out) hb);have n1_:=Aside0.mk (Kd.S_below (by(with_reducible repeat (first|apply Kd.S_alloc|apply Kd.S_drewN|apply Kd.S_drew));exact HO_354001.out) hb);have n2_:=Aside0.mk (Kd.S_below (by(with_reducible repeat (first|apply Kd.S_alloc|apply Kd.S_drewN|apply Kd.S_drew));exact HO_362001.out) hb);have n3_:=Aside0.mk (bM BK333.out hb);have n4_:=Aside0.mk (bM BK347.out hb);have n5_:=Aside0.mk (bM BK353.out hb);have n6_:=Aside0.mk (bM BK361.out hb);have n7_:=Aside0.mk (below_step (bS4 GE333.out GE347.out GE353.out GE361.out) hb);clear HO_348001 HO_354001 HO_362001 BK333 BK347 BK353 BK361 HB;have HO_348001:=n0_;have HO_354001:=n1_;have HO_362001:=n2_;have BK333:=n3_;have BK347:=n4_;have BK353:=n5_;have BK361:=n6_;have HB:=n7_;clear n0_ n1_ n2_ n3_ n4_ n5_ n6_ n7_;(try clear hb);(try clear hb2);(try clear hk);(try clear hi)))
           go_ret
           exact⟨bE,bS4 GE333.out GE347.out GE353.out GE361.out⟩
     ·replace c68:=Bool.eq_false_iff.mpr c68
      subst c68
      have H1:(some false)=some r:=by rw[if_neg (show ¬ (false=true) by decide)] at H;exact H
      clear H
      have H:=H1
      clear H1
      obtain rfl:=Option.some.inj H
      try go_wp2
      have n0_:=Aside0.mk (Kd.S_drew HO_348001.out)
      have n1_:=Aside0.mk (Kd.S_drew HO_354001.out)
      have n2_:=Aside0.mk (Kd.S_drew HO_362001.out)
      have n3_:=Aside0.mk (blk_drew BK333.out)
      have n4_:=Aside0.mk (blk_drew BK347.out)
      have n5_:=Aside0.mk (blk_drew BK353.out)
      have n6_:=Aside0.mk (blk_drew BK361.out)
      have n7_:=Aside0.mk (below_drew1 HB.out)
      clear HO_348001 HO_354001 HO_362001 BK333 BK347 BK353 BK361 HB
      have HO_348001:=n0_
      have HO_354001:=n1_
      have HO_362001:=n2_
      have BK333:=n3_
      have BK347:=n4_
      have BK353:=n5_
      have BK361:=n6_
      have HB:=n7_
      clear n0_ n1_ n2_ n3_ n4_ n5_ n6_ n7_
      refine start_ (n:=5) (S:=fun w'=>w'.cell? ⟨gb353,0,none⟩=some (.int .i64 t348)∧w'.cell? ⟨gb353,1,none⟩=some (.slice Ao30 t349.length co30)∧w'.cell? ⟨gb353,2,none⟩=some (.int .i64 t352)∧w'.cell? ⟨gb333,0,none⟩=some (.int .i64 a0_0)∧w'.cell? ⟨gb333,1,none⟩=some (.slice A0_1 l0_1.length c0_1)∧w'.cell? ⟨gb333,2,none⟩=some (.int .i64 a0_2)) (ds:=[]) #[false,false,false,false,false] (by kernel_rfl) rfl rfl ⟨(blk_cell BK353.out 0).trans rfl,(blk_cell BK353.out 1).trans rfl,(blk_cell BK353.out 2).trans rfl,(blk_cell BK333.out 0).trans rfl,(blk_cell BK333.out 1).trans rfl,(blk_cell BK333.out 2).trans rfl⟩ (fun hHeld => ?_)
      generalize wc.drew=w205 at HO_348001 HO_354001 HO_362001 BK333 BK347 BK353 BK361 HB hHeld ⊢
      refine take_ (i:=0) (N:=some 55) (v:=?_) (a':=?_) #[true,false,false,false,false] rfl rfl (by kernel_rfl) (fun _ _ _ h=>h) (Or.inl ⟨by rfl,?_⟩) hHeld ?_ ?_
      rotate_left
      ·rintro w' ⟨s0,s1,s2,s3,s4,s5⟩
       go_simp
       with_reducible rfl
      rotate_left
      ·simp only[Act.put,List.setIfInBounds_toArray,List.set_cons_zero,List.set_cons_succ,i64_w,i32_w]
       rfl
      refine take_ (i:=1) (N:=some 56) (v:=?_) (a':=?_) #[true,true,false,false,false] rfl rfl (by kernel_rfl) (fun _ _ _ h=>h) (Or.inl ⟨by rfl,?_⟩) hHeld ?_ ?_
      rotate_left
      ·rintro w' ⟨s0,s1,s2,s3,s4,s5⟩
       go_simp
       with_reducible rfl
      rotate_left
      ·simp only[Act.put,List.setIfInBounds_toArray,List.set_cons_zero,List.set_cons_succ,i64_w,i32_w]
       rfl
      refine one_ (i:=2) (N:=some 57) #[true,true,true,false,false] rfl rfl (by kernel_rfl) (by decide) (fun K hK => ?_)
      refine goes_ Try.func17 (by kernel_rfl) rfl #[.agg #[.int .i64 a0_0,.slice A0_1 l0_1.length c0_1,.int .i64 a0_2]] (by rfl) rfl rfl (by(try simp only[List.map_toArray,List.map_cons,List.map_nil]);first|done|rfl|(simp only[List.length_drop,List.length_take];rfl)) ?_
      with_reducible refine(laws_toTurns.calls kj11 a0_0 _ _ l0_1 a0_2 t363 t364 t367 _ ?side1 ?side2 A66.out).mono ?_
      (case side1=>exact bC HR0_1.out)
      (case side2=>exact HC0_1.out)
      rintro e w206 ⟨v365,rfl,ho0,hb⟩
      refine⟨_,rfl,?_⟩
      obtain⟨N365_,hN_⟩:=sizeof_ hb
      have n0_:=Aside0.mk (S_oldN (by(with_reducible repeat (first|apply Kd.S_alloc|apply Kd.S_drewN|apply Kd.S_drew));exact HO_348001.out) hb hN_)
      have n1_:=Aside0.mk (S_oldN (by(with_reducible repeat (first|apply Kd.S_alloc|apply Kd.S_drewN|apply Kd.S_drew));exact HO_354001.out) hb hN_)
      have n2_:=Aside0.mk (S_oldN (by(with_reducible repeat (first|apply Kd.S_alloc|apply Kd.S_drewN|apply Kd.S_drew));exact HO_362001.out) hb hN_)
      have n3_:=Aside0.mk (Kd.S_lower (S_newN (S_newN (S_newN ho0 hN_) hN_) hN_) (below_size (bS4 GE333.out GE347.out GE353.out GE361.out)))
      have n4_:=Aside0.mk (bM BK333.out hb)
      have n5_:=Aside0.mk (bM BK347.out hb)
      have n6_:=Aside0.mk (bM BK353.out hb)
      have n7_:=Aside0.mk (bM BK361.out hb)
      have n8_:=Aside0.mk (below_step (bS4 GE333.out GE347.out GE353.out GE361.out) hb)
      clear HO_348001 HO_354001 HO_362001 BK333 BK347 BK353 BK361 HB
      have HO_348001:=n0_
      have HO_354001:=n1_
      have HO_362001:=n2_
      have HO366:=n3_
      have BK333:=n4_
      have BK347:=n5_
      have BK353:=n6_
      have BK361:=n7_
      have HB:=n8_
      clear n0_ n1_ n2_ n3_ n4_ n5_ n6_ n7_ n8_
      (try clear hb)
      (try clear hb2)
      (try clear hk)
      (try clear hi)
      (try clear ho0)
      obtain⟨Ao207,co207,eo207⟩:=Kd.S_slice HO366.out
      (first|subst eo207|(injection eo207 with f1_ f2_ f3_;have f4_:=f1_.symm;have f5_:=f3_.symm;clear f1_ f2_ f3_;subst f4_;subst f5_))
      refine hK.out _ _ ⟨(blk_cell BK353.out 0).trans rfl,(blk_cell BK353.out 1).trans rfl,(blk_cell BK353.out 2).trans rfl,(blk_cell BK333.out 0).trans rfl,(blk_cell BK333.out 1).trans rfl,(blk_cell BK333.out 2).trans rfl⟩ (fun hHeld => ?_)
      clear hK K
      refine norm_ (a':=?_) ?_ ?_
      rotate_left
      ·show Act.put _ (some 57) _=_
       simp only[Act.put,List.setIfInBounds_toArray,List.set_cons_zero,List.set_cons_succ,i64_w,i32_w]
       rfl
      refine one_ (i:=3) (N:=some 58) #[true,true,true,true,false] rfl rfl (by kernel_rfl) (by decide) (fun K hK => ?_)
      refine goes_ Try.func19 (by kernel_rfl) rfl #[.agg #[.int .i64 t348,.slice Ao30 t349.length co30,.int .i64 t352],.agg #[.int .i64 t363,.slice Ao207 t364.length co207,.int .i64 t367]] (by rfl) rfl rfl (by(try simp only[List.map_toArray,List.map_cons,List.map_nil]);first|done|rfl|(simp only[List.length_drop,List.length_take];rfl)) ?_
      with_reducible refine(laws_eqTurns.calls kj11 t348 _ _ t349 t352 t363 _ _ t364 t367 false _ ?side1 ?side2 ?side3 ?side4 A67.out).mono ?_
      (case side1=>repeat (first|exact(Kd.S_reads' HO_354001.out).2.2|(with_reducible refine Kd.C_alloc ?_ _)|(with_reducible refine Kd.C_drewN ?_ _)|(with_reducible refine Kd.C_drew ?_)))
      (case side2=>exact(Kd.S_reads' HO_354001.out).2.1)
      (case side3=>repeat (first|exact(Kd.S_reads' HO366.out).2.2|(with_reducible refine Kd.C_alloc ?_ _)|(with_reducible refine Kd.C_drewN ?_ _)|(with_reducible refine Kd.C_drew ?_)))
      (case side4=>exact(Kd.S_reads' HO366.out).2.1)
      rintro e w208 ⟨rfl,hb⟩
      refine⟨_,rfl,?_⟩
      have n0_:=Aside0.mk (Kd.S_below (by(with_reducible repeat (first|apply Kd.S_alloc|apply Kd.S_drewN|apply Kd.S_drew));exact HO_348001.out) hb)
      have n1_:=Aside0.mk (Kd.S_below (by(with_reducible repeat (first|apply Kd.S_alloc|apply Kd.S_drewN|apply Kd.S_drew));exact HO_354001.out) hb)
      have n2_:=Aside0.mk (Kd.S_below (by(with_reducible repeat (first|apply Kd.S_alloc|apply Kd.S_drewN|apply Kd.S_drew));exact HO_362001.out) hb)
      have n3_:=Aside0.mk (Kd.S_below (by(with_reducible repeat (first|apply Kd.S_alloc|apply Kd.S_drewN|apply Kd.S_drew));exact HO366.out) hb)
      have n4_:=Aside0.mk (bM BK333.out hb)
      have n5_:=Aside0.mk (bM BK347.out hb)
      have n6_:=Aside0.mk (bM BK353.out hb)
      have n7_:=Aside0.mk (bM BK361.out hb)
      have n8_:=Aside0.mk (below_step (bS4 GE333.out GE347.out GE353.out GE361.out) hb)
      clear HO_348001 HO_354001 HO_362001 HO366 BK333 BK347 BK353 BK361 HB
      have HO_348001:=n0_
      have HO_354001:=n1_
      have HO_362001:=n2_
      have HO366:=n3_
      have BK333:=n4_
      have BK347:=n5_
      have BK353:=n6_
      have BK361:=n7_
      have HB:=n8_
      clear n0_ n1_ n2_ n3_ n4_ n5_ n6_ n7_ n8_
      (try clear hb)
      (try clear hb2)
      (try clear hk)
      (try clear hi)
      refine hK.out _ _ ⟨(blk_cell BK353.out 0).trans rfl,(blk_cell BK353.out 1).trans rfl,(blk_cell BK353.out 2).trans rfl,(blk_cell BK333.out 0).trans rfl,(blk_cell BK333.out 1).trans rfl,(blk_cell BK333.out 2).trans rfl⟩ (fun hHeld => ?_)
      clear hK K
      refine norm_ (a':=?_) ?_ ?_
      rotate_left
      ·show Act.put _ (some 58) _=_
       simp only[Act.put,List.setIfInBounds_toArray,List.set_cons_zero,List.set_cons_succ,i64_w,i32_w]
       rfl
      refine pure_ (i:=4) (N:=some 59) (v:=?_) (a':=?_) #[true,true,true,true,true] rfl rfl (by kernel_rfl) (fun _ _ _ h=>h) (Or.inl ⟨by rfl,?_⟩) ?_ ?_
      rotate_left
      ·intro w'
       go_simp
       with_reducible rfl
      rotate_left
      ·simp only[Act.put,List.setIfInBounds_toArray,List.set_cons_zero,List.set_cons_succ,i64_w,i32_w]
       rfl
      refine done_ (by kernel_rfl) ?_
      try go_wp2
      go_ret
      exact⟨bE,bS4 GE333.out GE347.out GE353.out GE361.out⟩

end Go.Proofs.Yteneeohaoplpbaa.XFnExactRunRounds
