-- Written by this session's own program (wip/xprint.py) out of the translation; Lean checks it.
import Derived.Test.YteneeohaoplpbaaXFnExactNextRoundx0
import Derived.Test.YteneeohaoplpbaaXFnExactNextRoundx1
import Derived.Test.YteneeohaoplpbaaXFnExactNextRoundx2
import Derived.Test.YteneeohaoplpbaaXFnExactNextRoundx3
import Derived.Test.YteneeohaoplpbaaXFnExactNextRoundx5
import Derived.Test.YteneeohaoplpbaaXFnExactNextRoundx7
namespace Go.Proofs.Yteneeohaoplpbaa.XFnExactNextRound
open Go.RowKit Go.Proofs.YteneeohaoplpbaaW.PrintWords Go.Proofs.YteneeohaoplpbaaW.PrintLast Go.Proofs.YteneeohaoplpbaaW.PrintMore
attribute [local go_sem] max2_int min2_int max_two min_two max_three min_three max_four min_four   -- for this text's walks alone
set_option linter.unusedVariables false
set_option linter.unusedSimpArgs false

/-! ### laws_FnExactNextRound: function 7 -/
mutual
def laws_FnExactNextRound.j0:Nat→List Int→Bool→List Int→Bool→Bool→Int→List (S167)→Int→Int→List (S116)→Int→Int→List (S116)→Int→Int→List (S116)→Int→Option (Bool)
 | 0,_,_,_,_,_,_,_,_,_,_,_,_,_,_,_,_,_=>none
 | k+1,x5,x6,x9,x10,x51,x295000,x295001,x295002,x311000,x311001,x311002,x317000,x317001,x317002,x327000,x327001,x327002=>if x51=true then (some false) else ((laws_toTurns.f k x295000 x295001 x295002).bind fun bt329=>((laws_eqTurns.f k x317000 x317001 x317002 bt329.1 bt329.2.1 bt329.2.2).bind fun t334=>(if t334=true then ((laws_markTurns.f k x317000 x317001 x317002 1).bind fun bt335=>(if bt335.1 < 0 then (laws_FnExactNextRound.j1 k x5 x6 x9 true x295000 x295001 x295002 x311000 x311001 x311002 x327000 x327001 x327002) else ((laws_eqTurns.f k x327000 x327001 x327002 x311000 x311001 x311002).bind fun t337=>(if t337=true then ((laws_eqIntS.f k x9 x5).bind fun t338=>(if t338=true then (laws_FnExactNextRound.j1 k x5 x6 x9 (x10 != x6) x295000 x295001 x295002 x311000 x311001 x311002 x327000 x327001 x327002) else (laws_FnExactNextRound.j1 k x5 x6 x9 true x295000 x295001 x295002 x311000 x311001 x311002 x327000 x327001 x327002))) else (laws_FnExactNextRound.j1 k x5 x6 x9 true x295000 x295001 x295002 x311000 x311001 x311002 x327000 x327001 x327002))))) else (some false))))
def laws_FnExactNextRound.j1:Nat→List Int→Bool→List Int→Bool→Int→List (S167)→Int→Int→List (S116)→Int→Int→List (S116)→Int→Option (Bool)
 | 0,_,_,_,_,_,_,_,_,_,_,_,_,_=>none
 | k+1,x5,x6,x9,x78,x295000,x295001,x295002,x311000,x311001,x311002,x327000,x327001,x327002=>if x78=true then (some false) else ((laws_markTurns.f k x327000 x327001 x327002 1).bind fun bt339=>((laws_markIntS.f k x9 bt339.1).bind fun bt341=>((laws_heldTurns.f k x327000 bt339.2 x327002 1).bind fun t343=>(if t343 < 0 then (some false) else ((laws_heldIntS.f k bt341.2 t343).bind fun t344=>(if t344 < 0 then (some false) else (if t344=bt341.1 then ((laws_toTurns.f k x295000 x295001 x295002).bind fun bt345=>((impl_NextRound.f k bt345.1 bt345.2.1 bt345.2.2).bind fun bt350=>((laws_eqTurns.f k bt350.1 bt350.2.1 bt350.2.2.1 x311000 x311001 x311002).bind fun t360=>(if t360=true then ((laws_eqIntS.f k bt350.2.2.2.1 x5).bind fun t361=>(if t361=true then (laws_FnExactNextRound.j2 k bt341.2 bt341.1 (bt350.2.2.2.2 != x6) x327000 bt339.2 x327002) else (laws_FnExactNextRound.j2 k bt341.2 bt341.1 true x327000 bt339.2 x327002))) else (laws_FnExactNextRound.j2 k bt341.2 bt341.1 true x327000 bt339.2 x327002))))) else (some false))))))))
def laws_FnExactNextRound.j2:Nat→List Int→Int→Bool→Int→List (S116)→Int→Option (Bool)
 | 0,_,_,_,_,_,_=>none
 | k+1,x9,x12,x119,x327000,x327001,x327002=>if x119=true then (some false) else ((laws_heldTurns.f k x327000 x327001 x327002 1).bind fun t362=>(if t362 < 0 then (some false) else ((laws_heldIntS.f k x9 t362).bind fun t363=>(if t363 < 0 then (some false) else (if t363=x12 then (some true) else (some false))))))
end
def laws_FnExactNextRound.f (k:Nat) (a0_0:Int) (l0_1:List (S167)) (a0_2:Int):Option (Bool):=(laws_szTurns.f k a0_0 l0_1 a0_2 1048576).bind fun t295=>(if t295 < 0 then (some true) else ((laws_toTurns.f k a0_0 l0_1 a0_2).bind fun bt296=>((spec_NextRound.f k bt296.1 bt296.2.1 bt296.2.2).bind fun bt301=>((laws_toTurns.f k a0_0 l0_1 a0_2).bind fun bt311=>((impl_NextRound.f k bt311.1 bt311.2.1 bt311.2.2).bind fun bt317=>((laws_eqTurns.f k bt317.1 bt317.2.1 bt317.2.2.1 bt301.1 bt301.2.1 bt301.2.2.1).bind fun t327=>(if t327=true then ((laws_eqIntS.f k bt317.2.2.2.1 bt301.2.2.2.1).bind fun t328=>(if t328=true then (laws_FnExactNextRound.j0 k bt301.2.2.2.1 bt301.2.2.2.2 bt317.2.2.2.1 bt317.2.2.2.2 (bt317.2.2.2.2 != bt301.2.2.2.2) a0_0 l0_1 a0_2 bt301.1 bt301.2.1 bt301.2.2.1 bt311.1 bt311.2.1 bt311.2.2 bt317.1 bt317.2.1 bt317.2.2.1) else (laws_FnExactNextRound.j0 k bt301.2.2.2.1 bt301.2.2.2.2 bt317.2.2.2.1 bt317.2.2.2.2 true a0_0 l0_1 a0_2 bt301.1 bt301.2.1 bt301.2.2.1 bt311.1 bt311.2.1 bt311.2.2 bt317.1 bt317.2.1 bt317.2.2.1))) else (laws_FnExactNextRound.j0 k bt301.2.2.2.1 bt301.2.2.2.2 bt317.2.2.2.1 bt317.2.2.2.2 true a0_0 l0_1 a0_2 bt301.1 bt301.2.1 bt301.2.2.1 bt311.1 bt311.2.1 bt311.2.2 bt317.1 bt317.2.1 bt317.2.2.1))))))))
theorem laws_FnExactNextRound.mono_l : ∀ k,(∀ y0 y1 y2 y3 y4 y5 y6 y7 y8 y9 y10 y11 y12 y13 y14 y15 y16,LeO (laws_FnExactNextRound.j0 k y0 y1 y2 y3 y4 y5 y6 y7 y8 y9 y10 y11 y12 y13 y14 y15 y16) (laws_FnExactNextRound.j0 (k+1) y0 y1 y2 y3 y4 y5 y6 y7 y8 y9 y10 y11 y12 y13 y14 y15 y16))∧(∀ y0 y1 y2 y3 y4 y5 y6 y7 y8 y9 y10 y11 y12,LeO (laws_FnExactNextRound.j1 k y0 y1 y2 y3 y4 y5 y6 y7 y8 y9 y10 y11 y12) (laws_FnExactNextRound.j1 (k+1) y0 y1 y2 y3 y4 y5 y6 y7 y8 y9 y10 y11 y12))∧(∀ y0 y1 y2 y3 y4 y5,LeO (laws_FnExactNextRound.j2 k y0 y1 y2 y3 y4 y5) (laws_FnExactNextRound.j2 (k+1) y0 y1 y2 y3 y4 y5))
 | 0=>⟨fun _ _ _ _ _ _ _ _ _ _ _ _ _ _ _ _ _ r h=>by simp[laws_FnExactNextRound.j0] at h,fun _ _ _ _ _ _ _ _ _ _ _ _ _ r h=>by simp[laws_FnExactNextRound.j1] at h,fun _ _ _ _ _ _ r h=>by simp[laws_FnExactNextRound.j2] at h⟩
 | k+1=>by
  obtain⟨ih0,ih1,ih2⟩:=laws_FnExactNextRound.mono_l k
  refine⟨?_,?_,?_⟩
  ·intro y0 y1 y2 y3 y4 y5 y6 y7 y8 y9 y10 y11 y12 y13 y14 y15 y16
   unfold laws_FnExactNextRound.j0
   repeat' first
   | (with_reducible exact ih0 _ _ _ _ _ _ _ _ _ _ _ _ _ _ _ _ _)
   | (with_reducible exact ih1 _ _ _ _ _ _ _ _ _ _ _ _ _)
   | (with_reducible exact ih2 _ _ _ _ _ _)
   | (with_reducible exact impl_NextRound.mono _ _ _ _)
   | (with_reducible exact laws_eqIntS.mono _ _ _)
   | (with_reducible exact laws_eqTurns.mono _ _ _ _ _ _ _)
   | (with_reducible exact laws_heldIntS.mono _ _ _)
   | (with_reducible exact laws_heldTurns.mono _ _ _ _ _)
   | (with_reducible exact laws_markIntS.mono _ _ _)
   | (with_reducible exact laws_markTurns.mono _ _ _ _ _)
   | (with_reducible exact laws_szTurns.mono _ _ _ _ _)
   | (with_reducible exact laws_toTurns.mono _ _ _ _)
   | (with_reducible exact spec_NextRound.mono _ _ _ _)
   | (with_reducible exact LeO.refl _)
   | (with_reducible exact LeO.none _)
   | (with_reducible refine LeO.ite ?_ ?_)
   | (with_reducible refine LeO.bind ?_ (fun _ => ?_))
   | exact ih0 _ _ _ _ _ _ _ _ _ _ _ _ _ _ _ _ _
   | exact ih1 _ _ _ _ _ _ _ _ _ _ _ _ _
   | exact ih2 _ _ _ _ _ _
   | exact impl_NextRound.mono _ _ _ _
   | exact laws_eqIntS.mono _ _ _
   | exact laws_eqTurns.mono _ _ _ _ _ _ _
   | exact laws_heldIntS.mono _ _ _
   | exact laws_heldTurns.mono _ _ _ _ _
   | exact laws_markIntS.mono _ _ _
   | exact laws_markTurns.mono _ _ _ _ _
   | exact laws_szTurns.mono _ _ _ _ _
   | exact laws_toTurns.mono _ _ _ _
   | exact spec_NextRound.mono _ _ _ _
   | exact LeO.none _
   | refine LeO.ite ?_ ?_
   | refine LeO.bind ?_ (fun _ => ?_)
  ·intro y0 y1 y2 y3 y4 y5 y6 y7 y8 y9 y10 y11 y12
   unfold laws_FnExactNextRound.j1
   repeat' first
   | (with_reducible exact ih0 _ _ _ _ _ _ _ _ _ _ _ _ _ _ _ _ _)
   | (with_reducible exact ih1 _ _ _ _ _ _ _ _ _ _ _ _ _)
   | (with_reducible exact ih2 _ _ _ _ _ _)
   | (with_reducible exact impl_NextRound.mono _ _ _ _)
   | (with_reducible exact laws_eqIntS.mono _ _ _)
   | (with_reducible exact laws_eqTurns.mono _ _ _ _ _ _ _)
   | (with_reducible exact laws_heldIntS.mono _ _ _)
   | (with_reducible exact laws_heldTurns.mono _ _ _ _ _)
   | (with_reducible exact laws_markIntS.mono _ _ _)
   | (with_reducible exact laws_markTurns.mono _ _ _ _ _)
   | (with_reducible exact laws_szTurns.mono _ _ _ _ _)
   | (with_reducible exact laws_toTurns.mono _ _ _ _)
   | (with_reducible exact spec_NextRound.mono _ _ _ _)
   | (with_reducible exact LeO.refl _)
   | (with_reducible exact LeO.none _)
   | (with_reducible refine LeO.ite ?_ ?_)
   | (with_reducible refine LeO.bind ?_ (fun _ => ?_))
   | exact ih0 _ _ _ _ _ _ _ _ _ _ _ _ _ _ _ _ _
   | exact ih1 _ _ _ _ _ _ _ _ _ _ _ _ _
   | exact ih2 _ _ _ _ _ _
   | exact impl_NextRound.mono _ _ _ _
   | exact laws_eqIntS.mono _ _ _
   | exact laws_eqTurns.mono _ _ _ _ _ _ _
   | exact laws_heldIntS.mono _ _ _
   | exact laws_heldTurns.mono _ _ _ _ _
   | exact laws_markIntS.mono _ _ _
   | exact laws_markTurns.mono _ _ _ _ _
   | exact laws_szTurns.mono _ _ _ _ _
   | exact laws_toTurns.mono _ _ _ _
   | exact spec_NextRound.mono _ _ _ _
   | exact LeO.none _
   | refine LeO.ite ?_ ?_
   | refine LeO.bind ?_ (fun _ => ?_)
  ·intro y0 y1 y2 y3 y4 y5
   unfold laws_FnExactNextRound.j2
   repeat' first
   | (with_reducible exact ih0 _ _ _ _ _ _ _ _ _ _ _ _ _ _ _ _ _)
   | (with_reducible exact ih1 _ _ _ _ _ _ _ _ _ _ _ _ _)
   | (with_reducible exact ih2 _ _ _ _ _ _)
   | (with_reducible exact impl_NextRound.mono _ _ _ _)
   | (with_reducible exact laws_eqIntS.mono _ _ _)
   | (with_reducible exact laws_eqTurns.mono _ _ _ _ _ _ _)
   | (with_reducible exact laws_heldIntS.mono _ _ _)
   | (with_reducible exact laws_heldTurns.mono _ _ _ _ _)
   | (with_reducible exact laws_markIntS.mono _ _ _)
   | (with_reducible exact laws_markTurns.mono _ _ _ _ _)
   | (with_reducible exact laws_szTurns.mono _ _ _ _ _)
   | (with_reducible exact laws_toTurns.mono _ _ _ _)
   | (with_reducible exact spec_NextRound.mono _ _ _ _)
   | (with_reducible exact LeO.refl _)
   | (with_reducible exact LeO.none _)
   | (with_reducible refine LeO.ite ?_ ?_)
   | (with_reducible refine LeO.bind ?_ (fun _ => ?_))
   | exact ih0 _ _ _ _ _ _ _ _ _ _ _ _ _ _ _ _ _
   | exact ih1 _ _ _ _ _ _ _ _ _ _ _ _ _
   | exact ih2 _ _ _ _ _ _
   | exact impl_NextRound.mono _ _ _ _
   | exact laws_eqIntS.mono _ _ _
   | exact laws_eqTurns.mono _ _ _ _ _ _ _
   | exact laws_heldIntS.mono _ _ _
   | exact laws_heldTurns.mono _ _ _ _ _
   | exact laws_markIntS.mono _ _ _
   | exact laws_markTurns.mono _ _ _ _ _
   | exact laws_szTurns.mono _ _ _ _ _
   | exact laws_toTurns.mono _ _ _ _
   | exact spec_NextRound.mono _ _ _ _
   | exact LeO.none _
   | refine LeO.ite ?_ ?_
   | refine LeO.bind ?_ (fun _ => ?_)
theorem laws_FnExactNextRound.mono : ∀ a0 a1 a2 k,LeO (laws_FnExactNextRound.f k a0 a1 a2) (laws_FnExactNextRound.f (k+1) a0 a1 a2):=by
 intro a0 a1 a2 k
 obtain⟨ih0,ih1,ih2⟩:=laws_FnExactNextRound.mono_l k
 unfold laws_FnExactNextRound.f
 repeat' first
  | (with_reducible exact ih0 _ _ _ _ _ _ _ _ _ _ _ _ _ _ _ _ _)
  | (with_reducible exact ih1 _ _ _ _ _ _ _ _ _ _ _ _ _)
  | (with_reducible exact ih2 _ _ _ _ _ _)
  | (with_reducible exact impl_NextRound.mono _ _ _ _)
  | (with_reducible exact laws_eqIntS.mono _ _ _)
  | (with_reducible exact laws_eqTurns.mono _ _ _ _ _ _ _)
  | (with_reducible exact laws_heldIntS.mono _ _ _)
  | (with_reducible exact laws_heldTurns.mono _ _ _ _ _)
  | (with_reducible exact laws_markIntS.mono _ _ _)
  | (with_reducible exact laws_markTurns.mono _ _ _ _ _)
  | (with_reducible exact laws_szTurns.mono _ _ _ _ _)
  | (with_reducible exact laws_toTurns.mono _ _ _ _)
  | (with_reducible exact spec_NextRound.mono _ _ _ _)
  | (with_reducible exact LeO.refl _)
  | (with_reducible exact LeO.none _)
  | (with_reducible refine LeO.ite ?_ ?_)
  | (with_reducible refine LeO.bind ?_ (fun _ => ?_))
  | exact ih0 _ _ _ _ _ _ _ _ _ _ _ _ _ _ _ _ _
  | exact ih1 _ _ _ _ _ _ _ _ _ _ _ _ _
  | exact ih2 _ _ _ _ _ _
  | exact impl_NextRound.mono _ _ _ _
  | exact laws_eqIntS.mono _ _ _
  | exact laws_eqTurns.mono _ _ _ _ _ _ _
  | exact laws_heldIntS.mono _ _ _
  | exact laws_heldTurns.mono _ _ _ _ _
  | exact laws_markIntS.mono _ _ _
  | exact laws_markTurns.mono _ _ _ _ _
  | exact laws_szTurns.mono _ _ _ _ _
  | exact laws_toTurns.mono _ _ _ _
  | exact spec_NextRound.mono _ _ _ _
  | exact LeO.none _
  | refine LeO.ite ?_ ?_
  | refine LeO.bind ?_ (fun _ => ?_)
set_option maxHeartbeats 8000000 in
set_option maxRecDepth 100000 in
theorem laws_FnExactNextRound.calls (k:Nat) (a0_0:Int) (A0_1:Option Addr) (c0_1:Nat) (l0_1:List (S167)) (a0_2:Int) (r:Bool) (w:World) (hr0_1:Kd.C k167 w A0_1 l0_1.length l0_1) (hc0_1:l0_1.length≤c0_1) (h:laws_FnExactNextRound.f k a0_0 l0_1 a0_2=some r) :
  Calls Try.prog 7 #[.agg #[.int .i64 a0_0,.slice A0_1 l0_1.length c0_1,.int .i64 a0_2]] w fun e w'=>e=.returned (.bool r)∧Below w.heap.size w w':=by
 have hu24:=Try.underlying24
 have hu28:=Try.underlying28
 have HR0_1:=Aside0.mk hr0_1
 have HC0_1:=Aside0.mk hc0_1
 clear hr0_1 hc0_1
 have HB:=Aside0.mk (Below.refl w.heap.size w)
 have H:((laws_szTurns.f k a0_0 l0_1 a0_2 1048576).bind fun t295=>(if t295 < 0 then (some true) else ((laws_toTurns.f k a0_0 l0_1 a0_2).bind fun bt296=>((spec_NextRound.f k bt296.1 bt296.2.1 bt296.2.2).bind fun bt301=>((laws_toTurns.f k a0_0 l0_1 a0_2).bind fun bt311=>((impl_NextRound.f k bt311.1 bt311.2.1 bt311.2.2).bind fun bt317=>((laws_eqTurns.f k bt317.1 bt317.2.1 bt317.2.2.1 bt301.1 bt301.2.1 bt301.2.2.1).bind fun t327=>(if t327=true then ((laws_eqIntS.f k bt317.2.2.2.1 bt301.2.2.2.1).bind fun t328=>(if t328=true then (laws_FnExactNextRound.j0 k bt301.2.2.2.1 bt301.2.2.2.2 bt317.2.2.2.1 bt317.2.2.2.2 (bt317.2.2.2.2 != bt301.2.2.2.2) a0_0 l0_1 a0_2 bt301.1 bt301.2.1 bt301.2.2.1 bt311.1 bt311.2.1 bt311.2.2 bt317.1 bt317.2.1 bt317.2.2.1) else (laws_FnExactNextRound.j0 k bt301.2.2.2.1 bt301.2.2.2.2 bt317.2.2.2.1 bt317.2.2.2.2 true a0_0 l0_1 a0_2 bt301.1 bt301.2.1 bt301.2.2.1 bt311.1 bt311.2.1 bt311.2.2 bt317.1 bt317.2.1 bt317.2.2.1))) else (laws_FnExactNextRound.j0 k bt301.2.2.2.1 bt301.2.2.2.2 bt317.2.2.2.1 bt317.2.2.2.2 true a0_0 l0_1 a0_2 bt301.1 bt301.2.1 bt301.2.2.1 bt311.1 bt311.2.1 bt311.2.2 bt317.1 bt317.2.1 bt317.2.2.1)))))))))=some r:=h
 clear h
 replace H:=Option.bind_eq_some_iff.mp H
 obtain⟨t295,A20,H⟩:=H
 have A2:=Aside0.mk A20
 clear A20
 by_cases c3:t295 < 0
 ·rw[if_pos c3] at H
  have c3b0:decide (t295 < 0)=true:=decide_eq_true c3
  clear c3
  obtain rfl:=Option.some.inj H
  go_enter Try.func7,Try.ntmps7
  go_wp2_with (first|((with_reducible refine gate_dst (N:=1) rfl ?_);refine box_event ?hg (N:=1) ?hd (cs:=#[.int .i64 a0_0,.slice A0_1 l0_1.length c0_1,.int .i64 a0_2]) (t:=24) ?hr ?_;(case hd=>rfl);(case hg=>rfl);(case hr=>first|(go_simp;done)|(go_simp;rfl));intro gb294 hg w4 hbox hb;have n0_:=Aside0.mk (below_step (bB) hb);have n1_:=Aside0.mk (hbox);have n2_:=Aside0.mk ((bG:w.heap.size≤gb294));have n3_:=Aside0.mk ((bG:w.heap.size≤gb294));clear HB;have HB:=n0_;have BK294:=n1_;have GW294:=n2_;have GE294:=n3_;clear n0_ n1_ n2_ n3_;clear hb hbox hg;obtain⟨hcz5_0,hcz5_1,hcz5_2⟩:=cC3 BK294.out;obtain⟨hfz5_0,hfz5_1,hfz5_2⟩:=cF3 BK294.out)|((with_reducible refine gate_callee (f:=15) rfl ?_);refine goesA (some 19) rfl rfl Try.func15 #[.agg #[.int .i64 a0_0,.slice A0_1 l0_1.length c0_1,.int .i64 a0_2],.int .i64 1048576] rfl ?_;(with_reducible refine(laws_szTurns.calls k a0_0 _ _ l0_1 a0_2 1048576 t295 _ ?side1 ?side2 A2.out).mono ?_);(case side1=>exact bC HR0_1.out);(case side2=>exact HC0_1.out);rintro e w6 ⟨rfl,hb⟩;refine⟨_,rfl,?_⟩;have n0_:=Aside0.mk (bM BK294.out hb);have n1_:=Aside0.mk (below_step (bS GE294.out) hb);clear BK294 HB;have BK294:=n0_;have HB:=n1_;clear n0_ n1_;(try clear hb);(try clear hb2);(try clear hk);(try clear hi)))
  go_ret
  exact⟨bE,bS GE294.out⟩
 ·rw[if_neg c3] at H
  have c3b0:decide (t295 < 0)=false:=decide_eq_false c3
  clear c3
  replace H:=Option.bind_eq_some_iff.mp H
  obtain⟨⟨t296,t297,t300⟩,A70,H⟩:=H
  have A7:=Aside0.mk A70
  clear A70
  replace H:=Option.bind_eq_some_iff.mp H
  obtain⟨⟨t301,t302,t305,t306,t309⟩,A80,H⟩:=H
  have A8:=Aside0.mk A80
  clear A80
  replace H:=Option.bind_eq_some_iff.mp H
  obtain⟨⟨t311,t312,t315⟩,A90,H⟩:=H
  have A9:=Aside0.mk A90
  clear A90
  replace H:=Option.bind_eq_some_iff.mp H
  obtain⟨⟨t317,t318,t321,t322,t325⟩,A100,H⟩:=H
  have A10:=Aside0.mk A100
  clear A100
  have HC11:=Aside0.mk H
  clear H
  go_enter Try.func7,Try.ntmps7
  go_upto_region 8 with (first|((with_reducible refine gate_dst (N:=1) rfl ?_);refine box_event ?hg (N:=1) ?hd (cs:=#[.int .i64 a0_0,.slice A0_1 l0_1.length c0_1,.int .i64 a0_2]) (t:=24) ?hr ?_;(case hd=>rfl);(case hg=>rfl);(case hr=>first|(go_simp;done)|(go_simp;rfl));intro gb294 hg w12 hbox hb;have n0_:=Aside0.mk (below_step (bB) hb);have n1_:=Aside0.mk (hbox);have n2_:=Aside0.mk ((bG:w.heap.size≤gb294));have n3_:=Aside0.mk ((bG:w.heap.size≤gb294));clear HB;have HB:=n0_;have BK294:=n1_;have GW294:=n2_;have GE294:=n3_;clear n0_ n1_ n2_ n3_;clear hb hbox hg;obtain⟨hcz13_0,hcz13_1,hcz13_2⟩:=cC3 BK294.out;obtain⟨hfz13_0,hfz13_1,hfz13_2⟩:=cF3 BK294.out)|((with_reducible refine gate_callee (f:=15) rfl ?_);refine goesA (some 19) rfl rfl Try.func15 #[.agg #[.int .i64 a0_0,.slice A0_1 l0_1.length c0_1,.int .i64 a0_2],.int .i64 1048576] rfl ?_;(with_reducible refine(laws_szTurns.calls k a0_0 _ _ l0_1 a0_2 1048576 t295 _ ?side1 ?side2 A2.out).mono ?_);(case side1=>exact bC HR0_1.out);(case side2=>exact HC0_1.out);rintro e w14 ⟨rfl,hb⟩;refine⟨_,rfl,?_⟩;have n0_:=Aside0.mk (bM BK294.out hb);have n1_:=Aside0.mk (below_step (bS GE294.out) hb);clear BK294 HB;have BK294:=n0_;have HB:=n1_;clear n0_ n1_;(try clear hb);(try clear hb2);(try clear hk);(try clear hi);obtain⟨hcz15_0,hcz15_1,hcz15_2⟩:=cC3 BK294.out;obtain⟨hfz15_0,hfz15_1,hfz15_2⟩:=cF3 BK294.out)|((with_reducible refine gate_callee (f:=17) rfl ?_);refine goesA (some 24) rfl rfl Try.func17 #[.agg #[.int .i64 a0_0,.slice A0_1 l0_1.length c0_1,.int .i64 a0_2]] rfl ?_;(with_reducible refine(laws_toTurns.calls k a0_0 _ _ l0_1 a0_2 t296 t297 t300 _ ?side1 ?side2 A7.out).mono ?_);(case side1=>exact bC HR0_1.out);(case side2=>exact HC0_1.out);rintro e w16 ⟨v298,rfl,ho0,hb⟩;refine⟨_,rfl,?_⟩;obtain⟨N298_,hN_⟩:=sizeof_ hb;have n0_:=Aside0.mk (Kd.S_lower ho0 (below_size (bS GE294.out)));have n1_:=Aside0.mk (bM BK294.out hb);have n2_:=Aside0.mk (below_step (bS GE294.out) hb);clear BK294 HB;have HO299:=n0_;have BK294:=n1_;have HB:=n2_;clear n0_ n1_ n2_;(try clear hb);(try clear hb2);(try clear hk);(try clear hi);(try clear ho0);obtain⟨Ao17,co17,eo17⟩:=Kd.S_slice HO299.out;subst eo17)|((with_reducible refine gate_callee (f:=49) rfl ?_);refine goesA (some 25) rfl rfl Try.func49 #[.agg #[.int .i64 t296,.slice Ao17 t297.length co17,.int .i64 t300]] rfl ?_;(with_reducible refine(spec_NextRound.calls k t296 _ _ t297 t300 t301 t302 t305 t306 t309 _ ?side1 ?side2 A8.out).mono ?_);(case side1=>repeat (first|exact(Kd.S_reads' HO299.out).2.2|(with_reducible refine Kd.C_alloc ?_ _)|(with_reducible refine Kd.C_drewN ?_ _)|(with_reducible refine Kd.C_drew ?_)));(case side2=>exact(Kd.S_reads' HO299.out).2.1);rintro e w18 ⟨v303,v307,rfl,ho0,ho1,hb⟩;refine⟨_,rfl,?_⟩;obtain⟨N303_,hN_⟩:=sizeof_ hb;have n0_:=Aside0.mk (S_oldN2 (by(with_reducible repeat (first|apply Kd.S_alloc|apply Kd.S_drewN|apply Kd.S_drew));exact HO299.out) hb hN_ (Kd.R_base ho1));have n1_:=Aside0.mk (Kd.S_lower (S_newN ho0 hN_) (below_size (bS GE294.out)));have n2_:=Aside0.mk (Kd.R_lower ho1 (below_size (bS GE294.out)));have n3_:=Aside0.mk (bM BK294.out hb);have n4_:=Aside0.mk (below_step (bS GE294.out) hb);clear HO299 BK294 HB;have HO299:=n0_;have HO304:=n1_;have HO308:=n2_;have BK294:=n3_;have HB:=n4_;clear n0_ n1_ n2_ n3_ n4_;(try clear hb);(try clear hb2);(try clear hk);(try clear hi);(try clear ho0);(try clear ho1))|((with_reducible refine gate_dst (N:=4) rfl ?_);refine box_event ?hg (N:=4) ?hd (cs:=#[.int .i64 0,.slice none 0 0,.int .i64 0]) (t:=28) ?hr ?_;(case hd=>rfl);(case hg=>rfl);(case hr=>first|(go_simp;done)|(go_simp;rfl));intro gb310 hg w19 hbox hb;have n0_:=Aside0.mk (Kd.S_below (by(with_reducible repeat (first|apply Kd.S_alloc|apply Kd.S_drewN|apply Kd.S_drew));exact HO299.out) hb);have n1_:=Aside0.mk (Kd.S_below (by(with_reducible repeat (first|apply Kd.S_alloc|apply Kd.S_drewN|apply Kd.S_drew));exact HO304.out) hb);have n2_:=Aside0.mk (Kd.R_below (bK HO308.out) hb);have n3_:=Aside0.mk (bM BK294.out hb);have n4_:=Aside0.mk (below_step (bS GE294.out) hb);have n5_:=Aside0.mk (hbox);have n6_:=Aside0.mk ((by rw[hg];exact(below_size (bS GE294.out)):w.heap.size≤gb310));have n7_:=Aside0.mk ((by rw[hg];exact(below_size (bS GE294.out)):w.heap.size≤gb310));have n8_:=Aside0.mk ((bN BK294.out hg:gb294≠gb310));have n9_:=Aside0.mk ((bO BK294.out hg:gb310≠gb294));clear HO299 HO304 HO308 BK294 HB;have HO299:=n0_;have HO304:=n1_;have HO308:=n2_;have BK294:=n3_;have HB:=n4_;have BK310:=n5_;have GW310:=n6_;have GE310:=n7_;have NB294_310:=n8_;have NB310_294:=n9_;clear n0_ n1_ n2_ n3_ n4_ n5_ n6_ n7_ n8_ n9_;clear hb hbox hg;have hnb20:=NB310_294.out;have hnc20:=NB294_310.out;obtain⟨hcz21_0,hcz21_1,hcz21_2⟩:=cC3 BK310.out;obtain⟨hfz21_0,hfz21_1,hfz21_2⟩:=cF3 BK310.out;obtain⟨Ao22,co22,eo22⟩:=Kd.S_slice HO304.out;subst eo22;obtain⟨hcz23_0,hcz23_1,hcz23_2⟩:=cC3 BK294.out;obtain⟨hfz23_0,hfz23_1,hfz23_2⟩:=cF3 BK294.out)|((with_reducible refine gate_callee (f:=17) rfl ?_);refine goesA (some 30) rfl rfl Try.func17 #[.agg #[.int .i64 a0_0,.slice A0_1 l0_1.length c0_1,.int .i64 a0_2]] rfl ?_;(with_reducible refine(laws_toTurns.calls k a0_0 _ _ l0_1 a0_2 t311 t312 t315 _ ?side1 ?side2 A9.out).mono ?_);(case side1=>exact Kd.C_below HR0_1.out (bS2 GE294.out GE310.out));(case side2=>exact HC0_1.out);rintro e w24 ⟨v313,rfl,ho0,hb⟩;refine⟨_,rfl,?_⟩;obtain⟨N313_,hN_⟩:=sizeof_ hb;have n0_:=Aside0.mk (S_oldN (by(with_reducible repeat (first|apply Kd.S_alloc|apply Kd.S_drewN|apply Kd.S_drew));exact(Kd.S_mono (Kd.S_far (p:=⟨gb310,2,none⟩) (Kd.S_far (p:=⟨gb310,1,none⟩) (Kd.S_far (p:=⟨gb310,0,none⟩) (Kd.S_types HO299.out BK310.out (by decide)) (fun _ hk=>hk.2) (.int .i64 t301)) (fun _ hk=>hk.2) (.slice Ao22 t302.length co22)) (fun _ hk=>hk.2) (.int .i64 t305)) (fun _ h_=>h_.1))) hb hN_);have n1_:=Aside0.mk (S_oldN (by(with_reducible repeat (first|apply Kd.S_alloc|apply Kd.S_drewN|apply Kd.S_drew));exact(Kd.S_mono (Kd.S_far (p:=⟨gb310,2,none⟩) (Kd.S_far (p:=⟨gb310,1,none⟩) (Kd.S_far (p:=⟨gb310,0,none⟩) (Kd.S_types HO304.out BK310.out (by decide)) (fun _ hk=>hk.2) (.int .i64 t301)) (fun _ hk=>hk.2) (.slice Ao22 t302.length co22)) (fun _ hk=>hk.2) (.int .i64 t305)) (fun _ h_=>h_.1))) hb hN_);have n2_:=Aside0.mk (Kd.R_below (by(with_reducible repeat (first|apply Kd.R_alloc|apply Kd.R_drewN|apply Kd.R_drew));exact(Kd.R_mono (Kd.R_far (p:=⟨gb310,2,none⟩) (Kd.R_far (p:=⟨gb310,1,none⟩) (Kd.R_far (p:=⟨gb310,0,none⟩) (Kd.R_types HO308.out BK310.out (by decide)) (fun _ hk=>hk.2) (.int .i64 t301)) (fun _ hk=>hk.2) (.slice Ao22 t302.length co22)) (fun _ hk=>hk.2) (.int .i64 t305)) (fun _ h_=>h_.1))) hb);have n3_:=Aside0.mk (Kd.S_lower (Kd.S_new' (S_newN (S_newN ho0 hN_) hN_) (Kd.R_lt (by(with_reducible repeat (first|apply Kd.R_alloc|apply Kd.R_drewN|apply Kd.R_drew));exact(Kd.R_mono (Kd.R_far (p:=⟨gb310,2,none⟩) (Kd.R_far (p:=⟨gb310,1,none⟩) (Kd.R_far (p:=⟨gb310,0,none⟩) (Kd.R_types HO308.out BK310.out (by decide)) (fun _ hk=>hk.2) (.int .i64 t301)) (fun _ hk=>hk.2) (.slice Ao22 t302.length co22)) (fun _ hk=>hk.2) (.int .i64 t305)) (fun _ h_=>h_.1))))) (below_size (bS2 GE294.out GE310.out)));have n4_:=Aside0.mk (blk_below (g:=gb294) (o:=.cells #[.int .i64 a0_0,.slice A0_1 l0_1.length c0_1,.int .i64 a0_2] 24 (0,0)) (by(with_reducible repeat (first|refine blk_drewN ?_ _|refine blk_drew ?_|refine blk_alloc ?_ _));refine blk_far ?_ NB294_310.out _;(with_reducible repeat (first|refine blk_drewN ?_ _|refine blk_drew ?_|refine blk_alloc ?_ _));refine blk_far ?_ NB294_310.out _;(with_reducible repeat (first|refine blk_drewN ?_ _|refine blk_drew ?_|refine blk_alloc ?_ _));refine blk_far ?_ NB294_310.out _;(with_reducible repeat (first|refine blk_drewN ?_ _|refine blk_drew ?_|refine blk_alloc ?_ _));exact BK294.out) hb);have n5_:=Aside0.mk (blk_below (g:=gb310) (o:=.cells #[.int .i64 t301,.slice Ao22 t302.length co22,.int .i64 t305] 28 (0,0)) (by(with_reducible repeat (first|refine blk_drewN ?_ _|refine blk_drew ?_|refine blk_alloc ?_ _));refine blk_put (cs:=#[.int .i64 t301,.slice Ao22 t302.length co22,.int .i64 0]) ?_ 2 _ rfl;(with_reducible repeat (first|refine blk_drewN ?_ _|refine blk_drew ?_|refine blk_alloc ?_ _));refine blk_put (cs:=#[.int .i64 t301,.slice none 0 0,.int .i64 0]) ?_ 1 _ rfl;(with_reducible repeat (first|refine blk_drewN ?_ _|refine blk_drew ?_|refine blk_alloc ?_ _));refine blk_put (cs:=#[.int .i64 0,.slice none 0 0,.int .i64 0]) ?_ 0 _ rfl;(with_reducible repeat (first|refine blk_drewN ?_ _|refine blk_drew ?_|refine blk_alloc ?_ _));exact BK310.out) hb);have n6_:=Aside0.mk (below_step (bS2 GE294.out GE310.out) hb);clear HO299 HO304 HO308 BK294 BK310 HB;have HO299:=n0_;have HO304:=n1_;have HO308:=n2_;have HO314:=n3_;have BK294:=n4_;have BK310:=n5_;have HB:=n6_;clear n0_ n1_ n2_ n3_ n4_ n5_ n6_;(try clear hb);(try clear hb2);(try clear hk);(try clear hi);(try clear ho0))|((with_reducible refine gate_dst (N:=7) rfl ?_);refine box_event ?hg (N:=7) ?hd (cs:=#[.int .i64 0,.slice none 0 0,.int .i64 0]) (t:=28) ?hr ?_;(case hd=>rfl);(case hg=>rfl);(case hr=>first|(go_simp;done)|(go_simp;rfl));intro gb316 hg w25 hbox hb;have n0_:=Aside0.mk (Kd.S_below (by(with_reducible repeat (first|apply Kd.S_alloc|apply Kd.S_drewN|apply Kd.S_drew));exact HO299.out) hb);have n1_:=Aside0.mk (Kd.S_below (by(with_reducible repeat (first|apply Kd.S_alloc|apply Kd.S_drewN|apply Kd.S_drew));exact HO304.out) hb);have n2_:=Aside0.mk (Kd.R_below (bK HO308.out) hb);have n3_:=Aside0.mk (Kd.S_below (by(with_reducible repeat (first|apply Kd.S_alloc|apply Kd.S_drewN|apply Kd.S_drew));exact HO314.out) hb);have n4_:=Aside0.mk (bM BK294.out hb);have n5_:=Aside0.mk (bM BK310.out hb);have n6_:=Aside0.mk (below_step (bS2 GE294.out GE310.out) hb);have n7_:=Aside0.mk (hbox);have n8_:=Aside0.mk ((by rw[hg];exact(below_size (bS2 GE294.out GE310.out)):w.heap.size≤gb316));have n9_:=Aside0.mk ((by rw[hg];exact(below_size (bS2 GE294.out GE310.out)):w.heap.size≤gb316));have n10_:=Aside0.mk ((bN BK294.out hg:gb294≠gb316));have n11_:=Aside0.mk ((bO BK294.out hg:gb316≠gb294));have n12_:=Aside0.mk ((bN BK310.out hg:gb310≠gb316));have n13_:=Aside0.mk ((bO BK310.out hg:gb316≠gb310));clear HO299 HO304 HO308 HO314 BK294 BK310 HB;have HO299:=n0_;have HO304:=n1_;have HO308:=n2_;have HO314:=n3_;have BK294:=n4_;have BK310:=n5_;have HB:=n6_;have BK316:=n7_;have GW316:=n8_;have GE316:=n9_;have NB294_316:=n10_;have NB316_294:=n11_;have NB310_316:=n12_;have NB316_310:=n13_;clear n0_ n1_ n2_ n3_ n4_ n5_ n6_ n7_ n8_ n9_ n10_ n11_ n12_ n13_;clear hb hbox hg;have hnb26:=NB316_294.out;have hnc26:=NB294_316.out;have hnb27:=NB316_310.out;have hnc27:=NB310_316.out;obtain⟨hcz28_0,hcz28_1,hcz28_2⟩:=cC3 BK316.out;obtain⟨hfz28_0,hfz28_1,hfz28_2⟩:=cF3 BK316.out;obtain⟨Ao29,co29,eo29⟩:=Kd.S_slice HO314.out;subst eo29)|((with_reducible refine gate_callee (f:=50) rfl ?_);refine goesA (some 33) rfl rfl Try.func50 #[.agg #[.int .i64 t311,.slice Ao29 t312.length co29,.int .i64 t315]] rfl ?_;(with_reducible refine(impl_NextRound.calls k t311 _ _ t312 t315 t317 t318 t321 t322 t325 _ ?side1 ?side2 A10.out).mono ?_);(case side1=>refine(Kd.S_reads' (e:=116) (base:=w.heap.size) (ok:=fun k_=>(((True∧N313_≤k_)∧N313_≤k_)∧some k_≠(v307:Value).ownBlock)) (n:=t312.length) (c:=co29) ?_).2.2;exact(by(with_reducible repeat (first|apply Kd.S_alloc|apply Kd.S_drewN|apply Kd.S_drew));exact(Kd.S_mono (Kd.S_far (p:=⟨gb316,2,none⟩) (Kd.S_far (p:=⟨gb316,1,none⟩) (Kd.S_far (p:=⟨gb316,0,none⟩) (Kd.S_types HO314.out BK316.out (by decide)) (fun _ hk=>hk.2) (.int .i64 t311)) (fun _ hk=>hk.2) (.slice Ao29 t312.length co29)) (fun _ hk=>hk.2) (.int .i64 t315)) (fun _ h_=>h_.1))));(case side2=>exact(Kd.S_reads' HO314.out).2.1);rintro e w30 ⟨v319,v323,rfl,ho0,ho1,hb⟩;refine⟨_,rfl,?_⟩;obtain⟨N319_,hN_⟩:=sizeof_ hb;have n0_:=Aside0.mk (S_oldN2 (by(with_reducible repeat (first|apply Kd.S_alloc|apply Kd.S_drewN|apply Kd.S_drew));exact(Kd.S_mono (Kd.S_far (p:=⟨gb316,2,none⟩) (Kd.S_far (p:=⟨gb316,1,none⟩) (Kd.S_far (p:=⟨gb316,0,none⟩) (Kd.S_types HO299.out BK316.out (by decide)) (fun _ hk=>hk.2) (.int .i64 t311)) (fun _ hk=>hk.2) (.slice Ao29 t312.length co29)) (fun _ hk=>hk.2) (.int .i64 t315)) (fun _ h_=>h_.1))) hb hN_ (Kd.R_base ho1));have n1_:=Aside0.mk (S_oldN2 (by(with_reducible repeat (first|apply Kd.S_alloc|apply Kd.S_drewN|apply Kd.S_drew));exact(Kd.S_mono (Kd.S_far (p:=⟨gb316,2,none⟩) (Kd.S_far (p:=⟨gb316,1,none⟩) (Kd.S_far (p:=⟨gb316,0,none⟩) (Kd.S_types HO304.out BK316.out (by decide)) (fun _ hk=>hk.2) (.int .i64 t311)) (fun _ hk=>hk.2) (.slice Ao29 t312.length co29)) (fun _ hk=>hk.2) (.int .i64 t315)) (fun _ h_=>h_.1))) hb hN_ (Kd.R_base ho1));have n2_:=Aside0.mk (Kd.R_elder' (by(with_reducible repeat (first|apply Kd.R_alloc|apply Kd.R_drewN|apply Kd.R_drew));exact(Kd.R_mono (Kd.R_far (p:=⟨gb316,2,none⟩) (Kd.R_far (p:=⟨gb316,1,none⟩) (Kd.R_far (p:=⟨gb316,0,none⟩) (Kd.R_types HO308.out BK316.out (by decide)) (fun _ hk=>hk.2) (.int .i64 t311)) (fun _ hk=>hk.2) (.slice Ao29 t312.length co29)) (fun _ hk=>hk.2) (.int .i64 t315)) (fun _ h_=>h_.1))) (Kd.R_base ho1) hb);have n3_:=Aside0.mk (S_oldN2 (by(with_reducible repeat (first|apply Kd.S_alloc|apply Kd.S_drewN|apply Kd.S_drew));exact(Kd.S_mono (Kd.S_far (p:=⟨gb316,2,none⟩) (Kd.S_far (p:=⟨gb316,1,none⟩) (Kd.S_far (p:=⟨gb316,0,none⟩) (Kd.S_types HO314.out BK316.out (by decide)) (fun _ hk=>hk.2) (.int .i64 t311)) (fun _ hk=>hk.2) (.slice Ao29 t312.length co29)) (fun _ hk=>hk.2) (.int .i64 t315)) (fun _ h_=>h_.1))) hb hN_ (Kd.R_base ho1));have n4_:=Aside0.mk (Kd.S_lower (S_newN (Kd.S_new' (S_newN (S_newN ho0 hN_) hN_) (Kd.R_lt (by(with_reducible repeat (first|apply Kd.R_alloc|apply Kd.R_drewN|apply Kd.R_drew));exact(Kd.R_mono (Kd.R_far (p:=⟨gb316,2,none⟩) (Kd.R_far (p:=⟨gb316,1,none⟩) (Kd.R_far (p:=⟨gb316,0,none⟩) (Kd.R_types HO308.out BK316.out (by decide)) (fun _ hk=>hk.2) (.int .i64 t311)) (fun _ hk=>hk.2) (.slice Ao29 t312.length co29)) (fun _ hk=>hk.2) (.int .i64 t315)) (fun _ h_=>h_.1))))) hN_) (below_size (bS3 GE294.out GE310.out GE316.out)));have n5_:=Aside0.mk (Kd.R_lower (Kd.R_new' ho1 (Kd.R_lt (by(with_reducible repeat (first|apply Kd.R_alloc|apply Kd.R_drewN|apply Kd.R_drew));exact(Kd.R_mono (Kd.R_far (p:=⟨gb316,2,none⟩) (Kd.R_far (p:=⟨gb316,1,none⟩) (Kd.R_far (p:=⟨gb316,0,none⟩) (Kd.R_types HO308.out BK316.out (by decide)) (fun _ hk=>hk.2) (.int .i64 t311)) (fun _ hk=>hk.2) (.slice Ao29 t312.length co29)) (fun _ hk=>hk.2) (.int .i64 t315)) (fun _ h_=>h_.1))))) (below_size (bS3 GE294.out GE310.out GE316.out)));have n6_:=Aside0.mk (blk_below (g:=gb294) (o:=.cells #[.int .i64 a0_0,.slice A0_1 l0_1.length c0_1,.int .i64 a0_2] 24 (0,0)) (by(with_reducible repeat (first|refine blk_drewN ?_ _|refine blk_drew ?_|refine blk_alloc ?_ _));refine blk_far ?_ NB294_316.out _;(with_reducible repeat (first|refine blk_drewN ?_ _|refine blk_drew ?_|refine blk_alloc ?_ _));refine blk_far ?_ NB294_316.out _;(with_reducible repeat (first|refine blk_drewN ?_ _|refine blk_drew ?_|refine blk_alloc ?_ _));refine blk_far ?_ NB294_316.out _;(with_reducible repeat (first|refine blk_drewN ?_ _|refine blk_drew ?_|refine blk_alloc ?_ _));exact BK294.out) hb);have n7_:=Aside0.mk (blk_below (g:=gb310) (o:=.cells #[.int .i64 t301,.slice Ao22 t302.length co22,.int .i64 t305] 28 (0,0)) (by(with_reducible repeat (first|refine blk_drewN ?_ _|refine blk_drew ?_|refine blk_alloc ?_ _));refine blk_far ?_ NB310_316.out _;(with_reducible repeat (first|refine blk_drewN ?_ _|refine blk_drew ?_|refine blk_alloc ?_ _));refine blk_far ?_ NB310_316.out _;(with_reducible repeat (first|refine blk_drewN ?_ _|refine blk_drew ?_|refine blk_alloc ?_ _));refine blk_far ?_ NB310_316.out _;(with_reducible repeat (first|refine blk_drewN ?_ _|refine blk_drew ?_|refine blk_alloc ?_ _));exact BK310.out) hb);have n8_:=Aside0.mk (blk_below (g:=gb316) (o:=.cells #[.int .i64 t311,.slice Ao29 t312.length co29,.int .i64 t315] 28 (0,0)) (by(with_reducible repeat (first|refine blk_drewN ?_ _|refine blk_drew ?_|refine blk_alloc ?_ _));refine blk_put (cs:=#[.int .i64 t311,.slice Ao29 t312.length co29,.int .i64 0]) ?_ 2 _ rfl;(with_reducible repeat (first|refine blk_drewN ?_ _|refine blk_drew ?_|refine blk_alloc ?_ _));refine blk_put (cs:=#[.int .i64 t311,.slice none 0 0,.int .i64 0]) ?_ 1 _ rfl;(with_reducible repeat (first|refine blk_drewN ?_ _|refine blk_drew ?_|refine blk_alloc ?_ _));refine blk_put (cs:=#[.int .i64 0,.slice none 0 0,.int .i64 0]) ?_ 0 _ rfl;(with_reducible repeat (first|refine blk_drewN ?_ _|refine blk_drew ?_|refine blk_alloc ?_ _));exact BK316.out) hb);have n9_:=Aside0.mk (below_step (bS3 GE294.out GE310.out GE316.out) hb);clear HO299 HO304 HO308 HO314 BK294 BK310 BK316 HB;have HO299:=n0_;have HO304:=n1_;have HO308:=n2_;have HO314:=n3_;have HO320:=n4_;have HO324:=n5_;have BK294:=n6_;have BK310:=n7_;have BK316:=n8_;have HB:=n9_;clear n0_ n1_ n2_ n3_ n4_ n5_ n6_ n7_ n8_ n9_;(try clear hb);(try clear hb2);(try clear hk);(try clear hi);(try clear ho0);(try clear ho1))|((with_reducible refine gate_dst (N:=8) rfl ?_);refine box_event ?hg (N:=8) ?hd (cs:=#[.int .i64 0,.slice none 0 0,.int .i64 0]) (t:=28) ?hr ?_;(case hd=>rfl);(case hg=>rfl);(case hr=>first|(go_simp;done)|(go_simp;rfl));intro gb326 hg w31 hbox hb;have n0_:=Aside0.mk (Kd.S_below (by(with_reducible repeat (first|apply Kd.S_alloc|apply Kd.S_drewN|apply Kd.S_drew));exact HO299.out) hb);have n1_:=Aside0.mk (Kd.S_below (by(with_reducible repeat (first|apply Kd.S_alloc|apply Kd.S_drewN|apply Kd.S_drew));exact HO304.out) hb);have n2_:=Aside0.mk (Kd.R_below (bK HO308.out) hb);have n3_:=Aside0.mk (Kd.S_below (by(with_reducible repeat (first|apply Kd.S_alloc|apply Kd.S_drewN|apply Kd.S_drew));exact HO314.out) hb);have n4_:=Aside0.mk (Kd.S_below (by(with_reducible repeat (first|apply Kd.S_alloc|apply Kd.S_drewN|apply Kd.S_drew));exact HO320.out) hb);have n5_:=Aside0.mk (Kd.R_below (bK HO324.out) hb);have n6_:=Aside0.mk (bM BK294.out hb);have n7_:=Aside0.mk (bM BK310.out hb);have n8_:=Aside0.mk (bM BK316.out hb);have n9_:=Aside0.mk (below_step (bS3 GE294.out GE310.out GE316.out) hb);have n10_:=Aside0.mk (hbox);have n11_:=Aside0.mk ((by rw[hg];exact(below_size (bS3 GE294.out GE310.out GE316.out)):w.heap.size≤gb326));have n12_:=Aside0.mk ((by rw[hg];exact(below_size (bS3 GE294.out GE310.out GE316.out)):w.heap.size≤gb326));have n13_:=Aside0.mk ((bN BK294.out hg:gb294≠gb326));have n14_:=Aside0.mk ((bO BK294.out hg:gb326≠gb294));have n15_:=Aside0.mk ((bN BK310.out hg:gb310≠gb326));have n16_:=Aside0.mk ((bO BK310.out hg:gb326≠gb310));have n17_:=Aside0.mk ((bN BK316.out hg:gb316≠gb326));have n18_:=Aside0.mk ((bO BK316.out hg:gb326≠gb316));clear HO299 HO304 HO308 HO314 HO320 HO324 BK294 BK310 BK316 HB;have HO299:=n0_;have HO304:=n1_;have HO308:=n2_;have HO314:=n3_;have HO320:=n4_;have HO324:=n5_;have BK294:=n6_;have BK310:=n7_;have BK316:=n8_;have HB:=n9_;have BK326:=n10_;have GW326:=n11_;have GE326:=n12_;have NB294_326:=n13_;have NB326_294:=n14_;have NB310_326:=n15_;have NB326_310:=n16_;have NB316_326:=n17_;have NB326_316:=n18_;clear n0_ n1_ n2_ n3_ n4_ n5_ n6_ n7_ n8_ n9_ n10_ n11_ n12_ n13_ n14_ n15_ n16_ n17_ n18_;clear hb hbox hg;have hnb32:=NB326_294.out;have hnc32:=NB294_326.out;have hnb33:=NB326_310.out;have hnc33:=NB310_326.out;have hnb34:=NB326_316.out;have hnc34:=NB316_326.out;obtain⟨hcz35_0,hcz35_1,hcz35_2⟩:=cC3 BK326.out;obtain⟨hfz35_0,hfz35_1,hfz35_2⟩:=cF3 BK326.out;obtain⟨Ao36,co36,eo36⟩:=Kd.S_slice HO320.out;subst eo36))
  (try simp only[Act.put,List.setIfInBounds_toArray,List.set_cons_zero,List.set_cons_succ])
  go_cut [51] (fun v51 wc => ∃ (kq:Nat) (x51_10:Bool),v51=.bool x51_10∧Aside0 (laws_FnExactNextRound.j0 kq t306 t309 t322 t325 x51_10 a0_0 l0_1 a0_2 t301 t302 t305 t311 t312 t315 t317 t318 t321=some r)∧Aside0 (kq≤k)∧Aside0 (Kd.R (Kd.int .i64) 3 wc w.heap.size (fun k_=>some k_≠(v323:Value).ownBlock) v307 t306)∧Aside0 (Kd.R (Kd.int .i64) 3 wc w.heap.size (fun k_=>some k_≠(v307:Value).ownBlock) v323 t322)∧Aside0 (Kd.S k116 116 wc w.heap.size (fun k_=>some k_≠(v307:Value).ownBlock∧some k_≠(v323:Value).ownBlock∧k_ < N313_∧k_ < N319_) (.slice Ao22 t302.length co22) t302)∧Aside0 (Kd.S k116 116 wc w.heap.size (fun k_=>some k_≠(v307:Value).ownBlock∧some k_≠(v323:Value).ownBlock∧N313_≤k_∧k_ < N319_) (.slice Ao29 t312.length co29) t312)∧Aside0 (Kd.S k116 116 wc w.heap.size (fun k_=>some k_≠(v307:Value).ownBlock∧some k_≠(v323:Value).ownBlock∧N319_≤k_∧N319_≤k_) (.slice Ao36 t318.length co36) t318)∧Aside0 (wc.heap[gb294]?=some (.cells #[.int .i64 a0_0,(.slice A0_1 l0_1.length c0_1),.int .i64 a0_2] 24 (0,0)))∧Aside0 (wc.heap[gb310]?=some (.cells #[.int .i64 t301,(.slice Ao22 t302.length co22),.int .i64 t305] 28 (0,0)))∧Aside0 (wc.heap[gb316]?=some (.cells #[.int .i64 t311,(.slice Ao29 t312.length co29),.int .i64 t315] 28 (0,0)))∧Aside0 (wc.heap[gb326]?=some (.cells #[.int .i64 t317,(.slice Ao36 t318.length co36),.int .i64 t321] 28 (0,0)))∧Aside0 (Below w.heap.size w wc))
  case first =>
   have H:=HC11.out
   clear HC11
   replace H:=Option.bind_eq_some_iff.mp H
   obtain⟨t327,A370,H⟩:=H
   have A37:=Aside0.mk A370
   clear A370
   by_cases c38:t327=true
   ·subst c38
    have H1:((laws_eqIntS.f k t322 t306).bind fun t328=>(if t328=true then (laws_FnExactNextRound.j0 k t306 t309 t322 t325 (t325 != t309) a0_0 l0_1 a0_2 t301 t302 t305 t311 t312 t315 t317 t318 t321) else (laws_FnExactNextRound.j0 k t306 t309 t322 t325 true a0_0 l0_1 a0_2 t301 t302 t305 t311 t312 t315 t317 t318 t321)))=some r:=by rw[if_pos rfl] at H;exact H
    clear H
    have H:=H1
    clear H1
    replace H:=Option.bind_eq_some_iff.mp H
    obtain⟨t328,A390,H⟩:=H
    have A39:=Aside0.mk A390
    clear A390
    by_cases c40:t328=true
    ·subst c40
     have H1:(laws_FnExactNextRound.j0 k t306 t309 t322 t325 (t325 != t309) a0_0 l0_1 a0_2 t301 t302 t305 t311 t312 t315 t317 t318 t321)=some r:=by rw[if_pos rfl] at H;exact H
     clear H
     have H:=H1
     clear H1
     have H':=Aside0.mk H
     clear H
     have hnb41:=NB326_294.out
     have hnc41:=NB294_326.out
     have hnb42:=NB326_310.out
     have hnc42:=NB310_326.out
     have hnb43:=NB326_316.out
     have hnc43:=NB316_326.out
     obtain⟨hcz44_0,hcz44_1,hcz44_2⟩:=cC3 BK326.out
     obtain⟨hfz44_0,hfz44_1,hfz44_2⟩:=cF3 BK326.out
     have hnb45:=NB310_294.out
     have hnc45:=NB294_310.out
     have hnb46:=NB310_316.out
     have hnc46:=NB316_310.out
     obtain⟨hcz47_0,hcz47_1,hcz47_2⟩:=cC3 BK310.out
     obtain⟨hfz47_0,hfz47_1,hfz47_2⟩:=cF3 BK310.out
     go_wp2_with (first|((with_reducible refine gate_callee (f:=19) rfl ?_);refine goesA (some 39) rfl rfl Try.func19 #[.agg #[.int .i64 t317,.slice Ao36 t318.length co36,.int .i64 t321],.agg #[.int .i64 t301,.slice Ao22 t302.length co22,.int .i64 t305]] rfl ?_;(with_reducible refine(laws_eqTurns.calls k t317 _ _ t318 t321 t301 _ _ t302 t305 true _ ?side1 ?side2 ?side3 ?side4 A37.out).mono ?_);(case side1=>refine(Kd.S_reads' (e:=116) (base:=w.heap.size) (ok:=fun k_=>((((some k_≠(v323:Value).ownBlock∧N319_≤k_)∧N319_≤k_)∧some k_≠(v307:Value).ownBlock)∧N319_≤k_)) (n:=t318.length) (c:=co36) ?_).2.2;exact(by(with_reducible repeat (first|apply Kd.S_alloc|apply Kd.S_drewN|apply Kd.S_drew));exact(Kd.S_mono (Kd.S_far (p:=⟨gb326,2,none⟩) (Kd.S_far (p:=⟨gb326,1,none⟩) (Kd.S_far (p:=⟨gb326,0,none⟩) (Kd.S_types HO320.out BK326.out (by decide)) (fun _ hk=>hk.2) (.int .i64 t317)) (fun _ hk=>hk.2) (.slice Ao36 t318.length co36)) (fun _ hk=>hk.2) (.int .i64 t321)) (fun _ h_=>h_.1))));(case side2=>exact(Kd.S_reads' HO320.out).2.1);(case side3=>refine(Kd.S_reads' (e:=116) (base:=w.heap.size) (ok:=fun k_=>((((some k_≠(v307:Value).ownBlock∧N303_≤k_)∧k_ < N313_)∧k_ < N319_)∧some k_≠(v323:Value).ownBlock)) (n:=t302.length) (c:=co22) ?_).2.2;exact(by(with_reducible repeat (first|apply Kd.S_alloc|apply Kd.S_drewN|apply Kd.S_drew));exact(Kd.S_mono (Kd.S_far (p:=⟨gb326,2,none⟩) (Kd.S_far (p:=⟨gb326,1,none⟩) (Kd.S_far (p:=⟨gb326,0,none⟩) (Kd.S_types HO304.out BK326.out (by decide)) (fun _ hk=>hk.2) (.int .i64 t317)) (fun _ hk=>hk.2) (.slice Ao36 t318.length co36)) (fun _ hk=>hk.2) (.int .i64 t321)) (fun _ h_=>h_.1))));(case side4=>exact(Kd.S_reads' HO304.out).2.1);rintro e w48 ⟨rfl,hb⟩;refine⟨_,rfl,?_⟩;have n0_:=Aside0.mk (Kd.S_below (by(with_reducible repeat (first|apply Kd.S_alloc|apply Kd.S_drewN|apply Kd.S_drew));exact(Kd.S_mono (Kd.S_far (p:=⟨gb326,2,none⟩) (Kd.S_far (p:=⟨gb326,1,none⟩) (Kd.S_far (p:=⟨gb326,0,none⟩) (Kd.S_types HO299.out BK326.out (by decide)) (fun _ hk=>hk.2) (.int .i64 t317)) (fun _ hk=>hk.2) (.slice Ao36 t318.length co36)) (fun _ hk=>hk.2) (.int .i64 t321)) (fun _ h_=>h_.1))) hb);have n1_:=Aside0.mk (Kd.S_below (by(with_reducible repeat (first|apply Kd.S_alloc|apply Kd.S_drewN|apply Kd.S_drew));exact(Kd.S_mono (Kd.S_far (p:=⟨gb326,2,none⟩) (Kd.S_far (p:=⟨gb326,1,none⟩) (Kd.S_far (p:=⟨gb326,0,none⟩) (Kd.S_types HO304.out BK326.out (by decide)) (fun _ hk=>hk.2) (.int .i64 t317)) (fun _ hk=>hk.2) (.slice Ao36 t318.length co36)) (fun _ hk=>hk.2) (.int .i64 t321)) (fun _ h_=>h_.1))) hb);have n2_:=Aside0.mk (Kd.R_below (by(with_reducible repeat (first|apply Kd.R_alloc|apply Kd.R_drewN|apply Kd.R_drew));exact(Kd.R_mono (Kd.R_far (p:=⟨gb326,2,none⟩) (Kd.R_far (p:=⟨gb326,1,none⟩) (Kd.R_far (p:=⟨gb326,0,none⟩) (Kd.R_types HO308.out BK326.out (by decide)) (fun _ hk=>hk.2) (.int .i64 t317)) (fun _ hk=>hk.2) (.slice Ao36 t318.length co36)) (fun _ hk=>hk.2) (.int .i64 t321)) (fun _ h_=>h_.1))) hb);have n3_:=Aside0.mk (Kd.S_below (by(with_reducible repeat (first|apply Kd.S_alloc|apply Kd.S_drewN|apply Kd.S_drew));exact(Kd.S_mono (Kd.S_far (p:=⟨gb326,2,none⟩) (Kd.S_far (p:=⟨gb326,1,none⟩) (Kd.S_far (p:=⟨gb326,0,none⟩) (Kd.S_types HO314.out BK326.out (by decide)) (fun _ hk=>hk.2) (.int .i64 t317)) (fun _ hk=>hk.2) (.slice Ao36 t318.length co36)) (fun _ hk=>hk.2) (.int .i64 t321)) (fun _ h_=>h_.1))) hb);have n4_:=Aside0.mk (Kd.S_below (by(with_reducible repeat (first|apply Kd.S_alloc|apply Kd.S_drewN|apply Kd.S_drew));exact(Kd.S_mono (Kd.S_far (p:=⟨gb326,2,none⟩) (Kd.S_far (p:=⟨gb326,1,none⟩) (Kd.S_far (p:=⟨gb326,0,none⟩) (Kd.S_types HO320.out BK326.out (by decide)) (fun _ hk=>hk.2) (.int .i64 t317)) (fun _ hk=>hk.2) (.slice Ao36 t318.length co36)) (fun _ hk=>hk.2) (.int .i64 t321)) (fun _ h_=>h_.1))) hb);have n5_:=Aside0.mk (Kd.R_below (by(with_reducible repeat (first|apply Kd.R_alloc|apply Kd.R_drewN|apply Kd.R_drew));exact(Kd.R_mono (Kd.R_far (p:=⟨gb326,2,none⟩) (Kd.R_far (p:=⟨gb326,1,none⟩) (Kd.R_far (p:=⟨gb326,0,none⟩) (Kd.R_types HO324.out BK326.out (by decide)) (fun _ hk=>hk.2) (.int .i64 t317)) (fun _ hk=>hk.2) (.slice Ao36 t318.length co36)) (fun _ hk=>hk.2) (.int .i64 t321)) (fun _ h_=>h_.1))) hb);have n6_:=Aside0.mk (blk_below (g:=gb294) (o:=.cells #[.int .i64 a0_0,.slice A0_1 l0_1.length c0_1,.int .i64 a0_2] 24 (0,0)) (by(with_reducible repeat (first|refine blk_drewN ?_ _|refine blk_drew ?_|refine blk_alloc ?_ _));refine blk_far ?_ NB294_326.out _;(with_reducible repeat (first|refine blk_drewN ?_ _|refine blk_drew ?_|refine blk_alloc ?_ _));refine blk_far ?_ NB294_326.out _;(with_reducible repeat (first|refine blk_drewN ?_ _|refine blk_drew ?_|refine blk_alloc ?_ _));refine blk_far ?_ NB294_326.out _;(with_reducible repeat (first|refine blk_drewN ?_ _|refine blk_drew ?_|refine blk_alloc ?_ _));exact BK294.out) hb);have n7_:=Aside0.mk (blk_below (g:=gb310) (o:=.cells #[.int .i64 t301,.slice Ao22 t302.length co22,.int .i64 t305] 28 (0,0)) (by(with_reducible repeat (first|refine blk_drewN ?_ _|refine blk_drew ?_|refine blk_alloc ?_ _));refine blk_far ?_ NB310_326.out _;(with_reducible repeat (first|refine blk_drewN ?_ _|refine blk_drew ?_|refine blk_alloc ?_ _));refine blk_far ?_ NB310_326.out _;(with_reducible repeat (first|refine blk_drewN ?_ _|refine blk_drew ?_|refine blk_alloc ?_ _));refine blk_far ?_ NB310_326.out _;(with_reducible repeat (first|refine blk_drewN ?_ _|refine blk_drew ?_|refine blk_alloc ?_ _));exact BK310.out) hb);have n8_:=Aside0.mk (blk_below (g:=gb316) (o:=.cells #[.int .i64 t311,.slice Ao29 t312.length co29,.int .i64 t315] 28 (0,0)) (by(with_reducible repeat (first|refine blk_drewN ?_ _|refine blk_drew ?_|refine blk_alloc ?_ _));refine blk_far ?_ NB316_326.out _;(with_reducible repeat (first|refine blk_drewN ?_ _|refine blk_drew ?_|refine blk_alloc ?_ _));refine blk_far ?_ NB316_326.out _;(with_reducible repeat (first|refine blk_drewN ?_ _|refine blk_drew ?_|refine blk_alloc ?_ _));refine blk_far ?_ NB316_326.out _;(with_reducible repeat (first|refine blk_drewN ?_ _|refine blk_drew ?_|refine blk_alloc ?_ _));exact BK316.out) hb);have n9_:=Aside0.mk (blk_below (g:=gb326) (o:=.cells #[.int .i64 t317,.slice Ao36 t318.length co36,.int .i64 t321] 28 (0,0)) (by(with_reducible repeat (first|refine blk_drewN ?_ _|refine blk_drew ?_|refine blk_alloc ?_ _));refine blk_put (cs:=#[.int .i64 t317,.slice Ao36 t318.length co36,.int .i64 0]) ?_ 2 _ rfl;(with_reducible repeat (first|refine blk_drewN ?_ _|refine blk_drew ?_|refine blk_alloc ?_ _));refine blk_put (cs:=#[.int .i64 t317,.slice none 0 0,.int .i64 0]) ?_ 1 _ rfl;(with_reducible repeat (first|refine blk_drewN ?_ _|refine blk_drew ?_|refine blk_alloc ?_ _));refine blk_put (cs:=#[.int .i64 0,.slice none 0 0,.int .i64 0]) ?_ 0 _ rfl;(with_reducible repeat (first|refine blk_drewN ?_ _|refine blk_drew ?_|refine blk_alloc ?_ _));exact BK326.out) hb);have n10_:=Aside0.mk (below_step (bS4 GE294.out GE310.out GE316.out GE326.out) hb);clear HO299 HO304 HO308 HO314 HO320 HO324 BK294 BK310 BK316 BK326 HB;have HO299:=n0_;have HO304:=n1_;have HO308:=n2_;have HO314:=n3_;have HO320:=n4_;have HO324:=n5_;have BK294:=n6_;have BK310:=n7_;have BK316:=n8_;have BK326:=n9_;have HB:=n10_;clear n0_ n1_ n2_ n3_ n4_ n5_ n6_ n7_ n8_ n9_ n10_;(try clear hb);(try clear hb2);(try clear hk);(try clear hi);obtain⟨Ao49,co49,eo49⟩:=Kd.R_slice HO324.out;subst eo49;obtain⟨Ao50,co50,eo50⟩:=Kd.R_slice HO308.out;subst eo50)|(go_at_call 26;(with_reducible refine(laws_eqIntS.calls k _ _ t322 _ _ t306 true _ ?side1 ?side2 ?side3 ?side4 A39.out).mono ?_);(case side1=>exact bT HO324.out);(case side2=>exact(Kd.R_reads' HO324.out).2.1);(case side3=>exact bT HO308.out);(case side4=>exact(Kd.R_reads' HO308.out).2.1);rintro e w' ⟨rfl,⟨nd,rfl⟩⟩))
     go_meet
     case rel=>exact⟨_,((t325 != t309)),(bR),H',⟨by first|omega|exact Nat.le_refl _⟩,⟨by(with_reducible repeat (first|apply Kd.R_alloc|apply Kd.R_drewN|apply Kd.R_drew));exact Kd.R_mono HO308.out (fun _ hk=>hk.2)⟩,⟨by(with_reducible repeat (first|apply Kd.R_alloc|apply Kd.R_drewN|apply Kd.R_drew));exact Kd.R_mono HO324.out (fun _ hk=>hk.2)⟩,⟨by(with_reducible repeat (first|apply Kd.S_alloc|apply Kd.S_drewN|apply Kd.S_drew));exact Kd.S_mono HO304.out (fun _ hk=>⟨hk.1.1.1.1,⟨hk.2,⟨hk.1.1.2,hk.1.2⟩⟩⟩)⟩,⟨by(with_reducible repeat (first|apply Kd.S_alloc|apply Kd.S_drewN|apply Kd.S_drew));exact Kd.S_mono HO314.out (fun _ hk=>⟨hk.1.1.2,⟨hk.2,⟨hk.1.1.1.2,hk.1.2⟩⟩⟩)⟩,⟨by(with_reducible repeat (first|apply Kd.S_alloc|apply Kd.S_drewN|apply Kd.S_drew));exact Kd.S_mono HO320.out (fun _ hk=>⟨hk.1.2,⟨hk.1.1.1.1,⟨hk.1.1.2,hk.2⟩⟩⟩)⟩,⟨by(with_reducible repeat (first|refine blk_drewN ?_ _|refine blk_drew ?_|refine blk_alloc ?_ _));exact BK294.out⟩,⟨by(with_reducible repeat (first|refine blk_drewN ?_ _|refine blk_drew ?_|refine blk_alloc ?_ _));exact BK310.out⟩,⟨by(with_reducible repeat (first|refine blk_drewN ?_ _|refine blk_drew ?_|refine blk_alloc ?_ _));exact BK316.out⟩,⟨by(with_reducible repeat (first|refine blk_drewN ?_ _|refine blk_drew ?_|refine blk_alloc ?_ _));exact BK326.out⟩,⟨bS4 GE294.out GE310.out GE316.out GE326.out⟩⟩
    ·replace c40:=Bool.eq_false_iff.mpr c40
     subst c40
     have H1:(laws_FnExactNextRound.j0 k t306 t309 t322 t325 true a0_0 l0_1 a0_2 t301 t302 t305 t311 t312 t315 t317 t318 t321)=some r:=by rw[if_neg (show ¬ (false=true) by decide)] at H;exact H
     clear H
     have H:=H1
     clear H1
     have H':=Aside0.mk H
     clear H
     have hnb51:=NB326_294.out
     have hnc51:=NB294_326.out
     have hnb52:=NB326_310.out
     have hnc52:=NB310_326.out
     have hnb53:=NB326_316.out
     have hnc53:=NB316_326.out
     obtain⟨hcz54_0,hcz54_1,hcz54_2⟩:=cC3 BK326.out
     obtain⟨hfz54_0,hfz54_1,hfz54_2⟩:=cF3 BK326.out
     have hnb55:=NB310_294.out
     have hnc55:=NB294_310.out
     have hnb56:=NB310_316.out
     have hnc56:=NB316_310.out
     obtain⟨hcz57_0,hcz57_1,hcz57_2⟩:=cC3 BK310.out
     obtain⟨hfz57_0,hfz57_1,hfz57_2⟩:=cF3 BK310.out
     go_wp2_with (first|((with_reducible refine gate_callee (f:=19) rfl ?_);refine goesA (some 39) rfl rfl Try.func19 #[.agg #[.int .i64 t317,.slice Ao36 t318.length co36,.int .i64 t321],.agg #[.int .i64 t301,.slice Ao22 t302.length co22,.int .i64 t305]] rfl ?_;(with_reducible refine(laws_eqTurns.calls k t317 _ _ t318 t321 t301 _ _ t302 t305 true _ ?side1 ?side2 ?side3 ?side4 A37.out).mono ?_);(case side1=>refine(Kd.S_reads' (e:=116) (base:=w.heap.size) (ok:=fun k_=>((((some k_≠(v323:Value).ownBlock∧N319_≤k_)∧N319_≤k_)∧some k_≠(v307:Value).ownBlock)∧N319_≤k_)) (n:=t318.length) (c:=co36) ?_).2.2;exact(by(with_reducible repeat (first|apply Kd.S_alloc|apply Kd.S_drewN|apply Kd.S_drew));exact(Kd.S_mono (Kd.S_far (p:=⟨gb326,2,none⟩) (Kd.S_far (p:=⟨gb326,1,none⟩) (Kd.S_far (p:=⟨gb326,0,none⟩) (Kd.S_types HO320.out BK326.out (by decide)) (fun _ hk=>hk.2) (.int .i64 t317)) (fun _ hk=>hk.2) (.slice Ao36 t318.length co36)) (fun _ hk=>hk.2) (.int .i64 t321)) (fun _ h_=>h_.1))));(case side2=>exact(Kd.S_reads' HO320.out).2.1);(case side3=>refine(Kd.S_reads' (e:=116) (base:=w.heap.size) (ok:=fun k_=>((((some k_≠(v307:Value).ownBlock∧N303_≤k_)∧k_ < N313_)∧k_ < N319_)∧some k_≠(v323:Value).ownBlock)) (n:=t302.length) (c:=co22) ?_).2.2;exact(by(with_reducible repeat (first|apply Kd.S_alloc|apply Kd.S_drewN|apply Kd.S_drew));exact(Kd.S_mono (Kd.S_far (p:=⟨gb326,2,none⟩) (Kd.S_far (p:=⟨gb326,1,none⟩) (Kd.S_far (p:=⟨gb326,0,none⟩) (Kd.S_types HO304.out BK326.out (by decide)) (fun _ hk=>hk.2) (.int .i64 t317)) (fun _ hk=>hk.2) (.slice Ao36 t318.length co36)) (fun _ hk=>hk.2) (.int .i64 t321)) (fun _ h_=>h_.1))));(case side4=>exact(Kd.S_reads' HO304.out).2.1);rintro e w58 ⟨rfl,hb⟩;refine⟨_,rfl,?_⟩;have n0_:=Aside0.mk (Kd.S_below (by(with_reducible repeat (first|apply Kd.S_alloc|apply Kd.S_drewN|apply Kd.S_drew));exact(Kd.S_mono (Kd.S_far (p:=⟨gb326,2,none⟩) (Kd.S_far (p:=⟨gb326,1,none⟩) (Kd.S_far (p:=⟨gb326,0,none⟩) (Kd.S_types HO299.out BK326.out (by decide)) (fun _ hk=>hk.2) (.int .i64 t317)) (fun _ hk=>hk.2) (.slice Ao36 t318.length co36)) (fun _ hk=>hk.2) (.int .i64 t321)) (fun _ h_=>h_.1))) hb);have n1_:=Aside0.mk (Kd.S_below (by(with_reducible repeat (first|apply Kd.S_alloc|apply Kd.S_drewN|apply Kd.S_drew));exact(Kd.S_mono (Kd.S_far (p:=⟨gb326,2,none⟩) (Kd.S_far (p:=⟨gb326,1,none⟩) (Kd.S_far (p:=⟨gb326,0,none⟩) (Kd.S_types HO304.out BK326.out (by decide)) (fun _ hk=>hk.2) (.int .i64 t317)) (fun _ hk=>hk.2) (.slice Ao36 t318.length co36)) (fun _ hk=>hk.2) (.int .i64 t321)) (fun _ h_=>h_.1))) hb);have n2_:=Aside0.mk (Kd.R_below (by(with_reducible repeat (first|apply Kd.R_alloc|apply Kd.R_drewN|apply Kd.R_drew));exact(Kd.R_mono (Kd.R_far (p:=⟨gb326,2,none⟩) (Kd.R_far (p:=⟨gb326,1,none⟩) (Kd.R_far (p:=⟨gb326,0,none⟩) (Kd.R_types HO308.out BK326.out (by decide)) (fun _ hk=>hk.2) (.int .i64 t317)) (fun _ hk=>hk.2) (.slice Ao36 t318.length co36)) (fun _ hk=>hk.2) (.int .i64 t321)) (fun _ h_=>h_.1))) hb);have n3_:=Aside0.mk (Kd.S_below (by(with_reducible repeat (first|apply Kd.S_alloc|apply Kd.S_drewN|apply Kd.S_drew));exact(Kd.S_mono (Kd.S_far (p:=⟨gb326,2,none⟩) (Kd.S_far (p:=⟨gb326,1,none⟩) (Kd.S_far (p:=⟨gb326,0,none⟩) (Kd.S_types HO314.out BK326.out (by decide)) (fun _ hk=>hk.2) (.int .i64 t317)) (fun _ hk=>hk.2) (.slice Ao36 t318.length co36)) (fun _ hk=>hk.2) (.int .i64 t321)) (fun _ h_=>h_.1))) hb);have n4_:=Aside0.mk (Kd.S_below (by(with_reducible repeat (first|apply Kd.S_alloc|apply Kd.S_drewN|apply Kd.S_drew));exact(Kd.S_mono (Kd.S_far (p:=⟨gb326,2,none⟩) (Kd.S_far (p:=⟨gb326,1,none⟩) (Kd.S_far (p:=⟨gb326,0,none⟩) (Kd.S_types HO320.out BK326.out (by decide)) (fun _ hk=>hk.2) (.int .i64 t317)) (fun _ hk=>hk.2) (.slice Ao36 t318.length co36)) (fun _ hk=>hk.2) (.int .i64 t321)) (fun _ h_=>h_.1))) hb);have n5_:=Aside0.mk (Kd.R_below (by(with_reducible repeat (first|apply Kd.R_alloc|apply Kd.R_drewN|apply Kd.R_drew));exact(Kd.R_mono (Kd.R_far (p:=⟨gb326,2,none⟩) (Kd.R_far (p:=⟨gb326,1,none⟩) (Kd.R_far (p:=⟨gb326,0,none⟩) (Kd.R_types HO324.out BK326.out (by decide)) (fun _ hk=>hk.2) (.int .i64 t317)) (fun _ hk=>hk.2) (.slice Ao36 t318.length co36)) (fun _ hk=>hk.2) (.int .i64 t321)) (fun _ h_=>h_.1))) hb);have n6_:=Aside0.mk (blk_below (g:=gb294) (o:=.cells #[.int .i64 a0_0,.slice A0_1 l0_1.length c0_1,.int .i64 a0_2] 24 (0,0)) (by(with_reducible repeat (first|refine blk_drewN ?_ _|refine blk_drew ?_|refine blk_alloc ?_ _));refine blk_far ?_ NB294_326.out _;(with_reducible repeat (first|refine blk_drewN ?_ _|refine blk_drew ?_|refine blk_alloc ?_ _));refine blk_far ?_ NB294_326.out _;(with_reducible repeat (first|refine blk_drewN ?_ _|refine blk_drew ?_|refine blk_alloc ?_ _));refine blk_far ?_ NB294_326.out _;(with_reducible repeat (first|refine blk_drewN ?_ _|refine blk_drew ?_|refine blk_alloc ?_ _));exact BK294.out) hb);have n7_:=Aside0.mk (blk_below (g:=gb310) (o:=.cells #[.int .i64 t301,.slice Ao22 t302.length co22,.int .i64 t305] 28 (0,0)) (by(with_reducible repeat (first|refine blk_drewN ?_ _|refine blk_drew ?_|refine blk_alloc ?_ _));refine blk_far ?_ NB310_326.out _;(with_reducible repeat (first|refine blk_drewN ?_ _|refine blk_drew ?_|refine blk_alloc ?_ _));refine blk_far ?_ NB310_326.out _;(with_reducible repeat (first|refine blk_drewN ?_ _|refine blk_drew ?_|refine blk_alloc ?_ _));refine blk_far ?_ NB310_326.out _;(with_reducible repeat (first|refine blk_drewN ?_ _|refine blk_drew ?_|refine blk_alloc ?_ _));exact BK310.out) hb);have n8_:=Aside0.mk (blk_below (g:=gb316) (o:=.cells #[.int .i64 t311,.slice Ao29 t312.length co29,.int .i64 t315] 28 (0,0)) (by(with_reducible repeat (first|refine blk_drewN ?_ _|refine blk_drew ?_|refine blk_alloc ?_ _));refine blk_far ?_ NB316_326.out _;(with_reducible repeat (first|refine blk_drewN ?_ _|refine blk_drew ?_|refine blk_alloc ?_ _));refine blk_far ?_ NB316_326.out _;(with_reducible repeat (first|refine blk_drewN ?_ _|refine blk_drew ?_|refine blk_alloc ?_ _));refine blk_far ?_ NB316_326.out _;(with_reducible repeat (first|refine blk_drewN ?_ _|refine blk_drew ?_|refine blk_alloc ?_ _));exact BK316.out) hb);have n9_:=Aside0.mk (blk_below (g:=gb326) (o:=.cells #[.int .i64 t317,.slice Ao36 t318.length co36,.int .i64 t321] 28 (0,0)) (by(with_reducible repeat (first|refine blk_drewN ?_ _|refine blk_drew ?_|refine blk_alloc ?_ _));refine blk_put (cs:=#[.int .i64 t317,.slice Ao36 t318.length co36,.int .i64 0]) ?_ 2 _ rfl;(with_reducible repeat (first|refine blk_drewN ?_ _|refine blk_drew ?_|refine blk_alloc ?_ _));refine blk_put (cs:=#[.int .i64 t317,.slice none 0 0,.int .i64 0]) ?_ 1 _ rfl;(with_reducible repeat (first|refine blk_drewN ?_ _|refine blk_drew ?_|refine blk_alloc ?_ _));refine blk_put (cs:=#[.int .i64 0,.slice none 0 0,.int .i64 0]) ?_ 0 _ rfl;(with_reducible repeat (first|refine blk_drewN ?_ _|refine blk_drew ?_|refine blk_alloc ?_ _));exact BK326.out) hb);have n10_:=Aside0.mk (below_step (bS4 GE294.out GE310.out GE316.out GE326.out) hb);clear HO299 HO304 HO308 HO314 HO320 HO324 BK294 BK310 BK316 BK326 HB;have HO299:=n0_;have HO304:=n1_;have HO308:=n2_;have HO314:=n3_;have HO320:=n4_;have HO324:=n5_;have BK294:=n6_;have BK310:=n7_;have BK316:=n8_;have BK326:=n9_;have HB:=n10_;clear n0_ n1_ n2_ n3_ n4_ n5_ n6_ n7_ n8_ n9_ n10_;(try clear hb);(try clear hb2);(try clear hk);(try clear hi);obtain⟨Ao59,co59,eo59⟩:=Kd.R_slice HO324.out;subst eo59;obtain⟨Ao60,co60,eo60⟩:=Kd.R_slice HO308.out;subst eo60)|(go_at_call 26;(with_reducible refine(laws_eqIntS.calls k _ _ t322 _ _ t306 false _ ?side1 ?side2 ?side3 ?side4 A39.out).mono ?_);(case side1=>exact bT HO324.out);(case side2=>exact(Kd.R_reads' HO324.out).2.1);(case side3=>exact bT HO308.out);(case side4=>exact(Kd.R_reads' HO308.out).2.1);rintro e w' ⟨rfl,⟨nd,rfl⟩⟩))
     go_meet
     case rel=>exact⟨_,(true),(bR),H',⟨by first|omega|exact Nat.le_refl _⟩,⟨by(with_reducible repeat (first|apply Kd.R_alloc|apply Kd.R_drewN|apply Kd.R_drew));exact Kd.R_mono HO308.out (fun _ hk=>hk.2)⟩,⟨by(with_reducible repeat (first|apply Kd.R_alloc|apply Kd.R_drewN|apply Kd.R_drew));exact Kd.R_mono HO324.out (fun _ hk=>hk.2)⟩,⟨by(with_reducible repeat (first|apply Kd.S_alloc|apply Kd.S_drewN|apply Kd.S_drew));exact Kd.S_mono HO304.out (fun _ hk=>⟨hk.1.1.1.1,⟨hk.2,⟨hk.1.1.2,hk.1.2⟩⟩⟩)⟩,⟨by(with_reducible repeat (first|apply Kd.S_alloc|apply Kd.S_drewN|apply Kd.S_drew));exact Kd.S_mono HO314.out (fun _ hk=>⟨hk.1.1.2,⟨hk.2,⟨hk.1.1.1.2,hk.1.2⟩⟩⟩)⟩,⟨by(with_reducible repeat (first|apply Kd.S_alloc|apply Kd.S_drewN|apply Kd.S_drew));exact Kd.S_mono HO320.out (fun _ hk=>⟨hk.1.2,⟨hk.1.1.1.1,⟨hk.1.1.2,hk.2⟩⟩⟩)⟩,⟨by(with_reducible repeat (first|refine blk_drewN ?_ _|refine blk_drew ?_|refine blk_alloc ?_ _));exact BK294.out⟩,⟨by(with_reducible repeat (first|refine blk_drewN ?_ _|refine blk_drew ?_|refine blk_alloc ?_ _));exact BK310.out⟩,⟨by(with_reducible repeat (first|refine blk_drewN ?_ _|refine blk_drew ?_|refine blk_alloc ?_ _));exact BK316.out⟩,⟨by(with_reducible repeat (first|refine blk_drewN ?_ _|refine blk_drew ?_|refine blk_alloc ?_ _));exact BK326.out⟩,⟨bS4 GE294.out GE310.out GE316.out GE326.out⟩⟩
   ·replace c38:=Bool.eq_false_iff.mpr c38
    subst c38
    have H1:(laws_FnExactNextRound.j0 k t306 t309 t322 t325 true a0_0 l0_1 a0_2 t301 t302 t305 t311 t312 t315 t317 t318 t321)=some r:=by rw[if_neg (show ¬ (false=true) by decide)] at H;exact H
    clear H
    have H:=H1
    clear H1
    have H':=Aside0.mk H
    clear H
    have hnb61:=NB326_294.out
    have hnc61:=NB294_326.out
    have hnb62:=NB326_310.out
    have hnc62:=NB310_326.out
    have hnb63:=NB326_316.out
    have hnc63:=NB316_326.out
    obtain⟨hcz64_0,hcz64_1,hcz64_2⟩:=cC3 BK326.out
    obtain⟨hfz64_0,hfz64_1,hfz64_2⟩:=cF3 BK326.out
    have hnb65:=NB310_294.out
    have hnc65:=NB294_310.out
    have hnb66:=NB310_316.out
    have hnc66:=NB316_310.out
    obtain⟨hcz67_0,hcz67_1,hcz67_2⟩:=cC3 BK310.out
    obtain⟨hfz67_0,hfz67_1,hfz67_2⟩:=cF3 BK310.out
    go_wp2_with (first|((with_reducible refine gate_callee (f:=19) rfl ?_);refine goesA (some 39) rfl rfl Try.func19 #[.agg #[.int .i64 t317,.slice Ao36 t318.length co36,.int .i64 t321],.agg #[.int .i64 t301,.slice Ao22 t302.length co22,.int .i64 t305]] rfl ?_;(with_reducible refine(laws_eqTurns.calls k t317 _ _ t318 t321 t301 _ _ t302 t305 false _ ?side1 ?side2 ?side3 ?side4 A37.out).mono ?_);(case side1=>refine(Kd.S_reads' (e:=116) (base:=w.heap.size) (ok:=fun k_=>((((some k_≠(v323:Value).ownBlock∧N319_≤k_)∧N319_≤k_)∧some k_≠(v307:Value).ownBlock)∧N319_≤k_)) (n:=t318.length) (c:=co36) ?_).2.2;exact(by(with_reducible repeat (first|apply Kd.S_alloc|apply Kd.S_drewN|apply Kd.S_drew));exact(Kd.S_mono (Kd.S_far (p:=⟨gb326,2,none⟩) (Kd.S_far (p:=⟨gb326,1,none⟩) (Kd.S_far (p:=⟨gb326,0,none⟩) (Kd.S_types HO320.out BK326.out (by decide)) (fun _ hk=>hk.2) (.int .i64 t317)) (fun _ hk=>hk.2) (.slice Ao36 t318.length co36)) (fun _ hk=>hk.2) (.int .i64 t321)) (fun _ h_=>h_.1))));(case side2=>exact(Kd.S_reads' HO320.out).2.1);(case side3=>refine(Kd.S_reads' (e:=116) (base:=w.heap.size) (ok:=fun k_=>((((some k_≠(v307:Value).ownBlock∧N303_≤k_)∧k_ < N313_)∧k_ < N319_)∧some k_≠(v323:Value).ownBlock)) (n:=t302.length) (c:=co22) ?_).2.2;exact(by(with_reducible repeat (first|apply Kd.S_alloc|apply Kd.S_drewN|apply Kd.S_drew));exact(Kd.S_mono (Kd.S_far (p:=⟨gb326,2,none⟩) (Kd.S_far (p:=⟨gb326,1,none⟩) (Kd.S_far (p:=⟨gb326,0,none⟩) (Kd.S_types HO304.out BK326.out (by decide)) (fun _ hk=>hk.2) (.int .i64 t317)) (fun _ hk=>hk.2) (.slice Ao36 t318.length co36)) (fun _ hk=>hk.2) (.int .i64 t321)) (fun _ h_=>h_.1))));(case side4=>exact(Kd.S_reads' HO304.out).2.1);rintro e w68 ⟨rfl,hb⟩;refine⟨_,rfl,?_⟩;have n0_:=Aside0.mk (Kd.S_below (by(with_reducible repeat (first|apply Kd.S_alloc|apply Kd.S_drewN|apply Kd.S_drew));exact(Kd.S_mono (Kd.S_far (p:=⟨gb326,2,none⟩) (Kd.S_far (p:=⟨gb326,1,none⟩) (Kd.S_far (p:=⟨gb326,0,none⟩) (Kd.S_types HO299.out BK326.out (by decide)) (fun _ hk=>hk.2) (.int .i64 t317)) (fun _ hk=>hk.2) (.slice Ao36 t318.length co36)) (fun _ hk=>hk.2) (.int .i64 t321)) (fun _ h_=>h_.1))) hb);have n1_:=Aside0.mk (Kd.S_below (by(with_reducible repeat (first|apply Kd.S_alloc|apply Kd.S_drewN|apply Kd.S_drew));exact(Kd.S_mono (Kd.S_far (p:=⟨gb326,2,none⟩) (Kd.S_far (p:=⟨gb326,1,none⟩) (Kd.S_far (p:=⟨gb326,0,none⟩) (Kd.S_types HO304.out BK326.out (by decide)) (fun _ hk=>hk.2) (.int .i64 t317)) (fun _ hk=>hk.2) (.slice Ao36 t318.length co36)) (fun _ hk=>hk.2) (.int .i64 t321)) (fun _ h_=>h_.1))) hb);have n2_:=Aside0.mk (Kd.R_below (by(with_reducible repeat (first|apply Kd.R_alloc|apply Kd.R_drewN|apply Kd.R_drew));exact(Kd.R_mono (Kd.R_far (p:=⟨gb326,2,none⟩) (Kd.R_far (p:=⟨gb326,1,none⟩) (Kd.R_far (p:=⟨gb326,0,none⟩) (Kd.R_types HO308.out BK326.out (by decide)) (fun _ hk=>hk.2) (.int .i64 t317)) (fun _ hk=>hk.2) (.slice Ao36 t318.length co36)) (fun _ hk=>hk.2) (.int .i64 t321)) (fun _ h_=>h_.1))) hb);have n3_:=Aside0.mk (Kd.S_below (by(with_reducible repeat (first|apply Kd.S_alloc|apply Kd.S_drewN|apply Kd.S_drew));exact(Kd.S_mono (Kd.S_far (p:=⟨gb326,2,none⟩) (Kd.S_far (p:=⟨gb326,1,none⟩) (Kd.S_far (p:=⟨gb326,0,none⟩) (Kd.S_types HO314.out BK326.out (by decide)) (fun _ hk=>hk.2) (.int .i64 t317)) (fun _ hk=>hk.2) (.slice Ao36 t318.length co36)) (fun _ hk=>hk.2) (.int .i64 t321)) (fun _ h_=>h_.1))) hb);have n4_:=Aside0.mk (Kd.S_below (by(with_reducible repeat (first|apply Kd.S_alloc|apply Kd.S_drewN|apply Kd.S_drew));exact(Kd.S_mono (Kd.S_far (p:=⟨gb326,2,none⟩) (Kd.S_far (p:=⟨gb326,1,none⟩) (Kd.S_far (p:=⟨gb326,0,none⟩) (Kd.S_types HO320.out BK326.out (by decide)) (fun _ hk=>hk.2) (.int .i64 t317)) (fun _ hk=>hk.2) (.slice Ao36 t318.length co36)) (fun _ hk=>hk.2) (.int .i64 t321)) (fun _ h_=>h_.1))) hb);have n5_:=Aside0.mk (Kd.R_below (by(with_reducible repeat (first|apply Kd.R_alloc|apply Kd.R_drewN|apply Kd.R_drew));exact(Kd.R_mono (Kd.R_far (p:=⟨gb326,2,none⟩) (Kd.R_far (p:=⟨gb326,1,none⟩) (Kd.R_far (p:=⟨gb326,0,none⟩) (Kd.R_types HO324.out BK326.out (by decide)) (fun _ hk=>hk.2) (.int .i64 t317)) (fun _ hk=>hk.2) (.slice Ao36 t318.length co36)) (fun _ hk=>hk.2) (.int .i64 t321)) (fun _ h_=>h_.1))) hb);have n6_:=Aside0.mk (blk_below (g:=gb294) (o:=.cells #[.int .i64 a0_0,.slice A0_1 l0_1.length c0_1,.int .i64 a0_2] 24 (0,0)) (by(with_reducible repeat (first|refine blk_drewN ?_ _|refine blk_drew ?_|refine blk_alloc ?_ _));refine blk_far ?_ NB294_326.out _;(with_reducible repeat (first|refine blk_drewN ?_ _|refine blk_drew ?_|refine blk_alloc ?_ _));refine blk_far ?_ NB294_326.out _;(with_reducible repeat (first|refine blk_drewN ?_ _|refine blk_drew ?_|refine blk_alloc ?_ _));refine blk_far ?_ NB294_326.out _;(with_reducible repeat (first|refine blk_drewN ?_ _|refine blk_drew ?_|refine blk_alloc ?_ _));exact BK294.out) hb);have n7_:=Aside0.mk (blk_below (g:=gb310) (o:=.cells #[.int .i64 t301,.slice Ao22 t302.length co22,.int .i64 t305] 28 (0,0)) (by(with_reducible repeat (first|refine blk_drewN ?_ _|refine blk_drew ?_|refine blk_alloc ?_ _));refine blk_far ?_ NB310_326.out _;(with_reducible repeat (first|refine blk_drewN ?_ _|refine blk_drew ?_|refine blk_alloc ?_ _));refine blk_far ?_ NB310_326.out _;(with_reducible repeat (first|refine blk_drewN ?_ _|refine blk_drew ?_|refine blk_alloc ?_ _));refine blk_far ?_ NB310_326.out _;(with_reducible repeat (first|refine blk_drewN ?_ _|refine blk_drew ?_|refine blk_alloc ?_ _));exact BK310.out) hb);have n8_:=Aside0.mk (blk_below (g:=gb316) (o:=.cells #[.int .i64 t311,.slice Ao29 t312.length co29,.int .i64 t315] 28 (0,0)) (by(with_reducible repeat (first|refine blk_drewN ?_ _|refine blk_drew ?_|refine blk_alloc ?_ _));refine blk_far ?_ NB316_326.out _;(with_reducible repeat (first|refine blk_drewN ?_ _|refine blk_drew ?_|refine blk_alloc ?_ _));refine blk_far ?_ NB316_326.out _;(with_reducible repeat (first|refine blk_drewN ?_ _|refine blk_drew ?_|refine blk_alloc ?_ _));refine blk_far ?_ NB316_326.out _;(with_reducible repeat (first|refine blk_drewN ?_ _|refine blk_drew ?_|refine blk_alloc ?_ _));exact BK316.out) hb);have n9_:=Aside0.mk (blk_below (g:=gb326) (o:=.cells #[.int .i64 t317,.slice Ao36 t318.length co36,.int .i64 t321] 28 (0,0)) (by(with_reducible repeat (first|refine blk_drewN ?_ _|refine blk_drew ?_|refine blk_alloc ?_ _));refine blk_put (cs:=#[.int .i64 t317,.slice Ao36 t318.length co36,.int .i64 0]) ?_ 2 _ rfl;(with_reducible repeat (first|refine blk_drewN ?_ _|refine blk_drew ?_|refine blk_alloc ?_ _));refine blk_put (cs:=#[.int .i64 t317,.slice none 0 0,.int .i64 0]) ?_ 1 _ rfl;(with_reducible repeat (first|refine blk_drewN ?_ _|refine blk_drew ?_|refine blk_alloc ?_ _));refine blk_put (cs:=#[.int .i64 0,.slice none 0 0,.int .i64 0]) ?_ 0 _ rfl;(with_reducible repeat (first|refine blk_drewN ?_ _|refine blk_drew ?_|refine blk_alloc ?_ _));exact BK326.out) hb);have n10_:=Aside0.mk (below_step (bS4 GE294.out GE310.out GE316.out GE326.out) hb);clear HO299 HO304 HO308 HO314 HO320 HO324 BK294 BK310 BK316 BK326 HB;have HO299:=n0_;have HO304:=n1_;have HO308:=n2_;have HO314:=n3_;have HO320:=n4_;have HO324:=n5_;have BK294:=n6_;have BK310:=n7_;have BK316:=n8_;have BK326:=n9_;have HB:=n10_;clear n0_ n1_ n2_ n3_ n4_ n5_ n6_ n7_ n8_ n9_ n10_;(try clear hb);(try clear hb2);(try clear hk);(try clear hi)))
    go_meet
    case rel=>exact⟨_,(true),(bR),H',⟨by first|omega|exact Nat.le_refl _⟩,⟨by(with_reducible repeat (first|apply Kd.R_alloc|apply Kd.R_drewN|apply Kd.R_drew));exact Kd.R_mono HO308.out (fun _ hk=>hk.2)⟩,⟨by(with_reducible repeat (first|apply Kd.R_alloc|apply Kd.R_drewN|apply Kd.R_drew));exact Kd.R_mono HO324.out (fun _ hk=>hk.2)⟩,⟨by(with_reducible repeat (first|apply Kd.S_alloc|apply Kd.S_drewN|apply Kd.S_drew));exact Kd.S_mono HO304.out (fun _ hk=>⟨hk.1.1.1.1,⟨hk.2,⟨hk.1.1.2,hk.1.2⟩⟩⟩)⟩,⟨by(with_reducible repeat (first|apply Kd.S_alloc|apply Kd.S_drewN|apply Kd.S_drew));exact Kd.S_mono HO314.out (fun _ hk=>⟨hk.1.1.2,⟨hk.2,⟨hk.1.1.1.2,hk.1.2⟩⟩⟩)⟩,⟨by(with_reducible repeat (first|apply Kd.S_alloc|apply Kd.S_drewN|apply Kd.S_drew));exact Kd.S_mono HO320.out (fun _ hk=>⟨hk.1.2,⟨hk.1.1.1.1,⟨hk.1.1.2,hk.2⟩⟩⟩)⟩,⟨by(with_reducible repeat (first|refine blk_drewN ?_ _|refine blk_drew ?_|refine blk_alloc ?_ _));exact BK294.out⟩,⟨by(with_reducible repeat (first|refine blk_drewN ?_ _|refine blk_drew ?_|refine blk_alloc ?_ _));exact BK310.out⟩,⟨by(with_reducible repeat (first|refine blk_drewN ?_ _|refine blk_drew ?_|refine blk_alloc ?_ _));exact BK316.out⟩,⟨by(with_reducible repeat (first|refine blk_drewN ?_ _|refine blk_drew ?_|refine blk_alloc ?_ _));exact BK326.out⟩,⟨bS4 GE294.out GE310.out GE316.out GE326.out⟩⟩
  case rest =>
   clear HC11
   try clear c1
   try clear c2
   try clear p2
   try clear c3
   try clear c3b0
   try clear c4
   try clear c5
   try clear c6
   try clear c7
   try clear c15
   try clear c17
   try clear c19
   try clear c20
   try clear c26
   try clear c27
   try clear c32
   try clear c33
   try clear c34
   try clear c38
   try clear c40
   try clear c41
   try clear c42
   try clear c43
   try clear c45
   try clear c46
   try clear c49
   try clear c50
   try clear c51
   try clear c52
   try clear c53
   try clear c55
   try clear c56
   try clear c61
   try clear c62
   try clear c63
   try clear c65
   try clear c66
   try clear hcz13_0 hcz13_1 hcz13_2
   try clear hcz15_0 hcz15_1 hcz15_2
   try clear hcz21_0 hcz21_1 hcz21_2
   try clear hcz23_0 hcz23_1 hcz23_2
   try clear hcz28_0 hcz28_1 hcz28_2
   try clear hcz35_0 hcz35_1 hcz35_2
   try clear hcz44_0 hcz44_1 hcz44_2
   try clear hcz47_0 hcz47_1 hcz47_2
   try clear hcz54_0 hcz54_1 hcz54_2
   try clear hcz57_0 hcz57_1 hcz57_2
   try clear hcz5_0 hcz5_1 hcz5_2
   try clear hcz64_0 hcz64_1 hcz64_2
   try clear hcz67_0 hcz67_1 hcz67_2
   try clear hfz13_0 hfz13_1 hfz13_2
   try clear hfz15_0 hfz15_1 hfz15_2
   try clear hfz21_0 hfz21_1 hfz21_2
   try clear hfz23_0 hfz23_1 hfz23_2
   try clear hfz28_0 hfz28_1 hfz28_2
   try clear hfz35_0 hfz35_1 hfz35_2
   try clear hfz44_0 hfz44_1 hfz44_2
   try clear hfz47_0 hfz47_1 hfz47_2
   try clear hfz54_0 hfz54_1 hfz54_2
   try clear hfz57_0 hfz57_1 hfz57_2
   try clear hfz5_0 hfz5_1 hfz5_2
   try clear hfz64_0 hfz64_1 hfz64_2
   try clear hfz67_0 hfz67_1 hfz67_2
   obtain⟨kq,x51_10,rfl,HA,HJ10,HO_5,HO_9,HO_311001,HO_317001,HO_327001,BK294,BK310,BK316,BK326,HB⟩:=hcut
   cases kq with
   | zero=>exact absurd HA.out (by simp[laws_FnExactNextRound.j0])
   | succ kj10 =>
    have H:=HA.out
    clear HA
    simp only[laws_FnExactNextRound.j0] at H
    by_cases c69:x51_10=true
    ·subst c69
     have H1:(some false)=some r:=by rw[if_pos rfl] at H;exact H
     clear H
     have H:=H1
     clear H1
     obtain rfl:=Option.some.inj H
     go_wp2
     go_ret
     exact⟨bE,bS4 GE294.out GE310.out GE316.out GE326.out⟩
    ·replace c69:=Bool.eq_false_iff.mpr c69
     subst c69
     have H1:((laws_toTurns.f kj10 a0_0 l0_1 a0_2).bind fun bt329=>((laws_eqTurns.f kj10 t311 t312 t315 bt329.1 bt329.2.1 bt329.2.2).bind fun t334=>(if t334=true then ((laws_markTurns.f kj10 t311 t312 t315 1).bind fun bt335=>(if bt335.1 < 0 then (laws_FnExactNextRound.j1 kj10 t306 t309 t322 true a0_0 l0_1 a0_2 t301 t302 t305 t317 t318 t321) else ((laws_eqTurns.f kj10 t317 t318 t321 t301 t302 t305).bind fun t337=>(if t337=true then ((laws_eqIntS.f kj10 t322 t306).bind fun t338=>(if t338=true then (laws_FnExactNextRound.j1 kj10 t306 t309 t322 (t325 != t309) a0_0 l0_1 a0_2 t301 t302 t305 t317 t318 t321) else (laws_FnExactNextRound.j1 kj10 t306 t309 t322 true a0_0 l0_1 a0_2 t301 t302 t305 t317 t318 t321))) else (laws_FnExactNextRound.j1 kj10 t306 t309 t322 true a0_0 l0_1 a0_2 t301 t302 t305 t317 t318 t321))))) else (some false))))=some r:=by rw[if_neg (show ¬ (false=true) by decide)] at H;exact H
     clear H
     have H:=H1
     clear H1
     replace H:=Option.bind_eq_some_iff.mp H
     obtain⟨⟨t329,t330,t333⟩,A700,H⟩:=H
     have A70:=Aside0.mk A700
     clear A700
     replace H:=Option.bind_eq_some_iff.mp H
     obtain⟨t334,A710,H⟩:=H
     have A71:=Aside0.mk A710
     clear A710
     by_cases c72:t334=true
     ·subst c72
      have H1:((laws_markTurns.f kj10 t311 t312 t315 1).bind fun bt335=>(if bt335.1 < 0 then (laws_FnExactNextRound.j1 kj10 t306 t309 t322 true a0_0 l0_1 a0_2 t301 t302 t305 t317 t318 t321) else ((laws_eqTurns.f kj10 t317 t318 t321 t301 t302 t305).bind fun t337=>(if t337=true then ((laws_eqIntS.f kj10 t322 t306).bind fun t338=>(if t338=true then (laws_FnExactNextRound.j1 kj10 t306 t309 t322 (t325 != t309) a0_0 l0_1 a0_2 t301 t302 t305 t317 t318 t321) else (laws_FnExactNextRound.j1 kj10 t306 t309 t322 true a0_0 l0_1 a0_2 t301 t302 t305 t317 t318 t321))) else (laws_FnExactNextRound.j1 kj10 t306 t309 t322 true a0_0 l0_1 a0_2 t301 t302 t305 t317 t318 t321)))))=some r:=by rw[if_pos rfl] at H;exact H
      clear H
      have H:=H1
      clear H1
      replace H:=Option.bind_eq_some_iff.mp H
      obtain⟨⟨t335,t336⟩,A730,H⟩:=H
      have A73:=Aside0.mk A730
      clear A730
      have HC74:=Aside0.mk H
      clear H
      try go_wp2
      have n0_:=Aside0.mk (Kd.R_drew HO_5.out)
      have n1_:=Aside0.mk (Kd.R_drew HO_9.out)
      have n2_:=Aside0.mk (Kd.S_drew HO_311001.out)
      have n3_:=Aside0.mk (Kd.S_drew HO_317001.out)
      have n4_:=Aside0.mk (Kd.S_drew HO_327001.out)
      have n5_:=Aside0.mk (blk_drew BK294.out)
      have n6_:=Aside0.mk (blk_drew BK310.out)
      have n7_:=Aside0.mk (blk_drew BK316.out)
      have n8_:=Aside0.mk (blk_drew BK326.out)
      have n9_:=Aside0.mk (below_drew1 HB.out)
      clear HO_5 HO_9 HO_311001 HO_317001 HO_327001 BK294 BK310 BK316 BK326 HB
      have HO_5:=n0_
      have HO_9:=n1_
      have HO_311001:=n2_
      have HO_317001:=n3_
      have HO_327001:=n4_
      have BK294:=n5_
      have BK310:=n6_
      have BK316:=n7_
      have BK326:=n8_
      have HB:=n9_
      clear n0_ n1_ n2_ n3_ n4_ n5_ n6_ n7_ n8_ n9_
      refine start_ (n:=5) (S:=fun w'=>w'.cell? ⟨gb316,0,none⟩=some (.int .i64 t311)∧w'.cell? ⟨gb316,1,none⟩=some (.slice Ao29 t312.length co29)∧w'.cell? ⟨gb316,2,none⟩=some (.int .i64 t315)∧w'.cell? ⟨gb294,0,none⟩=some (.int .i64 a0_0)∧w'.cell? ⟨gb294,1,none⟩=some (.slice A0_1 l0_1.length c0_1)∧w'.cell? ⟨gb294,2,none⟩=some (.int .i64 a0_2)) (ds:=[]) #[false,false,false,false,false] (by kernel_rfl) rfl rfl ⟨(blk_cell BK316.out 0).trans rfl,(blk_cell BK316.out 1).trans rfl,(blk_cell BK316.out 2).trans rfl,(blk_cell BK294.out 0).trans rfl,(blk_cell BK294.out 1).trans rfl,(blk_cell BK294.out 2).trans rfl⟩ (fun hHeld => ?_)
      generalize wc.drew=w75 at HO_5 HO_9 HO_311001 HO_317001 HO_327001 BK294 BK310 BK316 BK326 HB hHeld ⊢
      refine take_ (i:=0) (N:=some 52) (v:=?_) (a':=?_) #[true,false,false,false,false] rfl rfl (by kernel_rfl) (fun _ _ _ h=>h) (Or.inl ⟨by rfl,?_⟩) hHeld ?_ ?_
      rotate_left
      ·rintro w' ⟨s0,s1,s2,s3,s4,s5⟩
       go_simp
       with_reducible rfl
      rotate_left
      ·simp only[Act.put,List.setIfInBounds_toArray,List.set_cons_zero,List.set_cons_succ,i64_w,i32_w]
       rfl
      refine take_ (i:=1) (N:=some 53) (v:=?_) (a':=?_) #[true,true,false,false,false] rfl rfl (by kernel_rfl) (fun _ _ _ h=>h) (Or.inl ⟨by rfl,?_⟩) hHeld ?_ ?_
      rotate_left
      ·rintro w' ⟨s0,s1,s2,s3,s4,s5⟩
       go_simp
       with_reducible rfl
      rotate_left
      ·simp only[Act.put,List.setIfInBounds_toArray,List.set_cons_zero,List.set_cons_succ,i64_w,i32_w]
       rfl
      refine one_ (i:=2) (N:=some 54) #[true,true,true,false,false] rfl rfl (by kernel_rfl) (by decide) (fun K hK => ?_)
      refine goes_ Try.func17 (by kernel_rfl) rfl #[.agg #[.int .i64 a0_0,.slice A0_1 l0_1.length c0_1,.int .i64 a0_2]] (by rfl) rfl rfl (by(try simp only[List.map_toArray,List.map_cons,List.map_nil]);first|done|rfl|(simp only[List.length_drop,List.length_take];rfl)) ?_
      with_reducible refine(laws_toTurns.calls kj10 a0_0 _ _ l0_1 a0_2 t329 t330 t333 _ ?side1 ?side2 A70.out).mono ?_
      (case side1=>exact bC HR0_1.out)
      (case side2=>exact HC0_1.out)
      rintro e w76 ⟨v331,rfl,ho0,hb⟩
      refine⟨_,rfl,?_⟩
      obtain⟨N331_,hN_⟩:=sizeof_ hb
      have n0_:=Aside0.mk (Kd.R_below (bK HO_5.out) hb)
      have n1_:=Aside0.mk (Kd.R_below (bK HO_9.out) hb)
      have n2_:=Aside0.mk (S_oldN (by(with_reducible repeat (first|apply Kd.S_alloc|apply Kd.S_drewN|apply Kd.S_drew));exact HO_311001.out) hb hN_)
      have n3_:=Aside0.mk (S_oldN (by(with_reducible repeat (first|apply Kd.S_alloc|apply Kd.S_drewN|apply Kd.S_drew));exact HO_317001.out) hb hN_)
      have n4_:=Aside0.mk (S_oldN (by(with_reducible repeat (first|apply Kd.S_alloc|apply Kd.S_drewN|apply Kd.S_drew));exact HO_327001.out) hb hN_)
      have n5_:=Aside0.mk (Kd.S_lower (S_newN (S_newN (S_newN (Kd.S_new' (Kd.S_new' ho0 (Kd.R_lt (bK HO_5.out))) (Kd.R_lt (bK HO_9.out))) hN_) hN_) hN_) (below_size (bS4 GE294.out GE310.out GE316.out GE326.out)))
      have n6_:=Aside0.mk (bM BK294.out hb)
      have n7_:=Aside0.mk (bM BK310.out hb)
      have n8_:=Aside0.mk (bM BK316.out hb)
      have n9_:=Aside0.mk (bM BK326.out hb)
      have n10_:=Aside0.mk (below_step (bS4 GE294.out GE310.out GE316.out GE326.out) hb)
      clear HO_5 HO_9 HO_311001 HO_317001 HO_327001 BK294 BK310 BK316 BK326 HB
      have HO_5:=n0_
      have HO_9:=n1_
      have HO_311001:=n2_
      have HO_317001:=n3_
      have HO_327001:=n4_
      have HO332:=n5_
      have BK294:=n6_
      have BK310:=n7_
      have BK316:=n8_
      have BK326:=n9_
      have HB:=n10_
      clear n0_ n1_ n2_ n3_ n4_ n5_ n6_ n7_ n8_ n9_ n10_
      (try clear hb)
      (try clear hb2)
      (try clear hk)
      (try clear hi)
      (try clear ho0)
      obtain⟨Ao77,co77,eo77⟩:=Kd.S_slice HO332.out
      (first|subst eo77|(injection eo77 with f1_ f2_ f3_;have f4_:=f1_.symm;have f5_:=f3_.symm;clear f1_ f2_ f3_;subst f4_;subst f5_))
      refine hK.out _ _ ⟨(blk_cell BK316.out 0).trans rfl,(blk_cell BK316.out 1).trans rfl,(blk_cell BK316.out 2).trans rfl,(blk_cell BK294.out 0).trans rfl,(blk_cell BK294.out 1).trans rfl,(blk_cell BK294.out 2).trans rfl⟩ (fun hHeld => ?_)
      clear hK K
      refine norm_ (a':=?_) ?_ ?_
      rotate_left
      ·show Act.put _ (some 54) _=_
       simp only[Act.put,List.setIfInBounds_toArray,List.set_cons_zero,List.set_cons_succ,i64_w,i32_w]
       rfl
      refine one_ (i:=3) (N:=some 55) #[true,true,true,true,false] rfl rfl (by kernel_rfl) (by decide) (fun K hK => ?_)
      refine goes_ Try.func19 (by kernel_rfl) rfl #[.agg #[.int .i64 t311,.slice Ao29 t312.length co29,.int .i64 t315],.agg #[.int .i64 t329,.slice Ao77 t330.length co77,.int .i64 t333]] (by rfl) rfl rfl (by(try simp only[List.map_toArray,List.map_cons,List.map_nil]);first|done|rfl|(simp only[List.length_drop,List.length_take];rfl)) ?_
      with_reducible refine(laws_eqTurns.calls kj10 t311 _ _ t312 t315 t329 _ _ t330 t333 true _ ?side1 ?side2 ?side3 ?side4 A71.out).mono ?_
      (case side1=>repeat (first|exact(Kd.S_reads' HO_317001.out).2.2|(with_reducible refine Kd.C_alloc ?_ _)|(with_reducible refine Kd.C_drewN ?_ _)|(with_reducible refine Kd.C_drew ?_)))
      (case side2=>exact(Kd.S_reads' HO_317001.out).2.1)
      (case side3=>repeat (first|exact(Kd.S_reads' HO332.out).2.2|(with_reducible refine Kd.C_alloc ?_ _)|(with_reducible refine Kd.C_drewN ?_ _)|(with_reducible refine Kd.C_drew ?_)))
      (case side4=>exact(Kd.S_reads' HO332.out).2.1)
      rintro e w78 ⟨rfl,hb⟩
      refine⟨_,rfl,?_⟩
      have n0_:=Aside0.mk (Kd.R_below (bK HO_5.out) hb)
      have n1_:=Aside0.mk (Kd.R_below (bK HO_9.out) hb)
      have n2_:=Aside0.mk (Kd.S_below (by(with_reducible repeat (first|apply Kd.S_alloc|apply Kd.S_drewN|apply Kd.S_drew));exact HO_311001.out) hb)
      have n3_:=Aside0.mk (Kd.S_below (by(with_reducible repeat (first|apply Kd.S_alloc|apply Kd.S_drewN|apply Kd.S_drew));exact HO_317001.out) hb)
      have n4_:=Aside0.mk (Kd.S_below (by(with_reducible repeat (first|apply Kd.S_alloc|apply Kd.S_drewN|apply Kd.S_drew));exact HO_327001.out) hb)
      have n5_:=Aside0.mk (Kd.S_below (by(with_reducible repeat (first|apply Kd.S_alloc|apply Kd.S_drewN|apply Kd.S_drew));exact HO332.out) hb)
      have n6_:=Aside0.mk (bM BK294.out hb)
      have n7_:=Aside0.mk (bM BK310.out hb)
      have n8_:=Aside0.mk (bM BK316.out hb)
      have n9_:=Aside0.mk (bM BK326.out hb)
      have n10_:=Aside0.mk (below_step (bS4 GE294.out GE310.out GE316.out GE326.out) hb)
      clear HO_5 HO_9 HO_311001 HO_317001 HO_327001 HO332 BK294 BK310 BK316 BK326 HB
      have HO_5:=n0_
      have HO_9:=n1_
      have HO_311001:=n2_
      have HO_317001:=n3_
      have HO_327001:=n4_
      have HO332:=n5_
      have BK294:=n6_
      have BK310:=n7_
      have BK316:=n8_
      have BK326:=n9_
      have HB:=n10_
      clear n0_ n1_ n2_ n3_ n4_ n5_ n6_ n7_ n8_ n9_ n10_
      (try clear hb)
      (try clear hb2)
      (try clear hk)
      (try clear hi)
      refine hK.out _ _ ⟨(blk_cell BK316.out 0).trans rfl,(blk_cell BK316.out 1).trans rfl,(blk_cell BK316.out 2).trans rfl,(blk_cell BK294.out 0).trans rfl,(blk_cell BK294.out 1).trans rfl,(blk_cell BK294.out 2).trans rfl⟩ (fun hHeld => ?_)
      clear hK K
      refine norm_ (a':=?_) ?_ ?_
      rotate_left
      ·show Act.put _ (some 55) _=_
       simp only[Act.put,List.setIfInBounds_toArray,List.set_cons_zero,List.set_cons_succ,i64_w,i32_w]
       rfl
      refine pure_ (i:=4) (N:=some 56) (v:=?_) (a':=?_) #[true,true,true,true,true] rfl rfl (by kernel_rfl) (fun _ _ _ h=>h) (Or.inl ⟨by rfl,?_⟩) ?_ ?_
      rotate_left
      ·intro w'
       go_simp
       with_reducible rfl
      rotate_left
      ·simp only[Act.put,List.setIfInBounds_toArray,List.set_cons_zero,List.set_cons_succ,i64_w,i32_w]
       rfl
      refine done_ (by kernel_rfl) ?_
      have hnb79:=NB316_294.out
      have hnc79:=NB294_316.out
      have hnb80:=NB316_310.out
      have hnc80:=NB310_316.out
      have hnb81:=NB316_326.out
      have hnc81:=NB326_316.out
      obtain⟨hcz82_0,hcz82_1,hcz82_2⟩:=cC3 BK316.out
      obtain⟨hfz82_0,hfz82_1,hfz82_2⟩:=cF3 BK316.out
      go_upto_region 14 with (first|((with_reducible refine gate_callee (f:=20) rfl ?_);refine goesA (some 59) rfl rfl Try.func20 #[.agg #[.int .i64 t311,.slice Ao29 t312.length co29,.int .i64 t315],.int .i64 1] rfl ?_;obtain⟨P0_,hPS_,hPO_,hPB_⟩:=markable_ HO_317001.out;(with_reducible refine(laws_markTurns.calls kj10 t311 P0_ (.slice Ao29 t312.length co29) t312 t315 1 t335 t336 w _ ?side1 ?side2 A73.out).mono ?_);(case side1=>repeat (first|(with_reducible first|exact HB.out|apply below_alloc|apply pw_below_drewN|apply below_drew1|refine below_set ?_ GE294.out|refine below_set ?_ GE310.out|refine below_set ?_ GE316.out|refine below_set ?_ GE326.out)|exact HB.out));(case side2=>exact hPS_);rintro e w83 ⟨rfl,hy0,hb,hkp⟩;refine⟨_,rfl,?_⟩;have n0_:=Aside0.mk (Kd.R_reok (ok:=fun k_=>some k_≠(v323:Value).ownBlock) rfl (Kd.R_keptB (Kd.R_tight rfl HO_5.out) hkp (fun k_ hk_ hs_=>by have h1_:=hPO_ k_ hs_;first|exact absurd hk_ h1_.1|exact absurd hk_ h1_.2|exact absurd hk_ h1_.2.1|exact absurd hk_ h1_.2.2|exact absurd hk_ h1_.2.2.1|exact absurd hk_ h1_.2.2.2|exact absurd hk_ h1_.2.2.2.1|exact absurd hk_ h1_.1|exact absurd hk_ h1_.1.1|exact absurd hk_ h1_.1.2|exact absurd hk_ h1_.1.2.1|exact absurd hk_ h1_.1.2.2|exact absurd hk_ h1_.1.2.2.1|exact absurd hk_ h1_.1.2.2.2|exact absurd hk_ h1_.1.2.2.2.1|exact absurd hk_ h1_.1.1|exact absurd hk_ h1_.1.1.1|exact absurd hk_ h1_.1.1.2|exact absurd hk_ h1_.1.1.2.1|exact absurd hk_ h1_.1.1.2.2|exact absurd hk_ h1_.1.1.2.2.1|exact absurd hk_ h1_.1.1.2.2.2|exact absurd hk_ h1_.1.1.2.2.2.1|exact absurd hk_ h1_.1.1.1|exact absurd hk_ h1_.1.1.1.1|exact absurd hk_ h1_.1.1.1.2|exact absurd hk_ h1_.1.1.1.2.1|exact absurd hk_ h1_.1.1.1.2.2|exact absurd hk_ h1_.1.1.1.2.2.1|exact absurd hk_ h1_.1.1.1.2.2.2|exact absurd hk_ h1_.1.1.1.2.2.2.1|exact absurd hk_ h1_.1.1.1.1|exact absurd hk_ h1_.1.1.1.1.1|exact absurd hk_ h1_.1.1.1.1.2|exact absurd hk_ h1_.1.1.1.1.2.1|exact absurd hk_ h1_.1.1.1.1.2.2|exact absurd hk_ h1_.1.1.1.1.2.2.1|exact absurd hk_ h1_.1.1.1.1.2.2.2|exact absurd hk_ h1_.1.1.1.1.2.2.2.1|exact absurd hk_ h1_.1.1.1.1.1|exact absurd hk_ h1_.1.1.1.1.1.1|exact absurd hk_ h1_.1.1.1.1.1.2|exact absurd hk_ h1_.1.1.1.1.1.2.1|exact absurd hk_ h1_.1.1.1.1.1.2.2|exact absurd hk_ h1_.1.1.1.1.1.2.2.1|exact absurd hk_ h1_.1.1.1.1.1.2.2.2|exact absurd hk_ h1_.1.1.1.1.1.2.2.2.1|exact absurd hk_ h1_.1.1.1.1.1.1|exact absurd hk_ h1_.1.1.1.1.1.1.1|exact absurd hk_ h1_.1.1.1.1.1.1.2|exact absurd hk_ h1_.1.1.1.1.1.1.2.1|exact absurd hk_ h1_.1.1.1.1.1.1.2.2|exact absurd hk_ h1_.1.1.1.1.1.1.2.2.1|exact absurd hk_ h1_.1.1.1.1.1.1.2.2.2|exact absurd hk_ h1_.1.1.1.1.1.1.2.2.2.1)) (fun k_ e_=>HO_5.out.1 k_ e_));have n1_:=Aside0.mk (Kd.R_reok (ok:=fun k_=>some k_≠(v307:Value).ownBlock) rfl (Kd.R_keptB (Kd.R_tight rfl HO_9.out) hkp (fun k_ hk_ hs_=>by have h1_:=hPO_ k_ hs_;first|exact absurd hk_ h1_.1|exact absurd hk_ h1_.2|exact absurd hk_ h1_.2.1|exact absurd hk_ h1_.2.2|exact absurd hk_ h1_.2.2.1|exact absurd hk_ h1_.2.2.2|exact absurd hk_ h1_.2.2.2.1|exact absurd hk_ h1_.1|exact absurd hk_ h1_.1.1|exact absurd hk_ h1_.1.2|exact absurd hk_ h1_.1.2.1|exact absurd hk_ h1_.1.2.2|exact absurd hk_ h1_.1.2.2.1|exact absurd hk_ h1_.1.2.2.2|exact absurd hk_ h1_.1.2.2.2.1|exact absurd hk_ h1_.1.1|exact absurd hk_ h1_.1.1.1|exact absurd hk_ h1_.1.1.2|exact absurd hk_ h1_.1.1.2.1|exact absurd hk_ h1_.1.1.2.2|exact absurd hk_ h1_.1.1.2.2.1|exact absurd hk_ h1_.1.1.2.2.2|exact absurd hk_ h1_.1.1.2.2.2.1|exact absurd hk_ h1_.1.1.1|exact absurd hk_ h1_.1.1.1.1|exact absurd hk_ h1_.1.1.1.2|exact absurd hk_ h1_.1.1.1.2.1|exact absurd hk_ h1_.1.1.1.2.2|exact absurd hk_ h1_.1.1.1.2.2.1|exact absurd hk_ h1_.1.1.1.2.2.2|exact absurd hk_ h1_.1.1.1.2.2.2.1|exact absurd hk_ h1_.1.1.1.1|exact absurd hk_ h1_.1.1.1.1.1|exact absurd hk_ h1_.1.1.1.1.2|exact absurd hk_ h1_.1.1.1.1.2.1|exact absurd hk_ h1_.1.1.1.1.2.2|exact absurd hk_ h1_.1.1.1.1.2.2.1|exact absurd hk_ h1_.1.1.1.1.2.2.2|exact absurd hk_ h1_.1.1.1.1.2.2.2.1|exact absurd hk_ h1_.1.1.1.1.1|exact absurd hk_ h1_.1.1.1.1.1.1|exact absurd hk_ h1_.1.1.1.1.1.2|exact absurd hk_ h1_.1.1.1.1.1.2.1|exact absurd hk_ h1_.1.1.1.1.1.2.2|exact absurd hk_ h1_.1.1.1.1.1.2.2.1|exact absurd hk_ h1_.1.1.1.1.1.2.2.2|exact absurd hk_ h1_.1.1.1.1.1.2.2.2.1|exact absurd hk_ h1_.1.1.1.1.1.1|exact absurd hk_ h1_.1.1.1.1.1.1.1|exact absurd hk_ h1_.1.1.1.1.1.1.2|exact absurd hk_ h1_.1.1.1.1.1.1.2.1|exact absurd hk_ h1_.1.1.1.1.1.1.2.2|exact absurd hk_ h1_.1.1.1.1.1.1.2.2.1|exact absurd hk_ h1_.1.1.1.1.1.1.2.2.2|exact absurd hk_ h1_.1.1.1.1.1.1.2.2.2.1)) (fun k_ e_=>HO_9.out.1 k_ e_));have n2_:=Aside0.mk (Kd.S_mono (ok':=fun k_=>some k_≠(v307:Value).ownBlock∧some k_≠(v323:Value).ownBlock∧k_ < N313_∧k_ < N319_∧k_ < N331_) (Kd.S_keptB (HO_311001.out) hkp (fun k_ hk_ hs_=>by have h1_:=hPO_ k_ hs_;(try dsimp only at h1_ hk_);omega)) (fun k_ hk_=>⟨hk_.1.1.1,hk_.1.1.2.1,hk_.1.1.2.2.1,hk_.1.1.2.2.2,hk_.1.2⟩));have n3_:=Aside0.mk (Kd.S_mono hy0 (fun k_ h_=>hPO_ k_ h_));have n4_:=Aside0.mk (Kd.S_mono (ok':=fun k_=>some k_≠(v307:Value).ownBlock∧some k_≠(v323:Value).ownBlock∧N319_≤k_∧N319_≤k_∧k_ < N331_) (Kd.S_keptB (HO_327001.out) hkp (fun k_ hk_ hs_=>by have h1_:=hPO_ k_ hs_;(try dsimp only at h1_ hk_);omega)) (fun k_ hk_=>⟨hk_.1.1.1,hk_.1.1.2.1,hk_.1.1.2.2.1,hk_.1.1.2.2.2,hk_.1.2⟩));have n5_:=Aside0.mk (blk_kept (bL BK294.out) hkp (hPB_ _ _ _ BK294.out (by decide)));have n6_:=Aside0.mk (blk_kept (bL BK310.out) hkp (hPB_ _ _ _ BK310.out (by decide)));have n7_:=Aside0.mk (blk_kept (bL BK316.out) hkp (hPB_ _ _ _ BK316.out (by decide)));have n8_:=Aside0.mk (blk_kept (bL BK326.out) hkp (hPB_ _ _ _ BK326.out (by decide)));have n9_:=Aside0.mk (Kd.S_mono (ok':=fun k_=>some k_≠(v307:Value).ownBlock∧some k_≠(v323:Value).ownBlock∧N331_≤k_∧N331_≤k_∧N331_≤k_) (Kd.S_keptB (HO332.out) hkp (fun k_ hk_ hs_=>by have h1_:=hPO_ k_ hs_;(try dsimp only at h1_ hk_);omega)) (fun k_ hk_=>⟨hk_.1.1.1.1.1.2,hk_.1.1.1.1.2,hk_.1.1.1.2,hk_.1.1.2,hk_.1.2⟩));have n10_:=Aside0.mk (hb);clear HO_5 HO_9 HO_311001 HO_317001 HO_327001 BK294 BK310 BK316 BK326 HO332 HB;have HO_5:=n0_;have HO_9:=n1_;have HO_311001:=n2_;have HO_317001:=n3_;have HO_327001:=n4_;have BK294:=n5_;have BK310:=n6_;have BK316:=n7_;have BK326:=n8_;have HO332:=n9_;have HB:=n10_;clear n0_ n1_ n2_ n3_ n4_ n5_ n6_ n7_ n8_ n9_ n10_;(try clear hb);(try clear hkp);(try clear hy0)))
      (try simp only[Act.put,List.setIfInBounds_toArray,List.set_cons_zero,List.set_cons_succ])
      go_cut [78] (fun v78 wc => ∃ (kq:Nat) (x78_73:Bool),v78=.bool x78_73∧Aside0 (laws_FnExactNextRound.j1 kq t306 t309 t322 x78_73 a0_0 l0_1 a0_2 t301 t302 t305 t317 t318 t321=some r)∧Aside0 (kq≤kj10)∧Aside0 (Kd.R (Kd.int .i64) 3 wc w.heap.size (fun k_=>some k_≠(v323:Value).ownBlock) v307 t306)∧Aside0 (Kd.R (Kd.int .i64) 3 wc w.heap.size (fun k_=>some k_≠(v307:Value).ownBlock) v323 t322)∧Aside0 (Kd.S k116 116 wc w.heap.size (fun k_=>some k_≠(v307:Value).ownBlock∧some k_≠(v323:Value).ownBlock∧k_ < N313_∧k_ < N319_) (.slice Ao22 t302.length co22) t302)∧Aside0 (Kd.S k116 116 wc w.heap.size (fun k_=>some k_≠(v307:Value).ownBlock∧some k_≠(v323:Value).ownBlock∧N313_≤k_∧k_ < N319_) (.slice Ao29 t312.length co29) t336)∧Aside0 (Kd.S k116 116 wc w.heap.size (fun k_=>some k_≠(v307:Value).ownBlock∧some k_≠(v323:Value).ownBlock∧N319_≤k_∧N319_≤k_) (.slice Ao36 t318.length co36) t318)∧Aside0 (wc.heap[gb294]?=some (.cells #[.int .i64 a0_0,(.slice A0_1 l0_1.length c0_1),.int .i64 a0_2] 24 (0,0)))∧Aside0 (wc.heap[gb310]?=some (.cells #[.int .i64 t301,(.slice Ao22 t302.length co22),.int .i64 t305] 28 (0,0)))∧Aside0 (wc.heap[gb316]?=some (.cells #[.int .i64 t311,(.slice Ao29 t312.length co29),.int .i64 t315] 28 (0,0)))∧Aside0 (wc.heap[gb326]?=some (.cells #[.int .i64 t317,(.slice Ao36 t318.length co36),.int .i64 t321] 28 (0,0)))∧Aside0 (Below w.heap.size w wc))
      case first =>
       have H:=HC74.out
       clear HC74
       by_cases c84:t335 < 0
       ·rw[if_pos c84] at H
        have c84b0:decide (t335 < 0)=true:=decide_eq_true c84
        clear c84
        (first|rw[c84b0]|(simp only[i64_w,i32_w];rw[c84b0])|skip)
        have H':=Aside0.mk H
        clear H
        go_wp2
        go_meet
        case rel=>exact⟨_,(true),(bR),H',⟨by have:=HJ10.out;first|omega|exact Nat.le_refl _⟩,⟨by(with_reducible repeat (first|apply Kd.R_alloc|apply Kd.R_drewN|apply Kd.R_drew));exact HO_5.out⟩,⟨by(with_reducible repeat (first|apply Kd.R_alloc|apply Kd.R_drewN|apply Kd.R_drew));exact HO_9.out⟩,⟨by(with_reducible repeat (first|apply Kd.S_alloc|apply Kd.S_drewN|apply Kd.S_drew));exact Kd.S_mono HO_311001.out (fun _ hk=>⟨hk.1,⟨hk.2.1,⟨hk.2.2.1,hk.2.2.2.1⟩⟩⟩)⟩,⟨by(with_reducible repeat (first|apply Kd.S_alloc|apply Kd.S_drewN|apply Kd.S_drew));exact Kd.S_mono HO_317001.out (fun _ hk=>⟨hk.1.1,⟨hk.1.2.1,⟨hk.1.2.2.1,hk.1.2.2.2⟩⟩⟩)⟩,⟨by(with_reducible repeat (first|apply Kd.S_alloc|apply Kd.S_drewN|apply Kd.S_drew));exact Kd.S_mono HO_327001.out (fun _ hk=>⟨hk.1,⟨hk.2.1,⟨hk.2.2.1,hk.2.2.2.1⟩⟩⟩)⟩,⟨by(with_reducible repeat (first|refine blk_drewN ?_ _|refine blk_drew ?_|refine blk_alloc ?_ _));exact BK294.out⟩,⟨by(with_reducible repeat (first|refine blk_drewN ?_ _|refine blk_drew ?_|refine blk_alloc ?_ _));exact BK310.out⟩,⟨by(with_reducible repeat (first|refine blk_drewN ?_ _|refine blk_drew ?_|refine blk_alloc ?_ _));exact BK316.out⟩,⟨by(with_reducible repeat (first|refine blk_drewN ?_ _|refine blk_drew ?_|refine blk_alloc ?_ _));exact BK326.out⟩,⟨bS4 GE294.out GE310.out GE316.out GE326.out⟩⟩
       ·rw[if_neg c84] at H
        have c84b0:decide (t335 < 0)=false:=decide_eq_false c84
        clear c84
        (first|rw[c84b0]|(simp only[i64_w,i32_w];rw[c84b0])|skip)
        replace H:=Option.bind_eq_some_iff.mp H
        obtain⟨t337,A850,H⟩:=H
        have A85:=Aside0.mk A850
        clear A850
        by_cases c86:t337=true
        ·subst c86
         have H1:((laws_eqIntS.f kj10 t322 t306).bind fun t338=>(if t338=true then (laws_FnExactNextRound.j1 kj10 t306 t309 t322 (t325 != t309) a0_0 l0_1 a0_2 t301 t302 t305 t317 t318 t321) else (laws_FnExactNextRound.j1 kj10 t306 t309 t322 true a0_0 l0_1 a0_2 t301 t302 t305 t317 t318 t321)))=some r:=by rw[if_pos rfl] at H;exact H
         clear H
         have H:=H1
         clear H1
         replace H:=Option.bind_eq_some_iff.mp H
         obtain⟨t338,A870,H⟩:=H
         have A87:=Aside0.mk A870
         clear A870
         by_cases c88:t338=true
         ·subst c88
          have H1:(laws_FnExactNextRound.j1 kj10 t306 t309 t322 (t325 != t309) a0_0 l0_1 a0_2 t301 t302 t305 t317 t318 t321)=some r:=by rw[if_pos rfl] at H;exact H
          clear H
          have H:=H1
          clear H1
          have H':=Aside0.mk H
          clear H
          have hnb89:=NB326_294.out
          have hnc89:=NB294_326.out
          have hnb90:=NB326_310.out
          have hnc90:=NB310_326.out
          have hnb91:=NB326_316.out
          have hnc91:=NB316_326.out
          obtain⟨hcz92_0,hcz92_1,hcz92_2⟩:=cC3 BK326.out
          obtain⟨hfz92_0,hfz92_1,hfz92_2⟩:=cF3 BK326.out
          have hnb93:=NB310_294.out
          have hnc93:=NB294_310.out
          have hnb94:=NB310_316.out
          have hnc94:=NB316_310.out
          obtain⟨hcz95_0,hcz95_1,hcz95_2⟩:=cC3 BK310.out
          obtain⟨hfz95_0,hfz95_1,hfz95_2⟩:=cF3 BK310.out
          go_wp2_with (first|(go_at_call 19;(with_reducible refine(laws_eqTurns.calls kj10 t317 _ _ t318 t321 t301 _ _ t302 t305 true _ ?side1 ?side2 ?side3 ?side4 A85.out).mono ?_);(case side1=>repeat (first|exact(Kd.S_reads' HO_327001.out).2.2|(with_reducible refine Kd.C_alloc ?_ _)|(with_reducible refine Kd.C_drewN ?_ _)|(with_reducible refine Kd.C_drew ?_)));(case side2=>exact(Kd.S_reads' HO_327001.out).2.1);(case side3=>repeat (first|exact(Kd.S_reads' HO_311001.out).2.2|(with_reducible refine Kd.C_alloc ?_ _)|(with_reducible refine Kd.C_drewN ?_ _)|(with_reducible refine Kd.C_drew ?_)));(case side4=>exact(Kd.S_reads' HO_311001.out).2.1);rintro e w96 ⟨rfl,hb⟩;have n0_:=Aside0.mk (Kd.R_below (bK HO_5.out) hb);have n1_:=Aside0.mk (Kd.R_below (bK HO_9.out) hb);have n2_:=Aside0.mk (Kd.S_below (by(with_reducible repeat (first|apply Kd.S_alloc|apply Kd.S_drewN|apply Kd.S_drew));exact HO_311001.out) hb);have n3_:=Aside0.mk (Kd.S_below (by(with_reducible repeat (first|apply Kd.S_alloc|apply Kd.S_drewN|apply Kd.S_drew));exact HO_317001.out) hb);have n4_:=Aside0.mk (Kd.S_below (by(with_reducible repeat (first|apply Kd.S_alloc|apply Kd.S_drewN|apply Kd.S_drew));exact HO_327001.out) hb);have n5_:=Aside0.mk (Kd.S_below (by(with_reducible repeat (first|apply Kd.S_alloc|apply Kd.S_drewN|apply Kd.S_drew));exact HO332.out) hb);have n6_:=Aside0.mk (bM BK294.out hb);have n7_:=Aside0.mk (bM BK310.out hb);have n8_:=Aside0.mk (bM BK316.out hb);have n9_:=Aside0.mk (bM BK326.out hb);have n10_:=Aside0.mk (below_step (bS4 GE294.out GE310.out GE316.out GE326.out) hb);clear HO_5 HO_9 HO_311001 HO_317001 HO_327001 HO332 BK294 BK310 BK316 BK326 HB;have HO_5:=n0_;have HO_9:=n1_;have HO_311001:=n2_;have HO_317001:=n3_;have HO_327001:=n4_;have HO332:=n5_;have BK294:=n6_;have BK310:=n7_;have BK316:=n8_;have BK326:=n9_;have HB:=n10_;clear n0_ n1_ n2_ n3_ n4_ n5_ n6_ n7_ n8_ n9_ n10_;(try clear hb);(try clear hb2);(try clear hk);(try clear hi);obtain⟨Ao97,co97,eo97⟩:=Kd.R_slice HO_9.out;subst eo97;obtain⟨Ao98,co98,eo98⟩:=Kd.R_slice HO_5.out;subst eo98)|(go_at_call 26;(with_reducible refine(laws_eqIntS.calls kj10 _ _ t322 _ _ t306 true _ ?side1 ?side2 ?side3 ?side4 A87.out).mono ?_);(case side1=>exact bT HO_9.out);(case side2=>exact(Kd.R_reads' HO_9.out).2.1);(case side3=>exact bT HO_5.out);(case side4=>exact(Kd.R_reads' HO_5.out).2.1);rintro e w' ⟨rfl,⟨nd,rfl⟩⟩))
          go_meet
          case rel=>exact⟨_,((t325 != t309)),(bR),H',⟨by have:=HJ10.out;first|omega|exact Nat.le_refl _⟩,⟨by(with_reducible repeat (first|apply Kd.R_alloc|apply Kd.R_drewN|apply Kd.R_drew));exact HO_5.out⟩,⟨by(with_reducible repeat (first|apply Kd.R_alloc|apply Kd.R_drewN|apply Kd.R_drew));exact HO_9.out⟩,⟨by(with_reducible repeat (first|apply Kd.S_alloc|apply Kd.S_drewN|apply Kd.S_drew));exact Kd.S_mono HO_311001.out (fun _ hk=>⟨hk.1,⟨hk.2.1,⟨hk.2.2.1,hk.2.2.2.1⟩⟩⟩)⟩,⟨by(with_reducible repeat (first|apply Kd.S_alloc|apply Kd.S_drewN|apply Kd.S_drew));exact Kd.S_mono HO_317001.out (fun _ hk=>⟨hk.1.1,⟨hk.1.2.1,⟨hk.1.2.2.1,hk.1.2.2.2⟩⟩⟩)⟩,⟨by(with_reducible repeat (first|apply Kd.S_alloc|apply Kd.S_drewN|apply Kd.S_drew));exact Kd.S_mono HO_327001.out (fun _ hk=>⟨hk.1,⟨hk.2.1,⟨hk.2.2.1,hk.2.2.2.1⟩⟩⟩)⟩,⟨by(with_reducible repeat (first|refine blk_drewN ?_ _|refine blk_drew ?_|refine blk_alloc ?_ _));exact BK294.out⟩,⟨by(with_reducible repeat (first|refine blk_drewN ?_ _|refine blk_drew ?_|refine blk_alloc ?_ _));exact BK310.out⟩,⟨by(with_reducible repeat (first|refine blk_drewN ?_ _|refine blk_drew ?_|refine blk_alloc ?_ _));exact BK316.out⟩,⟨by(with_reducible repeat (first|refine blk_drewN ?_ _|refine blk_drew ?_|refine blk_alloc ?_ _));exact BK326.out⟩,⟨bS4 GE294.out GE310.out GE316.out GE326.out⟩⟩
         ·replace c88:=Bool.eq_false_iff.mpr c88
          subst c88
          have H1:(laws_FnExactNextRound.j1 kj10 t306 t309 t322 true a0_0 l0_1 a0_2 t301 t302 t305 t317 t318 t321)=some r:=by rw[if_neg (show ¬ (false=true) by decide)] at H;exact H
          clear H
          have H:=H1
          clear H1
          have H':=Aside0.mk H
          clear H
          have hnb99:=NB326_294.out
          have hnc99:=NB294_326.out
          have hnb100:=NB326_310.out
          have hnc100:=NB310_326.out
          have hnb101:=NB326_316.out
          have hnc101:=NB316_326.out
          obtain⟨hcz102_0,hcz102_1,hcz102_2⟩:=cC3 BK326.out
          obtain⟨hfz102_0,hfz102_1,hfz102_2⟩:=cF3 BK326.out
          have hnb103:=NB310_294.out
          have hnc103:=NB294_310.out
          have hnb104:=NB310_316.out
          have hnc104:=NB316_310.out
          obtain⟨hcz105_0,hcz105_1,hcz105_2⟩:=cC3 BK310.out
          obtain⟨hfz105_0,hfz105_1,hfz105_2⟩:=cF3 BK310.out
          go_wp2_with (first|(go_at_call 19;(with_reducible refine(laws_eqTurns.calls kj10 t317 _ _ t318 t321 t301 _ _ t302 t305 true _ ?side1 ?side2 ?side3 ?side4 A85.out).mono ?_);(case side1=>repeat (first|exact(Kd.S_reads' HO_327001.out).2.2|(with_reducible refine Kd.C_alloc ?_ _)|(with_reducible refine Kd.C_drewN ?_ _)|(with_reducible refine Kd.C_drew ?_)));(case side2=>exact(Kd.S_reads' HO_327001.out).2.1);(case side3=>repeat (first|exact(Kd.S_reads' HO_311001.out).2.2|(with_reducible refine Kd.C_alloc ?_ _)|(with_reducible refine Kd.C_drewN ?_ _)|(with_reducible refine Kd.C_drew ?_)));(case side4=>exact(Kd.S_reads' HO_311001.out).2.1);rintro e w106 ⟨rfl,hb⟩;have n0_:=Aside0.mk (Kd.R_below (bK HO_5.out) hb);have n1_:=Aside0.mk (Kd.R_below (bK HO_9.out) hb);have n2_:=Aside0.mk (Kd.S_below (by(with_reducible repeat (first|apply Kd.S_alloc|apply Kd.S_drewN|apply Kd.S_drew));exact HO_311001.out) hb);have n3_:=Aside0.mk (Kd.S_below (by(with_reducible repeat (first|apply Kd.S_alloc|apply Kd.S_drewN|apply Kd.S_drew));exact HO_317001.out) hb);have n4_:=Aside0.mk (Kd.S_below (by(with_reducible repeat (first|apply Kd.S_alloc|apply Kd.S_drewN|apply Kd.S_drew));exact HO_327001.out) hb);have n5_:=Aside0.mk (Kd.S_below (by(with_reducible repeat (first|apply Kd.S_alloc|apply Kd.S_drewN|apply Kd.S_drew));exact HO332.out) hb);have n6_:=Aside0.mk (bM BK294.out hb);have n7_:=Aside0.mk (bM BK310.out hb);have n8_:=Aside0.mk (bM BK316.out hb);have n9_:=Aside0.mk (bM BK326.out hb);have n10_:=Aside0.mk (below_step (bS4 GE294.out GE310.out GE316.out GE326.out) hb);clear HO_5 HO_9 HO_311001 HO_317001 HO_327001 HO332 BK294 BK310 BK316 BK326 HB;have HO_5:=n0_;have HO_9:=n1_;have HO_311001:=n2_;have HO_317001:=n3_;have HO_327001:=n4_;have HO332:=n5_;have BK294:=n6_;have BK310:=n7_;have BK316:=n8_;have BK326:=n9_;have HB:=n10_;clear n0_ n1_ n2_ n3_ n4_ n5_ n6_ n7_ n8_ n9_ n10_;(try clear hb);(try clear hb2);(try clear hk);(try clear hi);obtain⟨Ao107,co107,eo107⟩:=Kd.R_slice HO_9.out;subst eo107;obtain⟨Ao108,co108,eo108⟩:=Kd.R_slice HO_5.out;subst eo108)|(go_at_call 26;(with_reducible refine(laws_eqIntS.calls kj10 _ _ t322 _ _ t306 false _ ?side1 ?side2 ?side3 ?side4 A87.out).mono ?_);(case side1=>exact bT HO_9.out);(case side2=>exact(Kd.R_reads' HO_9.out).2.1);(case side3=>exact bT HO_5.out);(case side4=>exact(Kd.R_reads' HO_5.out).2.1);rintro e w' ⟨rfl,⟨nd,rfl⟩⟩))
          go_meet
          case rel=>exact⟨_,(true),(bR),H',⟨by have:=HJ10.out;first|omega|exact Nat.le_refl _⟩,⟨by(with_reducible repeat (first|apply Kd.R_alloc|apply Kd.R_drewN|apply Kd.R_drew));exact HO_5.out⟩,⟨by(with_reducible repeat (first|apply Kd.R_alloc|apply Kd.R_drewN|apply Kd.R_drew));exact HO_9.out⟩,⟨by(with_reducible repeat (first|apply Kd.S_alloc|apply Kd.S_drewN|apply Kd.S_drew));exact Kd.S_mono HO_311001.out (fun _ hk=>⟨hk.1,⟨hk.2.1,⟨hk.2.2.1,hk.2.2.2.1⟩⟩⟩)⟩,⟨by(with_reducible repeat (first|apply Kd.S_alloc|apply Kd.S_drewN|apply Kd.S_drew));exact Kd.S_mono HO_317001.out (fun _ hk=>⟨hk.1.1,⟨hk.1.2.1,⟨hk.1.2.2.1,hk.1.2.2.2⟩⟩⟩)⟩,⟨by(with_reducible repeat (first|apply Kd.S_alloc|apply Kd.S_drewN|apply Kd.S_drew));exact Kd.S_mono HO_327001.out (fun _ hk=>⟨hk.1,⟨hk.2.1,⟨hk.2.2.1,hk.2.2.2.1⟩⟩⟩)⟩,⟨by(with_reducible repeat (first|refine blk_drewN ?_ _|refine blk_drew ?_|refine blk_alloc ?_ _));exact BK294.out⟩,⟨by(with_reducible repeat (first|refine blk_drewN ?_ _|refine blk_drew ?_|refine blk_alloc ?_ _));exact BK310.out⟩,⟨by(with_reducible repeat (first|refine blk_drewN ?_ _|refine blk_drew ?_|refine blk_alloc ?_ _));exact BK316.out⟩,⟨by(with_reducible repeat (first|refine blk_drewN ?_ _|refine blk_drew ?_|refine blk_alloc ?_ _));exact BK326.out⟩,⟨bS4 GE294.out GE310.out GE316.out GE326.out⟩⟩
        ·replace c86:=Bool.eq_false_iff.mpr c86
         subst c86
         have H1:(laws_FnExactNextRound.j1 kj10 t306 t309 t322 true a0_0 l0_1 a0_2 t301 t302 t305 t317 t318 t321)=some r:=by rw[if_neg (show ¬ (false=true) by decide)] at H;exact H
         clear H
         have H:=H1
         clear H1
         have H':=Aside0.mk H
         clear H
         have hnb109:=NB326_294.out
         have hnc109:=NB294_326.out
         have hnb110:=NB326_310.out
         have hnc110:=NB310_326.out
         have hnb111:=NB326_316.out
         have hnc111:=NB316_326.out
         obtain⟨hcz112_0,hcz112_1,hcz112_2⟩:=cC3 BK326.out
         obtain⟨hfz112_0,hfz112_1,hfz112_2⟩:=cF3 BK326.out
         have hnb113:=NB310_294.out
         have hnc113:=NB294_310.out
         have hnb114:=NB310_316.out
         have hnc114:=NB316_310.out
         obtain⟨hcz115_0,hcz115_1,hcz115_2⟩:=cC3 BK310.out
         obtain⟨hfz115_0,hfz115_1,hfz115_2⟩:=cF3 BK310.out
         go_wp2_with (first|(go_at_call 19;(with_reducible refine(laws_eqTurns.calls kj10 t317 _ _ t318 t321 t301 _ _ t302 t305 false _ ?side1 ?side2 ?side3 ?side4 A85.out).mono ?_);(case side1=>repeat (first|exact(Kd.S_reads' HO_327001.out).2.2|(with_reducible refine Kd.C_alloc ?_ _)|(with_reducible refine Kd.C_drewN ?_ _)|(with_reducible refine Kd.C_drew ?_)));(case side2=>exact(Kd.S_reads' HO_327001.out).2.1);(case side3=>repeat (first|exact(Kd.S_reads' HO_311001.out).2.2|(with_reducible refine Kd.C_alloc ?_ _)|(with_reducible refine Kd.C_drewN ?_ _)|(with_reducible refine Kd.C_drew ?_)));(case side4=>exact(Kd.S_reads' HO_311001.out).2.1);rintro e w116 ⟨rfl,hb⟩;have n0_:=Aside0.mk (Kd.R_below (bK HO_5.out) hb);have n1_:=Aside0.mk (Kd.R_below (bK HO_9.out) hb);have n2_:=Aside0.mk (Kd.S_below (by(with_reducible repeat (first|apply Kd.S_alloc|apply Kd.S_drewN|apply Kd.S_drew));exact HO_311001.out) hb);have n3_:=Aside0.mk (Kd.S_below (by(with_reducible repeat (first|apply Kd.S_alloc|apply Kd.S_drewN|apply Kd.S_drew));exact HO_317001.out) hb);have n4_:=Aside0.mk (Kd.S_below (by(with_reducible repeat (first|apply Kd.S_alloc|apply Kd.S_drewN|apply Kd.S_drew));exact HO_327001.out) hb);have n5_:=Aside0.mk (Kd.S_below (by(with_reducible repeat (first|apply Kd.S_alloc|apply Kd.S_drewN|apply Kd.S_drew));exact HO332.out) hb);have n6_:=Aside0.mk (bM BK294.out hb);have n7_:=Aside0.mk (bM BK310.out hb);have n8_:=Aside0.mk (bM BK316.out hb);have n9_:=Aside0.mk (bM BK326.out hb);have n10_:=Aside0.mk (below_step (bS4 GE294.out GE310.out GE316.out GE326.out) hb);clear HO_5 HO_9 HO_311001 HO_317001 HO_327001 HO332 BK294 BK310 BK316 BK326 HB;have HO_5:=n0_;have HO_9:=n1_;have HO_311001:=n2_;have HO_317001:=n3_;have HO_327001:=n4_;have HO332:=n5_;have BK294:=n6_;have BK310:=n7_;have BK316:=n8_;have BK326:=n9_;have HB:=n10_;clear n0_ n1_ n2_ n3_ n4_ n5_ n6_ n7_ n8_ n9_ n10_;(try clear hb);(try clear hb2);(try clear hk);(try clear hi)))
         go_meet
         case rel=>exact⟨_,(true),(bR),H',⟨by have:=HJ10.out;first|omega|exact Nat.le_refl _⟩,⟨by(with_reducible repeat (first|apply Kd.R_alloc|apply Kd.R_drewN|apply Kd.R_drew));exact HO_5.out⟩,⟨by(with_reducible repeat (first|apply Kd.R_alloc|apply Kd.R_drewN|apply Kd.R_drew));exact HO_9.out⟩,⟨by(with_reducible repeat (first|apply Kd.S_alloc|apply Kd.S_drewN|apply Kd.S_drew));exact Kd.S_mono HO_311001.out (fun _ hk=>⟨hk.1,⟨hk.2.1,⟨hk.2.2.1,hk.2.2.2.1⟩⟩⟩)⟩,⟨by(with_reducible repeat (first|apply Kd.S_alloc|apply Kd.S_drewN|apply Kd.S_drew));exact Kd.S_mono HO_317001.out (fun _ hk=>⟨hk.1.1,⟨hk.1.2.1,⟨hk.1.2.2.1,hk.1.2.2.2⟩⟩⟩)⟩,⟨by(with_reducible repeat (first|apply Kd.S_alloc|apply Kd.S_drewN|apply Kd.S_drew));exact Kd.S_mono HO_327001.out (fun _ hk=>⟨hk.1,⟨hk.2.1,⟨hk.2.2.1,hk.2.2.2.1⟩⟩⟩)⟩,⟨by(with_reducible repeat (first|refine blk_drewN ?_ _|refine blk_drew ?_|refine blk_alloc ?_ _));exact BK294.out⟩,⟨by(with_reducible repeat (first|refine blk_drewN ?_ _|refine blk_drew ?_|refine blk_alloc ?_ _));exact BK310.out⟩,⟨by(with_reducible repeat (first|refine blk_drewN ?_ _|refine blk_drew ?_|refine blk_alloc ?_ _));exact BK316.out⟩,⟨by(with_reducible repeat (first|refine blk_drewN ?_ _|refine blk_drew ?_|refine blk_alloc ?_ _));exact BK326.out⟩,⟨bS4 GE294.out GE310.out GE316.out GE326.out⟩⟩
      case rest =>
       clear HC74
       try clear c1
       try clear c2
       try clear p2
       try clear c3
       try clear c3b0
       try clear c4
       try clear c5
       try clear c6
       try clear c7
       try clear c8
       try clear c9
       try clear c10
       try clear c11
       try clear c15
       try clear c17
       try clear c19
       try clear c20
       try clear c26
       try clear c27
       try clear c32
       try clear c33
       try clear c34
       try clear c38
       try clear c40
       try clear c41
       try clear c42
       try clear c43
       try clear c45
       try clear c46
       try clear c49
       try clear c50
       try clear c51
       try clear c52
       try clear c53
       try clear c55
       try clear c56
       try clear c61
       try clear c62
       try clear c63
       try clear c65
       try clear c66
       try clear c69
       try clear c72
       try clear c79
       try clear c80
       try clear c81
       try clear c84
       try clear c84b0
       try clear c86
       try clear c88
       try clear c89
       try clear c90
       try clear c91
       try clear c93
       try clear c94
       try clear c99
       try clear c100
       try clear c101
       try clear c103
       try clear c104
       try clear c109
       try clear c110
       try clear c111
       try clear c113
       try clear c114
       try clear hcz102_0 hcz102_1 hcz102_2
       try clear hcz105_0 hcz105_1 hcz105_2
       try clear hcz112_0 hcz112_1 hcz112_2
       try clear hcz115_0 hcz115_1 hcz115_2
       try clear hcz13_0 hcz13_1 hcz13_2
       try clear hcz15_0 hcz15_1 hcz15_2
       try clear hcz21_0 hcz21_1 hcz21_2
       try clear hcz23_0 hcz23_1 hcz23_2
       try clear hcz28_0 hcz28_1 hcz28_2
       try clear hcz35_0 hcz35_1 hcz35_2
       try clear hcz44_0 hcz44_1 hcz44_2
       try clear hcz47_0 hcz47_1 hcz47_2
       try clear hcz54_0 hcz54_1 hcz54_2
       try clear hcz57_0 hcz57_1 hcz57_2
       try clear hcz5_0 hcz5_1 hcz5_2
       try clear hcz64_0 hcz64_1 hcz64_2
       try clear hcz67_0 hcz67_1 hcz67_2
       try clear hcz82_0 hcz82_1 hcz82_2
       try clear hcz92_0 hcz92_1 hcz92_2
       try clear hcz95_0 hcz95_1 hcz95_2
       try clear hfz102_0 hfz102_1 hfz102_2
       try clear hfz105_0 hfz105_1 hfz105_2
       try clear hfz112_0 hfz112_1 hfz112_2
       try clear hfz115_0 hfz115_1 hfz115_2
       try clear hfz13_0 hfz13_1 hfz13_2
       try clear hfz15_0 hfz15_1 hfz15_2
       try clear hfz21_0 hfz21_1 hfz21_2
       try clear hfz23_0 hfz23_1 hfz23_2
       try clear hfz28_0 hfz28_1 hfz28_2
       try clear hfz35_0 hfz35_1 hfz35_2
       try clear hfz44_0 hfz44_1 hfz44_2
       try clear hfz47_0 hfz47_1 hfz47_2
       try clear hfz54_0 hfz54_1 hfz54_2
       try clear hfz57_0 hfz57_1 hfz57_2
       try clear hfz5_0 hfz5_1 hfz5_2
       try clear hfz64_0 hfz64_1 hfz64_2
       try clear hfz67_0 hfz67_1 hfz67_2
       try clear hfz82_0 hfz82_1 hfz82_2
       try clear hfz92_0 hfz92_1 hfz92_2
       try clear hfz95_0 hfz95_1 hfz95_2
       try clear p2
       obtain⟨kq,x78_73,rfl,HA,HJ73,HO_5,HO_9,HO_311001,HO_317001,HO_327001,BK294,BK310,BK316,BK326,HB⟩:=hcut
       have hl317001_73:=(Kd.S_reads' HO_317001.out).1
       rw[hl317001_73] at HO_317001
       (try simp only[hl317001_73])
       (try simp only[hl317001_73] at BK294)
       (try simp only[hl317001_73] at BK310)
       (try simp only[hl317001_73] at BK316)
       (try simp only[hl317001_73] at BK326)
       (try simp only[hl317001_73] at HO_5)
       (try simp only[hl317001_73] at HO_9)
       (try simp only[hl317001_73] at HO_311001)
       (try simp only[hl317001_73] at HO_327001)
       cases kq with
       | zero=>exact absurd HA.out (by simp[laws_FnExactNextRound.j1])
       | succ kj73 =>
        have H:=HA.out
        clear HA
        simp only[laws_FnExactNextRound.j1] at H
        by_cases c117:x78_73=true
        ·subst c117
         have H1:(some false)=some r:=by rw[if_pos rfl] at H;exact H
         clear H
         have H:=H1
         clear H1
         obtain rfl:=Option.some.inj H
         go_wp2
         go_ret
         exact⟨bE,bS4 GE294.out GE310.out GE316.out GE326.out⟩
        ·replace c117:=Bool.eq_false_iff.mpr c117
         subst c117
         have H1:((laws_markTurns.f kj73 t317 t318 t321 1).bind fun bt339=>((laws_markIntS.f kj73 t322 bt339.1).bind fun bt341=>((laws_heldTurns.f kj73 t317 bt339.2 t321 1).bind fun t343=>(if t343 < 0 then (some false) else ((laws_heldIntS.f kj73 bt341.2 t343).bind fun t344=>(if t344 < 0 then (some false) else (if t344=bt341.1 then ((laws_toTurns.f kj73 a0_0 l0_1 a0_2).bind fun bt345=>((impl_NextRound.f kj73 bt345.1 bt345.2.1 bt345.2.2).bind fun bt350=>((laws_eqTurns.f kj73 bt350.1 bt350.2.1 bt350.2.2.1 t301 t302 t305).bind fun t360=>(if t360=true then ((laws_eqIntS.f kj73 bt350.2.2.2.1 t306).bind fun t361=>(if t361=true then (laws_FnExactNextRound.j2 kj73 bt341.2 bt341.1 (bt350.2.2.2.2 != t309) t317 bt339.2 t321) else (laws_FnExactNextRound.j2 kj73 bt341.2 bt341.1 true t317 bt339.2 t321))) else (laws_FnExactNextRound.j2 kj73 bt341.2 bt341.1 true t317 bt339.2 t321))))) else (some false))))))))=some r:=by rw[if_neg (show ¬ (false=true) by decide)] at H;exact H
         clear H
         have H:=H1
         clear H1
         replace H:=Option.bind_eq_some_iff.mp H
         obtain⟨⟨t339,t340⟩,A1180,H⟩:=H
         have A118:=Aside0.mk A1180
         clear A1180
         replace H:=Option.bind_eq_some_iff.mp H
         obtain⟨⟨t341,t342⟩,A1190,H⟩:=H
         have A119:=Aside0.mk A1190
         clear A1190
         replace H:=Option.bind_eq_some_iff.mp H
         obtain⟨t343,A1200,H⟩:=H
         have A120:=Aside0.mk A1200
         clear A1200
         by_cases c121:t343 < 0
         ·rw[if_pos c121] at H
          have c121b0:decide (t343 < 0)=true:=decide_eq_true c121
          clear c121
          obtain rfl:=Option.some.inj H
          have hnb122:=NB326_294.out
          have hnc122:=NB294_326.out
          have hnb123:=NB326_310.out
          have hnc123:=NB310_326.out
          have hnb124:=NB326_316.out
          have hnc124:=NB316_326.out
          obtain⟨hcz125_0,hcz125_1,hcz125_2⟩:=cC3 BK326.out
          obtain⟨hfz125_0,hfz125_1,hfz125_2⟩:=cF3 BK326.out
          go_wp2_with (first|((with_reducible refine gate_callee (f:=20) rfl ?_);refine goesA (some 81) rfl rfl Try.func20 #[.agg #[.int .i64 t317,.slice Ao36 t318.length co36,.int .i64 t321],.int .i64 1] rfl ?_;obtain⟨P0_,hPS_,hPO_,hPB_⟩:=markable_ HO_327001.out;(with_reducible refine(laws_markTurns.calls kj73 t317 P0_ (.slice Ao36 t318.length co36) t318 t321 1 t339 t340 w _ ?side1 ?side2 A118.out).mono ?_);(case side1=>repeat (first|(with_reducible first|exact HB.out|apply below_alloc|apply pw_below_drewN|apply below_drew1|refine below_set ?_ GE294.out|refine below_set ?_ GE310.out|refine below_set ?_ GE316.out|refine below_set ?_ GE326.out)|exact HB.out));(case side2=>exact hPS_);rintro e w126 ⟨rfl,hy0,hb,hkp⟩;refine⟨_,rfl,?_⟩;have n0_:=Aside0.mk (Kd.R_reok (ok:=fun k_=>some k_≠(v323:Value).ownBlock) rfl (Kd.R_keptB (Kd.R_tight rfl HO_5.out) hkp (fun k_ hk_ hs_=>by have h1_:=hPO_ k_ hs_;first|exact absurd hk_ h1_.1|exact absurd hk_ h1_.2|exact absurd hk_ h1_.2.1|exact absurd hk_ h1_.2.2|exact absurd hk_ h1_.2.2.1|exact absurd hk_ h1_.2.2.2|exact absurd hk_ h1_.2.2.2.1|exact absurd hk_ h1_.1|exact absurd hk_ h1_.1.1|exact absurd hk_ h1_.1.2|exact absurd hk_ h1_.1.2.1|exact absurd hk_ h1_.1.2.2|exact absurd hk_ h1_.1.2.2.1|exact absurd hk_ h1_.1.2.2.2|exact absurd hk_ h1_.1.2.2.2.1|exact absurd hk_ h1_.1.1|exact absurd hk_ h1_.1.1.1|exact absurd hk_ h1_.1.1.2|exact absurd hk_ h1_.1.1.2.1|exact absurd hk_ h1_.1.1.2.2|exact absurd hk_ h1_.1.1.2.2.1|exact absurd hk_ h1_.1.1.2.2.2|exact absurd hk_ h1_.1.1.2.2.2.1|exact absurd hk_ h1_.1.1.1|exact absurd hk_ h1_.1.1.1.1|exact absurd hk_ h1_.1.1.1.2|exact absurd hk_ h1_.1.1.1.2.1|exact absurd hk_ h1_.1.1.1.2.2|exact absurd hk_ h1_.1.1.1.2.2.1|exact absurd hk_ h1_.1.1.1.2.2.2|exact absurd hk_ h1_.1.1.1.2.2.2.1|exact absurd hk_ h1_.1.1.1.1|exact absurd hk_ h1_.1.1.1.1.1|exact absurd hk_ h1_.1.1.1.1.2|exact absurd hk_ h1_.1.1.1.1.2.1|exact absurd hk_ h1_.1.1.1.1.2.2|exact absurd hk_ h1_.1.1.1.1.2.2.1|exact absurd hk_ h1_.1.1.1.1.2.2.2|exact absurd hk_ h1_.1.1.1.1.2.2.2.1|exact absurd hk_ h1_.1.1.1.1.1|exact absurd hk_ h1_.1.1.1.1.1.1|exact absurd hk_ h1_.1.1.1.1.1.2|exact absurd hk_ h1_.1.1.1.1.1.2.1|exact absurd hk_ h1_.1.1.1.1.1.2.2|exact absurd hk_ h1_.1.1.1.1.1.2.2.1|exact absurd hk_ h1_.1.1.1.1.1.2.2.2|exact absurd hk_ h1_.1.1.1.1.1.2.2.2.1|exact absurd hk_ h1_.1.1.1.1.1.1|exact absurd hk_ h1_.1.1.1.1.1.1.1|exact absurd hk_ h1_.1.1.1.1.1.1.2|exact absurd hk_ h1_.1.1.1.1.1.1.2.1|exact absurd hk_ h1_.1.1.1.1.1.1.2.2|exact absurd hk_ h1_.1.1.1.1.1.1.2.2.1|exact absurd hk_ h1_.1.1.1.1.1.1.2.2.2|exact absurd hk_ h1_.1.1.1.1.1.1.2.2.2.1)) (fun k_ e_=>HO_5.out.1 k_ e_));have n1_:=Aside0.mk (Kd.R_reok (ok:=fun k_=>some k_≠(v307:Value).ownBlock) rfl (Kd.R_keptB (Kd.R_tight rfl HO_9.out) hkp (fun k_ hk_ hs_=>by have h1_:=hPO_ k_ hs_;first|exact absurd hk_ h1_.1|exact absurd hk_ h1_.2|exact absurd hk_ h1_.2.1|exact absurd hk_ h1_.2.2|exact absurd hk_ h1_.2.2.1|exact absurd hk_ h1_.2.2.2|exact absurd hk_ h1_.2.2.2.1|exact absurd hk_ h1_.1|exact absurd hk_ h1_.1.1|exact absurd hk_ h1_.1.2|exact absurd hk_ h1_.1.2.1|exact absurd hk_ h1_.1.2.2|exact absurd hk_ h1_.1.2.2.1|exact absurd hk_ h1_.1.2.2.2|exact absurd hk_ h1_.1.2.2.2.1|exact absurd hk_ h1_.1.1|exact absurd hk_ h1_.1.1.1|exact absurd hk_ h1_.1.1.2|exact absurd hk_ h1_.1.1.2.1|exact absurd hk_ h1_.1.1.2.2|exact absurd hk_ h1_.1.1.2.2.1|exact absurd hk_ h1_.1.1.2.2.2|exact absurd hk_ h1_.1.1.2.2.2.1|exact absurd hk_ h1_.1.1.1|exact absurd hk_ h1_.1.1.1.1|exact absurd hk_ h1_.1.1.1.2|exact absurd hk_ h1_.1.1.1.2.1|exact absurd hk_ h1_.1.1.1.2.2|exact absurd hk_ h1_.1.1.1.2.2.1|exact absurd hk_ h1_.1.1.1.2.2.2|exact absurd hk_ h1_.1.1.1.2.2.2.1|exact absurd hk_ h1_.1.1.1.1|exact absurd hk_ h1_.1.1.1.1.1|exact absurd hk_ h1_.1.1.1.1.2|exact absurd hk_ h1_.1.1.1.1.2.1|exact absurd hk_ h1_.1.1.1.1.2.2|exact absurd hk_ h1_.1.1.1.1.2.2.1|exact absurd hk_ h1_.1.1.1.1.2.2.2|exact absurd hk_ h1_.1.1.1.1.2.2.2.1|exact absurd hk_ h1_.1.1.1.1.1|exact absurd hk_ h1_.1.1.1.1.1.1|exact absurd hk_ h1_.1.1.1.1.1.2|exact absurd hk_ h1_.1.1.1.1.1.2.1|exact absurd hk_ h1_.1.1.1.1.1.2.2|exact absurd hk_ h1_.1.1.1.1.1.2.2.1|exact absurd hk_ h1_.1.1.1.1.1.2.2.2|exact absurd hk_ h1_.1.1.1.1.1.2.2.2.1|exact absurd hk_ h1_.1.1.1.1.1.1|exact absurd hk_ h1_.1.1.1.1.1.1.1|exact absurd hk_ h1_.1.1.1.1.1.1.2|exact absurd hk_ h1_.1.1.1.1.1.1.2.1|exact absurd hk_ h1_.1.1.1.1.1.1.2.2|exact absurd hk_ h1_.1.1.1.1.1.1.2.2.1|exact absurd hk_ h1_.1.1.1.1.1.1.2.2.2|exact absurd hk_ h1_.1.1.1.1.1.1.2.2.2.1)) (fun k_ e_=>HO_9.out.1 k_ e_));have n2_:=Aside0.mk (Kd.S_mono (ok':=fun k_=>some k_≠(v307:Value).ownBlock∧some k_≠(v323:Value).ownBlock∧k_ < N313_∧k_ < N319_) (Kd.S_keptB (HO_311001.out) hkp (fun k_ hk_ hs_=>by have h1_:=hPO_ k_ hs_;(try dsimp only at h1_ hk_);omega)) (fun k_ hk_=>⟨hk_.1.1,hk_.1.2.1,hk_.1.2.2.1,hk_.1.2.2.2⟩));have n3_:=Aside0.mk (Kd.S_mono (ok':=fun k_=>some k_≠(v307:Value).ownBlock∧some k_≠(v323:Value).ownBlock∧N313_≤k_∧k_ < N319_) (Kd.S_keptB (HO_317001.out) hkp (fun k_ hk_ hs_=>by have h1_:=hPO_ k_ hs_;(try dsimp only at h1_ hk_);omega)) (fun k_ hk_=>⟨hk_.1.1,hk_.1.2.1,hk_.1.2.2.1,hk_.1.2.2.2⟩));have n4_:=Aside0.mk (Kd.S_mono hy0 (fun k_ h_=>hPO_ k_ h_));have n5_:=Aside0.mk (blk_kept (bL BK294.out) hkp (hPB_ _ _ _ BK294.out (by decide)));have n6_:=Aside0.mk (blk_kept (bL BK310.out) hkp (hPB_ _ _ _ BK310.out (by decide)));have n7_:=Aside0.mk (blk_kept (bL BK316.out) hkp (hPB_ _ _ _ BK316.out (by decide)));have n8_:=Aside0.mk (blk_kept (bL BK326.out) hkp (hPB_ _ _ _ BK326.out (by decide)));have n9_:=Aside0.mk (hb);clear HO_5 HO_9 HO_311001 HO_317001 HO_327001 BK294 BK310 BK316 BK326 HB;have HO_5:=n0_;have HO_9:=n1_;have HO_311001:=n2_;have HO_317001:=n3_;have HO_327001:=n4_;have BK294:=n5_;have BK310:=n6_;have BK316:=n7_;have BK326:=n8_;have HB:=n9_;clear n0_ n1_ n2_ n3_ n4_ n5_ n6_ n7_ n8_ n9_;(try clear hb);(try clear hkp);(try clear hy0);obtain⟨Ao127,co127,eo127⟩:=Kd.R_slice HO_9.out;subst eo127)|((with_reducible refine gate_callee (f:=29) rfl ?_);refine goesA (some 84) rfl rfl Try.func29 #[.slice Ao127 t322.length co127,.int .i64 t339] rfl ?_;(with_reducible refine(laws_markIntS.calls kj73 (fun k_=>some k_=(.slice Ao127 t322.length co127:Value).ownBlock) (.slice Ao127 t322.length co127) t322 t339 t341 t342 w _ ?side1 ?side2 A119.out).mono ?_);(case side1=>repeat (first|(with_reducible first|exact HB.out|apply below_alloc|apply pw_below_drewN|apply below_drew1|refine below_set ?_ GE294.out|refine below_set ?_ GE310.out|refine below_set ?_ GE316.out|refine below_set ?_ GE326.out)|exact HB.out));(case side2=>exact Kd.R_tight rfl HO_9.out);rintro e w128 ⟨rfl,hy0,hb,hkp⟩;refine⟨_,rfl,?_⟩;have n0_:=Aside0.mk (Kd.R_mono (ok':=fun k_=>some k_≠(.slice Ao127 t322.length co127:Value).ownBlock) (Kd.R_keptB (HO_5.out) hkp (fun k_ hk_ hs_=>(hk_) hs_)) (fun k_ hk_=>hk_.1));have n1_:=Aside0.mk (Kd.R_reok rfl hy0 (fun k_ e_=>HO_9.out.1 k_ e_));have n2_:=Aside0.mk (Kd.S_mono (ok':=fun k_=>some k_≠(v307:Value).ownBlock∧some k_≠(.slice Ao127 t322.length co127:Value).ownBlock∧k_ < N313_∧k_ < N319_) (Kd.S_keptB (HO_311001.out) hkp (fun k_ hk_ hs_=>(hk_.2.1) hs_)) (fun k_ hk_=>⟨hk_.1.1,hk_.1.2.1,hk_.1.2.2.1,hk_.1.2.2.2⟩));have n3_:=Aside0.mk (Kd.S_mono (ok':=fun k_=>some k_≠(v307:Value).ownBlock∧some k_≠(.slice Ao127 t322.length co127:Value).ownBlock∧N313_≤k_∧k_ < N319_) (Kd.S_keptB (HO_317001.out) hkp (fun k_ hk_ hs_=>(hk_.2.1) hs_)) (fun k_ hk_=>⟨hk_.1.1,hk_.1.2.1,hk_.1.2.2.1,hk_.1.2.2.2⟩));have n4_:=Aside0.mk (Kd.S_mono (ok':=fun k_=>some k_≠(v307:Value).ownBlock∧some k_≠(.slice Ao127 t322.length co127:Value).ownBlock∧N319_≤k_∧N319_≤k_) (Kd.S_keptB (HO_327001.out) hkp (fun k_ hk_ hs_=>(hk_.2.1) hs_)) (fun k_ hk_=>⟨hk_.1.1,hk_.1.2.1,hk_.1.2.2.1,hk_.1.2.2.2⟩));have n5_:=Aside0.mk (blk_kept (bL BK294.out) hkp (fun hs_=>(fun e_=>(Kd.R_ne HO_9.out BK294.out (by decide)) e_) hs_));have n6_:=Aside0.mk (blk_kept (bL BK310.out) hkp (fun hs_=>(fun e_=>(Kd.R_ne HO_9.out BK310.out (by decide)) e_) hs_));have n7_:=Aside0.mk (blk_kept (bL BK316.out) hkp (fun hs_=>(fun e_=>(Kd.R_ne HO_9.out BK316.out (by decide)) e_) hs_));have n8_:=Aside0.mk (blk_kept (bL BK326.out) hkp (fun hs_=>(fun e_=>(Kd.R_ne HO_9.out BK326.out (by decide)) e_) hs_));have n9_:=Aside0.mk (hb);clear HO_5 HO_9 HO_311001 HO_317001 HO_327001 BK294 BK310 BK316 BK326 HB;have HO_5:=n0_;have HO_9:=n1_;have HO_311001:=n2_;have HO_317001:=n3_;have HO_327001:=n4_;have BK294:=n5_;have BK310:=n6_;have BK316:=n7_;have BK326:=n8_;have HB:=n9_;clear n0_ n1_ n2_ n3_ n4_ n5_ n6_ n7_ n8_ n9_;(try clear hb);(try clear hkp);(try clear hy0);obtain⟨hcz129_0,hcz129_1,hcz129_2⟩:=cC3 BK326.out;obtain⟨hfz129_0,hfz129_1,hfz129_2⟩:=cF3 BK326.out)|((with_reducible refine gate_callee (f:=21) rfl ?_);refine goesL_ (some 87) rfl rfl Try.func21 (by kernel_rfl) rfl #[.agg #[.int .i64 t317,.slice Ao36 t340.length co36,.int .i64 t321],.int .i64 1] rfl (by(try simp only[List.map_toArray,List.map_cons,List.map_nil]);first|done|(rw[show t340.length=t318.length from (Kd.S_reads' HO_327001.out).1.symm]<;>rfl)|rfl|(simp only[List.length_drop,List.length_take];rfl)) ?_;(with_reducible refine(laws_heldTurns.calls kj73 t317 _ _ t340 t321 1 t343 _ ?side1 ?side2 A120.out).mono ?_);(case side1=>repeat (first|exact(Kd.S_reads' HO_327001.out).2.2|(with_reducible refine Kd.C_alloc ?_ _)|(with_reducible refine Kd.C_drewN ?_ _)|(with_reducible refine Kd.C_drew ?_)));(case side2=>rw[show t340.length=t318.length from (Kd.S_reads' HO_327001.out).1.symm];exact(Kd.S_reads' HO_327001.out).2.1);rintro e w130 ⟨rfl,hb⟩;refine⟨_,rfl,?_⟩;have n0_:=Aside0.mk (Kd.R_below (bK HO_5.out) hb);have n1_:=Aside0.mk (Kd.R_below (bK HO_9.out) hb);have n2_:=Aside0.mk (Kd.S_below (by(with_reducible repeat (first|apply Kd.S_alloc|apply Kd.S_drewN|apply Kd.S_drew));exact HO_311001.out) hb);have n3_:=Aside0.mk (Kd.S_below (by(with_reducible repeat (first|apply Kd.S_alloc|apply Kd.S_drewN|apply Kd.S_drew));exact HO_317001.out) hb);have n4_:=Aside0.mk (Kd.S_below (by(with_reducible repeat (first|apply Kd.S_alloc|apply Kd.S_drewN|apply Kd.S_drew));exact HO_327001.out) hb);have n5_:=Aside0.mk (bM BK294.out hb);have n6_:=Aside0.mk (bM BK310.out hb);have n7_:=Aside0.mk (bM BK316.out hb);have n8_:=Aside0.mk (bM BK326.out hb);have n9_:=Aside0.mk (below_step (bS4 GE294.out GE310.out GE316.out GE326.out) hb);clear HO_5 HO_9 HO_311001 HO_317001 HO_327001 BK294 BK310 BK316 BK326 HB;have HO_5:=n0_;have HO_9:=n1_;have HO_311001:=n2_;have HO_317001:=n3_;have HO_327001:=n4_;have BK294:=n5_;have BK310:=n6_;have BK316:=n7_;have BK326:=n8_;have HB:=n9_;clear n0_ n1_ n2_ n3_ n4_ n5_ n6_ n7_ n8_ n9_;(try clear hb);(try clear hb2);(try clear hk);(try clear hi)))
          go_ret
          exact⟨bE,bS4 GE294.out GE310.out GE316.out GE326.out⟩
         ·rw[if_neg c121] at H
          have c121b0:decide (t343 < 0)=false:=decide_eq_false c121
          clear c121
          replace H:=Option.bind_eq_some_iff.mp H
          obtain⟨t344,A1310,H⟩:=H
          have A131:=Aside0.mk A1310
          clear A1310
          by_cases c132:t344 < 0
          ·rw[if_pos c132] at H
           have c132b0:decide (t344 < 0)=true:=decide_eq_true c132
           clear c132
           obtain rfl:=Option.some.inj H
           have hnb133:=NB326_294.out
           have hnc133:=NB294_326.out
           have hnb134:=NB326_310.out
           have hnc134:=NB310_326.out
           have hnb135:=NB326_316.out
           have hnc135:=NB316_326.out
           obtain⟨hcz136_0,hcz136_1,hcz136_2⟩:=cC3 BK326.out
           obtain⟨hfz136_0,hfz136_1,hfz136_2⟩:=cF3 BK326.out
           go_wp2_with (first|((with_reducible refine gate_callee (f:=20) rfl ?_);refine goesA (some 81) rfl rfl Try.func20 #[.agg #[.int .i64 t317,.slice Ao36 t318.length co36,.int .i64 t321],.int .i64 1] rfl ?_;obtain⟨P0_,hPS_,hPO_,hPB_⟩:=markable_ HO_327001.out;(with_reducible refine(laws_markTurns.calls kj73 t317 P0_ (.slice Ao36 t318.length co36) t318 t321 1 t339 t340 w _ ?side1 ?side2 A118.out).mono ?_);(case side1=>repeat (first|(with_reducible first|exact HB.out|apply below_alloc|apply pw_below_drewN|apply below_drew1|refine below_set ?_ GE294.out|refine below_set ?_ GE310.out|refine below_set ?_ GE316.out|refine below_set ?_ GE326.out)|exact HB.out));(case side2=>exact hPS_);rintro e w137 ⟨rfl,hy0,hb,hkp⟩;refine⟨_,rfl,?_⟩;have n0_:=Aside0.mk (Kd.R_reok (ok:=fun k_=>some k_≠(v323:Value).ownBlock) rfl (Kd.R_keptB (Kd.R_tight rfl HO_5.out) hkp (fun k_ hk_ hs_=>by have h1_:=hPO_ k_ hs_;first|exact absurd hk_ h1_.1|exact absurd hk_ h1_.2|exact absurd hk_ h1_.2.1|exact absurd hk_ h1_.2.2|exact absurd hk_ h1_.2.2.1|exact absurd hk_ h1_.2.2.2|exact absurd hk_ h1_.2.2.2.1|exact absurd hk_ h1_.1|exact absurd hk_ h1_.1.1|exact absurd hk_ h1_.1.2|exact absurd hk_ h1_.1.2.1|exact absurd hk_ h1_.1.2.2|exact absurd hk_ h1_.1.2.2.1|exact absurd hk_ h1_.1.2.2.2|exact absurd hk_ h1_.1.2.2.2.1|exact absurd hk_ h1_.1.1|exact absurd hk_ h1_.1.1.1|exact absurd hk_ h1_.1.1.2|exact absurd hk_ h1_.1.1.2.1|exact absurd hk_ h1_.1.1.2.2|exact absurd hk_ h1_.1.1.2.2.1|exact absurd hk_ h1_.1.1.2.2.2|exact absurd hk_ h1_.1.1.2.2.2.1|exact absurd hk_ h1_.1.1.1|exact absurd hk_ h1_.1.1.1.1|exact absurd hk_ h1_.1.1.1.2|exact absurd hk_ h1_.1.1.1.2.1|exact absurd hk_ h1_.1.1.1.2.2|exact absurd hk_ h1_.1.1.1.2.2.1|exact absurd hk_ h1_.1.1.1.2.2.2|exact absurd hk_ h1_.1.1.1.2.2.2.1|exact absurd hk_ h1_.1.1.1.1|exact absurd hk_ h1_.1.1.1.1.1|exact absurd hk_ h1_.1.1.1.1.2|exact absurd hk_ h1_.1.1.1.1.2.1|exact absurd hk_ h1_.1.1.1.1.2.2|exact absurd hk_ h1_.1.1.1.1.2.2.1|exact absurd hk_ h1_.1.1.1.1.2.2.2|exact absurd hk_ h1_.1.1.1.1.2.2.2.1|exact absurd hk_ h1_.1.1.1.1.1|exact absurd hk_ h1_.1.1.1.1.1.1|exact absurd hk_ h1_.1.1.1.1.1.2|exact absurd hk_ h1_.1.1.1.1.1.2.1|exact absurd hk_ h1_.1.1.1.1.1.2.2|exact absurd hk_ h1_.1.1.1.1.1.2.2.1|exact absurd hk_ h1_.1.1.1.1.1.2.2.2|exact absurd hk_ h1_.1.1.1.1.1.2.2.2.1|exact absurd hk_ h1_.1.1.1.1.1.1|exact absurd hk_ h1_.1.1.1.1.1.1.1|exact absurd hk_ h1_.1.1.1.1.1.1.2|exact absurd hk_ h1_.1.1.1.1.1.1.2.1|exact absurd hk_ h1_.1.1.1.1.1.1.2.2|exact absurd hk_ h1_.1.1.1.1.1.1.2.2.1|exact absurd hk_ h1_.1.1.1.1.1.1.2.2.2|exact absurd hk_ h1_.1.1.1.1.1.1.2.2.2.1)) (fun k_ e_=>HO_5.out.1 k_ e_));have n1_:=Aside0.mk (Kd.R_reok (ok:=fun k_=>some k_≠(v307:Value).ownBlock) rfl (Kd.R_keptB (Kd.R_tight rfl HO_9.out) hkp (fun k_ hk_ hs_=>by have h1_:=hPO_ k_ hs_;first|exact absurd hk_ h1_.1|exact absurd hk_ h1_.2|exact absurd hk_ h1_.2.1|exact absurd hk_ h1_.2.2|exact absurd hk_ h1_.2.2.1|exact absurd hk_ h1_.2.2.2|exact absurd hk_ h1_.2.2.2.1|exact absurd hk_ h1_.1|exact absurd hk_ h1_.1.1|exact absurd hk_ h1_.1.2|exact absurd hk_ h1_.1.2.1|exact absurd hk_ h1_.1.2.2|exact absurd hk_ h1_.1.2.2.1|exact absurd hk_ h1_.1.2.2.2|exact absurd hk_ h1_.1.2.2.2.1|exact absurd hk_ h1_.1.1|exact absurd hk_ h1_.1.1.1|exact absurd hk_ h1_.1.1.2|exact absurd hk_ h1_.1.1.2.1|exact absurd hk_ h1_.1.1.2.2|exact absurd hk_ h1_.1.1.2.2.1|exact absurd hk_ h1_.1.1.2.2.2|exact absurd hk_ h1_.1.1.2.2.2.1|exact absurd hk_ h1_.1.1.1|exact absurd hk_ h1_.1.1.1.1|exact absurd hk_ h1_.1.1.1.2|exact absurd hk_ h1_.1.1.1.2.1|exact absurd hk_ h1_.1.1.1.2.2|exact absurd hk_ h1_.1.1.1.2.2.1|exact absurd hk_ h1_.1.1.1.2.2.2|exact absurd hk_ h1_.1.1.1.2.2.2.1|exact absurd hk_ h1_.1.1.1.1|exact absurd hk_ h1_.1.1.1.1.1|exact absurd hk_ h1_.1.1.1.1.2|exact absurd hk_ h1_.1.1.1.1.2.1|exact absurd hk_ h1_.1.1.1.1.2.2|exact absurd hk_ h1_.1.1.1.1.2.2.1|exact absurd hk_ h1_.1.1.1.1.2.2.2|exact absurd hk_ h1_.1.1.1.1.2.2.2.1|exact absurd hk_ h1_.1.1.1.1.1|exact absurd hk_ h1_.1.1.1.1.1.1|exact absurd hk_ h1_.1.1.1.1.1.2|exact absurd hk_ h1_.1.1.1.1.1.2.1|exact absurd hk_ h1_.1.1.1.1.1.2.2|exact absurd hk_ h1_.1.1.1.1.1.2.2.1|exact absurd hk_ h1_.1.1.1.1.1.2.2.2|exact absurd hk_ h1_.1.1.1.1.1.2.2.2.1|exact absurd hk_ h1_.1.1.1.1.1.1|exact absurd hk_ h1_.1.1.1.1.1.1.1|exact absurd hk_ h1_.1.1.1.1.1.1.2|exact absurd hk_ h1_.1.1.1.1.1.1.2.1|exact absurd hk_ h1_.1.1.1.1.1.1.2.2|exact absurd hk_ h1_.1.1.1.1.1.1.2.2.1|exact absurd hk_ h1_.1.1.1.1.1.1.2.2.2|exact absurd hk_ h1_.1.1.1.1.1.1.2.2.2.1)) (fun k_ e_=>HO_9.out.1 k_ e_));have n2_:=Aside0.mk (Kd.S_mono (ok':=fun k_=>some k_≠(v307:Value).ownBlock∧some k_≠(v323:Value).ownBlock∧k_ < N313_∧k_ < N319_) (Kd.S_keptB (HO_311001.out) hkp (fun k_ hk_ hs_=>by have h1_:=hPO_ k_ hs_;(try dsimp only at h1_ hk_);omega)) (fun k_ hk_=>⟨hk_.1.1,hk_.1.2.1,hk_.1.2.2.1,hk_.1.2.2.2⟩));have n3_:=Aside0.mk (Kd.S_mono (ok':=fun k_=>some k_≠(v307:Value).ownBlock∧some k_≠(v323:Value).ownBlock∧N313_≤k_∧k_ < N319_) (Kd.S_keptB (HO_317001.out) hkp (fun k_ hk_ hs_=>by have h1_:=hPO_ k_ hs_;(try dsimp only at h1_ hk_);omega)) (fun k_ hk_=>⟨hk_.1.1,hk_.1.2.1,hk_.1.2.2.1,hk_.1.2.2.2⟩));have n4_:=Aside0.mk (Kd.S_mono hy0 (fun k_ h_=>hPO_ k_ h_));have n5_:=Aside0.mk (blk_kept (bL BK294.out) hkp (hPB_ _ _ _ BK294.out (by decide)));have n6_:=Aside0.mk (blk_kept (bL BK310.out) hkp (hPB_ _ _ _ BK310.out (by decide)));have n7_:=Aside0.mk (blk_kept (bL BK316.out) hkp (hPB_ _ _ _ BK316.out (by decide)));have n8_:=Aside0.mk (blk_kept (bL BK326.out) hkp (hPB_ _ _ _ BK326.out (by decide)));have n9_:=Aside0.mk (hb);clear HO_5 HO_9 HO_311001 HO_317001 HO_327001 BK294 BK310 BK316 BK326 HB;have HO_5:=n0_;have HO_9:=n1_;have HO_311001:=n2_;have HO_317001:=n3_;have HO_327001:=n4_;have BK294:=n5_;have BK310:=n6_;have BK316:=n7_;have BK326:=n8_;have HB:=n9_;clear n0_ n1_ n2_ n3_ n4_ n5_ n6_ n7_ n8_ n9_;(try clear hb);(try clear hkp);(try clear hy0);obtain⟨Ao138,co138,eo138⟩:=Kd.R_slice HO_9.out;subst eo138)|((with_reducible refine gate_callee (f:=29) rfl ?_);refine goesA (some 84) rfl rfl Try.func29 #[.slice Ao138 t322.length co138,.int .i64 t339] rfl ?_;(with_reducible refine(laws_markIntS.calls kj73 (fun k_=>some k_=(.slice Ao138 t322.length co138:Value).ownBlock) (.slice Ao138 t322.length co138) t322 t339 t341 t342 w _ ?side1 ?side2 A119.out).mono ?_);(case side1=>repeat (first|(with_reducible first|exact HB.out|apply below_alloc|apply pw_below_drewN|apply below_drew1|refine below_set ?_ GE294.out|refine below_set ?_ GE310.out|refine below_set ?_ GE316.out|refine below_set ?_ GE326.out)|exact HB.out));(case side2=>exact Kd.R_tight rfl HO_9.out);rintro e w139 ⟨rfl,hy0,hb,hkp⟩;refine⟨_,rfl,?_⟩;have n0_:=Aside0.mk (Kd.R_mono (ok':=fun k_=>some k_≠(.slice Ao138 t322.length co138:Value).ownBlock) (Kd.R_keptB (HO_5.out) hkp (fun k_ hk_ hs_=>(hk_) hs_)) (fun k_ hk_=>hk_.1));have n1_:=Aside0.mk (Kd.R_reok rfl hy0 (fun k_ e_=>HO_9.out.1 k_ e_));have n2_:=Aside0.mk (Kd.S_mono (ok':=fun k_=>some k_≠(v307:Value).ownBlock∧some k_≠(.slice Ao138 t322.length co138:Value).ownBlock∧k_ < N313_∧k_ < N319_) (Kd.S_keptB (HO_311001.out) hkp (fun k_ hk_ hs_=>(hk_.2.1) hs_)) (fun k_ hk_=>⟨hk_.1.1,hk_.1.2.1,hk_.1.2.2.1,hk_.1.2.2.2⟩));have n3_:=Aside0.mk (Kd.S_mono (ok':=fun k_=>some k_≠(v307:Value).ownBlock∧some k_≠(.slice Ao138 t322.length co138:Value).ownBlock∧N313_≤k_∧k_ < N319_) (Kd.S_keptB (HO_317001.out) hkp (fun k_ hk_ hs_=>(hk_.2.1) hs_)) (fun k_ hk_=>⟨hk_.1.1,hk_.1.2.1,hk_.1.2.2.1,hk_.1.2.2.2⟩));have n4_:=Aside0.mk (Kd.S_mono (ok':=fun k_=>some k_≠(v307:Value).ownBlock∧some k_≠(.slice Ao138 t322.length co138:Value).ownBlock∧N319_≤k_∧N319_≤k_) (Kd.S_keptB (HO_327001.out) hkp (fun k_ hk_ hs_=>(hk_.2.1) hs_)) (fun k_ hk_=>⟨hk_.1.1,hk_.1.2.1,hk_.1.2.2.1,hk_.1.2.2.2⟩));have n5_:=Aside0.mk (blk_kept (bL BK294.out) hkp (fun hs_=>(fun e_=>(Kd.R_ne HO_9.out BK294.out (by decide)) e_) hs_));have n6_:=Aside0.mk (blk_kept (bL BK310.out) hkp (fun hs_=>(fun e_=>(Kd.R_ne HO_9.out BK310.out (by decide)) e_) hs_));have n7_:=Aside0.mk (blk_kept (bL BK316.out) hkp (fun hs_=>(fun e_=>(Kd.R_ne HO_9.out BK316.out (by decide)) e_) hs_));have n8_:=Aside0.mk (blk_kept (bL BK326.out) hkp (fun hs_=>(fun e_=>(Kd.R_ne HO_9.out BK326.out (by decide)) e_) hs_));have n9_:=Aside0.mk (hb);clear HO_5 HO_9 HO_311001 HO_317001 HO_327001 BK294 BK310 BK316 BK326 HB;have HO_5:=n0_;have HO_9:=n1_;have HO_311001:=n2_;have HO_317001:=n3_;have HO_327001:=n4_;have BK294:=n5_;have BK310:=n6_;have BK316:=n7_;have BK326:=n8_;have HB:=n9_;clear n0_ n1_ n2_ n3_ n4_ n5_ n6_ n7_ n8_ n9_;(try clear hb);(try clear hkp);(try clear hy0);obtain⟨hcz140_0,hcz140_1,hcz140_2⟩:=cC3 BK326.out;obtain⟨hfz140_0,hfz140_1,hfz140_2⟩:=cF3 BK326.out)|((with_reducible refine gate_callee (f:=21) rfl ?_);refine goesL_ (some 87) rfl rfl Try.func21 (by kernel_rfl) rfl #[.agg #[.int .i64 t317,.slice Ao36 t340.length co36,.int .i64 t321],.int .i64 1] rfl (by(try simp only[List.map_toArray,List.map_cons,List.map_nil]);first|done|(rw[show t340.length=t318.length from (Kd.S_reads' HO_327001.out).1.symm]<;>rfl)|rfl|(simp only[List.length_drop,List.length_take];rfl)) ?_;(with_reducible refine(laws_heldTurns.calls kj73 t317 _ _ t340 t321 1 t343 _ ?side1 ?side2 A120.out).mono ?_);(case side1=>repeat (first|exact(Kd.S_reads' HO_327001.out).2.2|(with_reducible refine Kd.C_alloc ?_ _)|(with_reducible refine Kd.C_drewN ?_ _)|(with_reducible refine Kd.C_drew ?_)));(case side2=>rw[show t340.length=t318.length from (Kd.S_reads' HO_327001.out).1.symm];exact(Kd.S_reads' HO_327001.out).2.1);rintro e w141 ⟨rfl,hb⟩;refine⟨_,rfl,?_⟩;have n0_:=Aside0.mk (Kd.R_below (bK HO_5.out) hb);have n1_:=Aside0.mk (Kd.R_below (bK HO_9.out) hb);have n2_:=Aside0.mk (Kd.S_below (by(with_reducible repeat (first|apply Kd.S_alloc|apply Kd.S_drewN|apply Kd.S_drew));exact HO_311001.out) hb);have n3_:=Aside0.mk (Kd.S_below (by(with_reducible repeat (first|apply Kd.S_alloc|apply Kd.S_drewN|apply Kd.S_drew));exact HO_317001.out) hb);have n4_:=Aside0.mk (Kd.S_below (by(with_reducible repeat (first|apply Kd.S_alloc|apply Kd.S_drewN|apply Kd.S_drew));exact HO_327001.out) hb);have n5_:=Aside0.mk (bM BK294.out hb);have n6_:=Aside0.mk (bM BK310.out hb);have n7_:=Aside0.mk (bM BK316.out hb);have n8_:=Aside0.mk (bM BK326.out hb);have n9_:=Aside0.mk (below_step (bS4 GE294.out GE310.out GE316.out GE326.out) hb);clear HO_5 HO_9 HO_311001 HO_317001 HO_327001 BK294 BK310 BK316 BK326 HB;have HO_5:=n0_;have HO_9:=n1_;have HO_311001:=n2_;have HO_317001:=n3_;have HO_327001:=n4_;have BK294:=n5_;have BK310:=n6_;have BK316:=n7_;have BK326:=n8_;have HB:=n9_;clear n0_ n1_ n2_ n3_ n4_ n5_ n6_ n7_ n8_ n9_;(try clear hb);(try clear hb2);(try clear hk);(try clear hi))|((with_reducible refine gate_callee (f:=30) rfl ?_);refine goesL_ (some 92) rfl rfl Try.func30 (by kernel_rfl) rfl #[.slice Ao138 t342.length co138,.int .i64 t343] rfl (by(try simp only[List.map_toArray,List.map_cons,List.map_nil]);first|done|(rw[show t342.length=t322.length from (Kd.R_reads' HO_9.out).1.symm]<;>rfl)|rfl|(simp only[List.length_drop,List.length_take];rfl)) ?_;(with_reducible refine(laws_heldIntS.calls kj73 _ _ t342 t343 t344 _ ?side1 ?side2 A131.out).mono ?_);(case side1=>exact bT HO_9.out);(case side2=>rw[show t342.length=t322.length from (Kd.R_reads' HO_9.out).1.symm];exact(Kd.R_reads' HO_9.out).2.1);rintro e w' ⟨rfl,⟨nd,rfl⟩⟩;refine⟨_,rfl,?_⟩))
           go_ret
           exact⟨bE,bS4 GE294.out GE310.out GE316.out GE326.out⟩
          ·rw[if_neg c132] at H
           have c132b0:decide (t344 < 0)=false:=decide_eq_false c132
           clear c132
           by_cases c142:t344=t341
           ·rw[if_pos c142] at H
            have c142b0:(t344 == t341)=true:=beq_iff_eq.mpr c142
            have c142b1:(t344 != t341)=false:=bne_eq_false_iff_eq.mpr c142
            clear c142
            replace H:=Option.bind_eq_some_iff.mp H
            obtain⟨⟨t345,t346,t349⟩,A1430,H⟩:=H
            have A143:=Aside0.mk A1430
            clear A1430
            replace H:=Option.bind_eq_some_iff.mp H
            obtain⟨⟨t350,t351,t354,t355,t358⟩,A1440,H⟩:=H
            have A144:=Aside0.mk A1440
            clear A1440
            have HC145:=Aside0.mk H
            clear H
            have hnb146:=NB326_294.out
            have hnc146:=NB294_326.out
            have hnb147:=NB326_310.out
            have hnc147:=NB310_326.out
            have hnb148:=NB326_316.out
            have hnc148:=NB316_326.out
            obtain⟨hcz149_0,hcz149_1,hcz149_2⟩:=cC3 BK326.out
            obtain⟨hfz149_0,hfz149_1,hfz149_2⟩:=cF3 BK326.out
            go_upto_region 29 with (first|((with_reducible refine gate_callee (f:=20) rfl ?_);refine goesA (some 81) rfl rfl Try.func20 #[.agg #[.int .i64 t317,.slice Ao36 t318.length co36,.int .i64 t321],.int .i64 1] rfl ?_;obtain⟨P0_,hPS_,hPO_,hPB_⟩:=markable_ HO_327001.out;(with_reducible refine(laws_markTurns.calls kj73 t317 P0_ (.slice Ao36 t318.length co36) t318 t321 1 t339 t340 w _ ?side1 ?side2 A118.out).mono ?_);(case side1=>repeat (first|(with_reducible first|exact HB.out|apply below_alloc|apply pw_below_drewN|apply below_drew1|refine below_set ?_ GE294.out|refine below_set ?_ GE310.out|refine below_set ?_ GE316.out|refine below_set ?_ GE326.out)|exact HB.out));(case side2=>exact hPS_);rintro e w150 ⟨rfl,hy0,hb,hkp⟩;refine⟨_,rfl,?_⟩;have n0_:=Aside0.mk (Kd.R_reok (ok:=fun k_=>some k_≠(v323:Value).ownBlock) rfl (Kd.R_keptB (Kd.R_tight rfl HO_5.out) hkp (fun k_ hk_ hs_=>by have h1_:=hPO_ k_ hs_;first|exact absurd hk_ h1_.1|exact absurd hk_ h1_.2|exact absurd hk_ h1_.2.1|exact absurd hk_ h1_.2.2|exact absurd hk_ h1_.2.2.1|exact absurd hk_ h1_.2.2.2|exact absurd hk_ h1_.2.2.2.1|exact absurd hk_ h1_.1|exact absurd hk_ h1_.1.1|exact absurd hk_ h1_.1.2|exact absurd hk_ h1_.1.2.1|exact absurd hk_ h1_.1.2.2|exact absurd hk_ h1_.1.2.2.1|exact absurd hk_ h1_.1.2.2.2|exact absurd hk_ h1_.1.2.2.2.1|exact absurd hk_ h1_.1.1|exact absurd hk_ h1_.1.1.1|exact absurd hk_ h1_.1.1.2|exact absurd hk_ h1_.1.1.2.1|exact absurd hk_ h1_.1.1.2.2|exact absurd hk_ h1_.1.1.2.2.1|exact absurd hk_ h1_.1.1.2.2.2|exact absurd hk_ h1_.1.1.2.2.2.1|exact absurd hk_ h1_.1.1.1|exact absurd hk_ h1_.1.1.1.1|exact absurd hk_ h1_.1.1.1.2|exact absurd hk_ h1_.1.1.1.2.1|exact absurd hk_ h1_.1.1.1.2.2|exact absurd hk_ h1_.1.1.1.2.2.1|exact absurd hk_ h1_.1.1.1.2.2.2|exact absurd hk_ h1_.1.1.1.2.2.2.1|exact absurd hk_ h1_.1.1.1.1|exact absurd hk_ h1_.1.1.1.1.1|exact absurd hk_ h1_.1.1.1.1.2|exact absurd hk_ h1_.1.1.1.1.2.1|exact absurd hk_ h1_.1.1.1.1.2.2|exact absurd hk_ h1_.1.1.1.1.2.2.1|exact absurd hk_ h1_.1.1.1.1.2.2.2|exact absurd hk_ h1_.1.1.1.1.2.2.2.1|exact absurd hk_ h1_.1.1.1.1.1|exact absurd hk_ h1_.1.1.1.1.1.1|exact absurd hk_ h1_.1.1.1.1.1.2|exact absurd hk_ h1_.1.1.1.1.1.2.1|exact absurd hk_ h1_.1.1.1.1.1.2.2|exact absurd hk_ h1_.1.1.1.1.1.2.2.1|exact absurd hk_ h1_.1.1.1.1.1.2.2.2|exact absurd hk_ h1_.1.1.1.1.1.2.2.2.1|exact absurd hk_ h1_.1.1.1.1.1.1|exact absurd hk_ h1_.1.1.1.1.1.1.1|exact absurd hk_ h1_.1.1.1.1.1.1.2|exact absurd hk_ h1_.1.1.1.1.1.1.2.1|exact absurd hk_ h1_.1.1.1.1.1.1.2.2|exact absurd hk_ h1_.1.1.1.1.1.1.2.2.1|exact absurd hk_ h1_.1.1.1.1.1.1.2.2.2|exact absurd hk_ h1_.1.1.1.1.1.1.2.2.2.1)) (fun k_ e_=>HO_5.out.1 k_ e_));have n1_:=Aside0.mk (Kd.R_reok (ok:=fun k_=>some k_≠(v307:Value).ownBlock) rfl (Kd.R_keptB (Kd.R_tight rfl HO_9.out) hkp (fun k_ hk_ hs_=>by have h1_:=hPO_ k_ hs_;first|exact absurd hk_ h1_.1|exact absurd hk_ h1_.2|exact absurd hk_ h1_.2.1|exact absurd hk_ h1_.2.2|exact absurd hk_ h1_.2.2.1|exact absurd hk_ h1_.2.2.2|exact absurd hk_ h1_.2.2.2.1|exact absurd hk_ h1_.1|exact absurd hk_ h1_.1.1|exact absurd hk_ h1_.1.2|exact absurd hk_ h1_.1.2.1|exact absurd hk_ h1_.1.2.2|exact absurd hk_ h1_.1.2.2.1|exact absurd hk_ h1_.1.2.2.2|exact absurd hk_ h1_.1.2.2.2.1|exact absurd hk_ h1_.1.1|exact absurd hk_ h1_.1.1.1|exact absurd hk_ h1_.1.1.2|exact absurd hk_ h1_.1.1.2.1|exact absurd hk_ h1_.1.1.2.2|exact absurd hk_ h1_.1.1.2.2.1|exact absurd hk_ h1_.1.1.2.2.2|exact absurd hk_ h1_.1.1.2.2.2.1|exact absurd hk_ h1_.1.1.1|exact absurd hk_ h1_.1.1.1.1|exact absurd hk_ h1_.1.1.1.2|exact absurd hk_ h1_.1.1.1.2.1|exact absurd hk_ h1_.1.1.1.2.2|exact absurd hk_ h1_.1.1.1.2.2.1|exact absurd hk_ h1_.1.1.1.2.2.2|exact absurd hk_ h1_.1.1.1.2.2.2.1|exact absurd hk_ h1_.1.1.1.1|exact absurd hk_ h1_.1.1.1.1.1|exact absurd hk_ h1_.1.1.1.1.2|exact absurd hk_ h1_.1.1.1.1.2.1|exact absurd hk_ h1_.1.1.1.1.2.2|exact absurd hk_ h1_.1.1.1.1.2.2.1|exact absurd hk_ h1_.1.1.1.1.2.2.2|exact absurd hk_ h1_.1.1.1.1.2.2.2.1|exact absurd hk_ h1_.1.1.1.1.1|exact absurd hk_ h1_.1.1.1.1.1.1|exact absurd hk_ h1_.1.1.1.1.1.2|exact absurd hk_ h1_.1.1.1.1.1.2.1|exact absurd hk_ h1_.1.1.1.1.1.2.2|exact absurd hk_ h1_.1.1.1.1.1.2.2.1|exact absurd hk_ h1_.1.1.1.1.1.2.2.2|exact absurd hk_ h1_.1.1.1.1.1.2.2.2.1|exact absurd hk_ h1_.1.1.1.1.1.1|exact absurd hk_ h1_.1.1.1.1.1.1.1|exact absurd hk_ h1_.1.1.1.1.1.1.2|exact absurd hk_ h1_.1.1.1.1.1.1.2.1|exact absurd hk_ h1_.1.1.1.1.1.1.2.2|exact absurd hk_ h1_.1.1.1.1.1.1.2.2.1|exact absurd hk_ h1_.1.1.1.1.1.1.2.2.2|exact absurd hk_ h1_.1.1.1.1.1.1.2.2.2.1)) (fun k_ e_=>HO_9.out.1 k_ e_));have n2_:=Aside0.mk (Kd.S_mono (ok':=fun k_=>some k_≠(v307:Value).ownBlock∧some k_≠(v323:Value).ownBlock∧k_ < N313_∧k_ < N319_) (Kd.S_keptB (HO_311001.out) hkp (fun k_ hk_ hs_=>by have h1_:=hPO_ k_ hs_;(try dsimp only at h1_ hk_);omega)) (fun k_ hk_=>⟨hk_.1.1,hk_.1.2.1,hk_.1.2.2.1,hk_.1.2.2.2⟩));have n3_:=Aside0.mk (Kd.S_mono (ok':=fun k_=>some k_≠(v307:Value).ownBlock∧some k_≠(v323:Value).ownBlock∧N313_≤k_∧k_ < N319_) (Kd.S_keptB (HO_317001.out) hkp (fun k_ hk_ hs_=>by have h1_:=hPO_ k_ hs_;(try dsimp only at h1_ hk_);omega)) (fun k_ hk_=>⟨hk_.1.1,hk_.1.2.1,hk_.1.2.2.1,hk_.1.2.2.2⟩));have n4_:=Aside0.mk (Kd.S_mono hy0 (fun k_ h_=>hPO_ k_ h_));have n5_:=Aside0.mk (blk_kept (bL BK294.out) hkp (hPB_ _ _ _ BK294.out (by decide)));have n6_:=Aside0.mk (blk_kept (bL BK310.out) hkp (hPB_ _ _ _ BK310.out (by decide)));have n7_:=Aside0.mk (blk_kept (bL BK316.out) hkp (hPB_ _ _ _ BK316.out (by decide)));have n8_:=Aside0.mk (blk_kept (bL BK326.out) hkp (hPB_ _ _ _ BK326.out (by decide)));have n9_:=Aside0.mk (hb);clear HO_5 HO_9 HO_311001 HO_317001 HO_327001 BK294 BK310 BK316 BK326 HB;have HO_5:=n0_;have HO_9:=n1_;have HO_311001:=n2_;have HO_317001:=n3_;have HO_327001:=n4_;have BK294:=n5_;have BK310:=n6_;have BK316:=n7_;have BK326:=n8_;have HB:=n9_;clear n0_ n1_ n2_ n3_ n4_ n5_ n6_ n7_ n8_ n9_;(try clear hb);(try clear hkp);(try clear hy0);obtain⟨Ao151,co151,eo151⟩:=Kd.R_slice HO_9.out;subst eo151)|((with_reducible refine gate_callee (f:=29) rfl ?_);refine goesA (some 84) rfl rfl Try.func29 #[.slice Ao151 t322.length co151,.int .i64 t339] rfl ?_;(with_reducible refine(laws_markIntS.calls kj73 (fun k_=>some k_=(.slice Ao151 t322.length co151:Value).ownBlock) (.slice Ao151 t322.length co151) t322 t339 t341 t342 w _ ?side1 ?side2 A119.out).mono ?_);(case side1=>repeat (first|(with_reducible first|exact HB.out|apply below_alloc|apply pw_below_drewN|apply below_drew1|refine below_set ?_ GE294.out|refine below_set ?_ GE310.out|refine below_set ?_ GE316.out|refine below_set ?_ GE326.out)|exact HB.out));(case side2=>exact Kd.R_tight rfl HO_9.out);rintro e w152 ⟨rfl,hy0,hb,hkp⟩;refine⟨_,rfl,?_⟩;have n0_:=Aside0.mk (Kd.R_mono (ok':=fun k_=>some k_≠(.slice Ao151 t322.length co151:Value).ownBlock) (Kd.R_keptB (HO_5.out) hkp (fun k_ hk_ hs_=>(hk_) hs_)) (fun k_ hk_=>hk_.1));have n1_:=Aside0.mk (Kd.R_reok rfl hy0 (fun k_ e_=>HO_9.out.1 k_ e_));have n2_:=Aside0.mk (Kd.S_mono (ok':=fun k_=>some k_≠(v307:Value).ownBlock∧some k_≠(.slice Ao151 t322.length co151:Value).ownBlock∧k_ < N313_∧k_ < N319_) (Kd.S_keptB (HO_311001.out) hkp (fun k_ hk_ hs_=>(hk_.2.1) hs_)) (fun k_ hk_=>⟨hk_.1.1,hk_.1.2.1,hk_.1.2.2.1,hk_.1.2.2.2⟩));have n3_:=Aside0.mk (Kd.S_mono (ok':=fun k_=>some k_≠(v307:Value).ownBlock∧some k_≠(.slice Ao151 t322.length co151:Value).ownBlock∧N313_≤k_∧k_ < N319_) (Kd.S_keptB (HO_317001.out) hkp (fun k_ hk_ hs_=>(hk_.2.1) hs_)) (fun k_ hk_=>⟨hk_.1.1,hk_.1.2.1,hk_.1.2.2.1,hk_.1.2.2.2⟩));have n4_:=Aside0.mk (Kd.S_mono (ok':=fun k_=>some k_≠(v307:Value).ownBlock∧some k_≠(.slice Ao151 t322.length co151:Value).ownBlock∧N319_≤k_∧N319_≤k_) (Kd.S_keptB (HO_327001.out) hkp (fun k_ hk_ hs_=>(hk_.2.1) hs_)) (fun k_ hk_=>⟨hk_.1.1,hk_.1.2.1,hk_.1.2.2.1,hk_.1.2.2.2⟩));have n5_:=Aside0.mk (blk_kept (bL BK294.out) hkp (fun hs_=>(fun e_=>(Kd.R_ne HO_9.out BK294.out (by decide)) e_) hs_));have n6_:=Aside0.mk (blk_kept (bL BK310.out) hkp (fun hs_=>(fun e_=>(Kd.R_ne HO_9.out BK310.out (by decide)) e_) hs_));have n7_:=Aside0.mk (blk_kept (bL BK316.out) hkp (fun hs_=>(fun e_=>(Kd.R_ne HO_9.out BK316.out (by decide)) e_) hs_));have n8_:=Aside0.mk (blk_kept (bL BK326.out) hkp (fun hs_=>(fun e_=>(Kd.R_ne HO_9.out BK326.out (by decide)) e_) hs_));have n9_:=Aside0.mk (hb);clear HO_5 HO_9 HO_311001 HO_317001 HO_327001 BK294 BK310 BK316 BK326 HB;have HO_5:=n0_;have HO_9:=n1_;have HO_311001:=n2_;have HO_317001:=n3_;have HO_327001:=n4_;have BK294:=n5_;have BK310:=n6_;have BK316:=n7_;have BK326:=n8_;have HB:=n9_;clear n0_ n1_ n2_ n3_ n4_ n5_ n6_ n7_ n8_ n9_;(try clear hb);(try clear hkp);(try clear hy0);obtain⟨hcz153_0,hcz153_1,hcz153_2⟩:=cC3 BK326.out;obtain⟨hfz153_0,hfz153_1,hfz153_2⟩:=cF3 BK326.out)|((with_reducible refine gate_callee (f:=21) rfl ?_);refine goesL_ (some 87) rfl rfl Try.func21 (by kernel_rfl) rfl #[.agg #[.int .i64 t317,.slice Ao36 t340.length co36,.int .i64 t321],.int .i64 1] rfl (by(try simp only[List.map_toArray,List.map_cons,List.map_nil]);first|done|(rw[show t340.length=t318.length from (Kd.S_reads' HO_327001.out).1.symm]<;>rfl)|rfl|(simp only[List.length_drop,List.length_take];rfl)) ?_;(with_reducible refine(laws_heldTurns.calls kj73 t317 _ _ t340 t321 1 t343 _ ?side1 ?side2 A120.out).mono ?_);(case side1=>repeat (first|exact(Kd.S_reads' HO_327001.out).2.2|(with_reducible refine Kd.C_alloc ?_ _)|(with_reducible refine Kd.C_drewN ?_ _)|(with_reducible refine Kd.C_drew ?_)));(case side2=>rw[show t340.length=t318.length from (Kd.S_reads' HO_327001.out).1.symm];exact(Kd.S_reads' HO_327001.out).2.1);rintro e w154 ⟨rfl,hb⟩;refine⟨_,rfl,?_⟩;have n0_:=Aside0.mk (Kd.R_below (bK HO_5.out) hb);have n1_:=Aside0.mk (Kd.R_below (bK HO_9.out) hb);have n2_:=Aside0.mk (Kd.S_below (by(with_reducible repeat (first|apply Kd.S_alloc|apply Kd.S_drewN|apply Kd.S_drew));exact HO_311001.out) hb);have n3_:=Aside0.mk (Kd.S_below (by(with_reducible repeat (first|apply Kd.S_alloc|apply Kd.S_drewN|apply Kd.S_drew));exact HO_317001.out) hb);have n4_:=Aside0.mk (Kd.S_below (by(with_reducible repeat (first|apply Kd.S_alloc|apply Kd.S_drewN|apply Kd.S_drew));exact HO_327001.out) hb);have n5_:=Aside0.mk (bM BK294.out hb);have n6_:=Aside0.mk (bM BK310.out hb);have n7_:=Aside0.mk (bM BK316.out hb);have n8_:=Aside0.mk (bM BK326.out hb);have n9_:=Aside0.mk (below_step (bS4 GE294.out GE310.out GE316.out GE326.out) hb);clear HO_5 HO_9 HO_311001 HO_317001 HO_327001 BK294 BK310 BK316 BK326 HB;have HO_5:=n0_;have HO_9:=n1_;have HO_311001:=n2_;have HO_317001:=n3_;have HO_327001:=n4_;have BK294:=n5_;have BK310:=n6_;have BK316:=n7_;have BK326:=n8_;have HB:=n9_;clear n0_ n1_ n2_ n3_ n4_ n5_ n6_ n7_ n8_ n9_;(try clear hb);(try clear hb2);(try clear hk);(try clear hi))|((with_reducible refine gate_callee (f:=30) rfl ?_);refine goesL_ (some 92) rfl rfl Try.func30 (by kernel_rfl) rfl #[.slice Ao151 t342.length co151,.int .i64 t343] rfl (by(try simp only[List.map_toArray,List.map_cons,List.map_nil]);first|done|(rw[show t342.length=t322.length from (Kd.R_reads' HO_9.out).1.symm]<;>rfl)|rfl|(simp only[List.length_drop,List.length_take];rfl)) ?_;(with_reducible refine(laws_heldIntS.calls kj73 _ _ t342 t343 t344 _ ?side1 ?side2 A131.out).mono ?_);(case side1=>exact bT HO_9.out);(case side2=>rw[show t342.length=t322.length from (Kd.R_reads' HO_9.out).1.symm];exact(Kd.R_reads' HO_9.out).2.1);rintro e w' ⟨rfl,⟨nd,rfl⟩⟩;refine⟨_,rfl,?_⟩;(try (rw[drewN_self w154];generalize hq_:World.drewN w154 _=w154;have n0_:Aside0 (Kd.S k116 116 w154 w.heap.size (fun k_=>k_ < N313_∧k_ < N319_∧some k_≠(v307:Value).ownBlock∧some k_≠(.slice Ao151 t322.length co151:Value).ownBlock) (.slice Ao22 t302.length co22) t302):=⟨by rw[← hq_];exact(by(with_reducible repeat (first|apply Kd.S_alloc|apply Kd.S_drewN|apply Kd.S_drew));exact Kd.S_mono HO_311001.out (fun _ hk=>⟨hk.2.2.1,⟨hk.2.2.2,⟨hk.1,hk.2.1⟩⟩⟩))⟩;have n1_:Aside0 (Kd.S k116 116 w154 w.heap.size (fun k_=>N313_≤k_∧k_ < N319_∧some k_≠(v307:Value).ownBlock∧some k_≠(.slice Ao151 t322.length co151:Value).ownBlock) (.slice Ao29 t336.length co29) t336):=⟨by rw[← hq_];exact(by(with_reducible repeat (first|apply Kd.S_alloc|apply Kd.S_drewN|apply Kd.S_drew));exact Kd.S_mono HO_317001.out (fun _ hk=>⟨hk.2.2.1,⟨hk.2.2.2,⟨hk.1,hk.2.1⟩⟩⟩))⟩;have n2_:Aside0 (Kd.S k116 116 w154 w.heap.size (fun k_=>N319_≤k_∧N319_≤k_∧some k_≠(v307:Value).ownBlock∧some k_≠(.slice Ao151 t322.length co151:Value).ownBlock) (.slice Ao36 t318.length co36) t340):=⟨by rw[← hq_];exact(by(with_reducible repeat (first|apply Kd.S_alloc|apply Kd.S_drewN|apply Kd.S_drew));exact Kd.S_mono HO_327001.out (fun _ hk=>⟨hk.2.2.1,⟨hk.2.2.2,⟨hk.1,hk.2.1⟩⟩⟩))⟩;have n3_:Aside0 (Kd.R (Kd.int .i64) 3 w154 w.heap.size (fun k_=>some k_≠(.slice Ao151 t322.length co151:Value).ownBlock) v307 t306):=⟨by rw[← hq_];exact(bK HO_5.out)⟩;have n4_:Aside0 (Kd.R (Kd.int .i64) 3 w154 w.heap.size (fun k_=>some k_≠(v307:Value).ownBlock) (.slice Ao151 t322.length co151) t342):=⟨by rw[← hq_];exact(bK HO_9.out)⟩;have n5_:Aside0 (w154.heap[gb294]?=some (.cells #[.int .i64 a0_0,.slice A0_1 l0_1.length c0_1,.int .i64 a0_2] 24 (0,0))):=⟨by rw[← hq_];exact(bL BK294.out)⟩;have n6_:Aside0 (w154.heap[gb310]?=some (.cells #[.int .i64 t301,.slice Ao22 t302.length co22,.int .i64 t305] 28 (0,0))):=⟨by rw[← hq_];exact(bL BK310.out)⟩;have n7_:Aside0 (w154.heap[gb316]?=some (.cells #[.int .i64 t311,.slice Ao29 t336.length co29,.int .i64 t315] 28 (0,0))):=⟨by rw[← hq_];exact(bL BK316.out)⟩;have n8_:Aside0 (w154.heap[gb326]?=some (.cells #[.int .i64 t317,.slice Ao36 t318.length co36,.int .i64 t321] 28 (0,0))):=⟨by rw[← hq_];exact(bL BK326.out)⟩;have n9_:Aside0 (Below w.heap.size w w154):=⟨by rw[← hq_];exact(bS4 GE294.out GE310.out GE316.out GE326.out)⟩;clear HO_311001 HO_317001 HO_327001 HO_5 HO_9 BK294 BK310 BK316 BK326 HB hq_;have HO_311001:=n0_;have HO_317001:=n1_;have HO_327001:=n2_;have HO_5:=n3_;have HO_9:=n4_;have BK294:=n5_;have BK310:=n6_;have BK316:=n7_;have BK326:=n8_;have HB:=n9_;clear n0_ n1_ n2_ n3_ n4_ n5_ n6_ n7_ n8_ n9_));obtain⟨hcy294_0,hcy294_1,hcy294_2⟩:=cC3 BK294.out;obtain⟨hcy310_0,hcy310_1,hcy310_2⟩:=cC3 BK310.out;obtain⟨hcy316_0,hcy316_1,hcy316_2⟩:=cC3 BK316.out;obtain⟨hcy326_0,hcy326_1,hcy326_2⟩:=cC3 BK326.out;have hnb155:=NB294_310.out;have hnc155:=NB310_294.out;have hnb156:=NB294_316.out;have hnc156:=NB316_294.out;obtain⟨hcz157_0,hcz157_1,hcz157_2⟩:=cC3 BK294.out;obtain⟨hfz157_0,hfz157_1,hfz157_2⟩:=cF3 BK294.out)|((with_reducible refine gate_callee (f:=17) rfl ?_);refine goesA (some 100) rfl rfl Try.func17 #[.agg #[.int .i64 a0_0,.slice A0_1 l0_1.length c0_1,.int .i64 a0_2]] rfl ?_;(with_reducible refine(laws_toTurns.calls kj73 a0_0 _ _ l0_1 a0_2 t345 t346 t349 _ ?side1 ?side2 A143.out).mono ?_);(case side1=>exact bC HR0_1.out);(case side2=>exact HC0_1.out);rintro e w158 ⟨v347,rfl,ho0,hb⟩;refine⟨_,rfl,?_⟩;obtain⟨N347_,hN_⟩:=sizeof_ hb;have n0_:=Aside0.mk (Kd.R_below (bK HO_5.out) hb);have n1_:=Aside0.mk (Kd.R_below (bK HO_9.out) hb);have n2_:=Aside0.mk (S_oldN (by(with_reducible repeat (first|apply Kd.S_alloc|apply Kd.S_drewN|apply Kd.S_drew));exact HO_311001.out) hb hN_);have n3_:=Aside0.mk (S_oldN (by(with_reducible repeat (first|apply Kd.S_alloc|apply Kd.S_drewN|apply Kd.S_drew));exact HO_317001.out) hb hN_);have n4_:=Aside0.mk (S_oldN (by(with_reducible repeat (first|apply Kd.S_alloc|apply Kd.S_drewN|apply Kd.S_drew));exact HO_327001.out) hb hN_);have n5_:=Aside0.mk (Kd.S_lower (S_newN (S_newN (S_newN (Kd.S_new' (Kd.S_new' ho0 (Kd.R_lt (bK HO_5.out))) (Kd.R_lt (bK HO_9.out))) hN_) hN_) hN_) (below_size (bS4 GE294.out GE310.out GE316.out GE326.out)));have n6_:=Aside0.mk (bM BK294.out hb);have n7_:=Aside0.mk (bM BK310.out hb);have n8_:=Aside0.mk (bM BK316.out hb);have n9_:=Aside0.mk (bM BK326.out hb);have n10_:=Aside0.mk (below_step (bS4 GE294.out GE310.out GE316.out GE326.out) hb);clear HO_5 HO_9 HO_311001 HO_317001 HO_327001 BK294 BK310 BK316 BK326 HB;have HO_5:=n0_;have HO_9:=n1_;have HO_311001:=n2_;have HO_317001:=n3_;have HO_327001:=n4_;have HO348:=n5_;have BK294:=n6_;have BK310:=n7_;have BK316:=n8_;have BK326:=n9_;have HB:=n10_;clear n0_ n1_ n2_ n3_ n4_ n5_ n6_ n7_ n8_ n9_ n10_;(try clear hb);(try clear hb2);(try clear hk);(try clear hi);(try clear ho0);obtain⟨Ao159,co159,eo159⟩:=Kd.S_slice HO348.out;subst eo159)|((with_reducible refine gate_callee (f:=50) rfl ?_);refine goesA (some 101) rfl rfl Try.func50 #[.agg #[.int .i64 t345,.slice Ao159 t346.length co159,.int .i64 t349]] rfl ?_;(with_reducible refine(impl_NextRound.calls kj73 t345 _ _ t346 t349 t350 t351 t354 t355 t358 _ ?side1 ?side2 A144.out).mono ?_);(case side1=>repeat (first|exact(Kd.S_reads' HO348.out).2.2|(with_reducible refine Kd.C_alloc ?_ _)|(with_reducible refine Kd.C_drewN ?_ _)|(with_reducible refine Kd.C_drew ?_)));(case side2=>exact(Kd.S_reads' HO348.out).2.1);rintro e w160 ⟨v352,v356,rfl,ho0,ho1,hb⟩;refine⟨_,rfl,?_⟩;obtain⟨N352_,hN_⟩:=sizeof_ hb;have n0_:=Aside0.mk (Kd.R_elder' (bK HO_5.out) (Kd.R_base ho1) hb);have n1_:=Aside0.mk (Kd.R_elder' (bK HO_9.out) (Kd.R_base ho1) hb);have n2_:=Aside0.mk (S_oldN2 (by(with_reducible repeat (first|apply Kd.S_alloc|apply Kd.S_drewN|apply Kd.S_drew));exact HO_311001.out) hb hN_ (Kd.R_base ho1));have n3_:=Aside0.mk (S_oldN2 (by(with_reducible repeat (first|apply Kd.S_alloc|apply Kd.S_drewN|apply Kd.S_drew));exact HO_317001.out) hb hN_ (Kd.R_base ho1));have n4_:=Aside0.mk (S_oldN2 (by(with_reducible repeat (first|apply Kd.S_alloc|apply Kd.S_drewN|apply Kd.S_drew));exact HO_327001.out) hb hN_ (Kd.R_base ho1));have n5_:=Aside0.mk (S_oldN2 (by(with_reducible repeat (first|apply Kd.S_alloc|apply Kd.S_drewN|apply Kd.S_drew));exact HO348.out) hb hN_ (Kd.R_base ho1));have n6_:=Aside0.mk (Kd.S_lower (S_newN (S_newN (S_newN (S_newN (Kd.S_new' (Kd.S_new' ho0 (Kd.R_lt (bK HO_5.out))) (Kd.R_lt (bK HO_9.out))) hN_) hN_) hN_) hN_) (below_size (bS4 GE294.out GE310.out GE316.out GE326.out)));have n7_:=Aside0.mk (Kd.R_lower (Kd.R_new' (Kd.R_new' ho1 (Kd.R_lt (bK HO_5.out))) (Kd.R_lt (bK HO_9.out))) (below_size (bS4 GE294.out GE310.out GE316.out GE326.out)));have n8_:=Aside0.mk (bM BK294.out hb);have n9_:=Aside0.mk (bM BK310.out hb);have n10_:=Aside0.mk (bM BK316.out hb);have n11_:=Aside0.mk (bM BK326.out hb);have n12_:=Aside0.mk (below_step (bS4 GE294.out GE310.out GE316.out GE326.out) hb);clear HO_5 HO_9 HO_311001 HO_317001 HO_327001 HO348 BK294 BK310 BK316 BK326 HB;have HO_5:=n0_;have HO_9:=n1_;have HO_311001:=n2_;have HO_317001:=n3_;have HO_327001:=n4_;have HO348:=n5_;have HO353:=n6_;have HO357:=n7_;have BK294:=n8_;have BK310:=n9_;have BK316:=n10_;have BK326:=n11_;have HB:=n12_;clear n0_ n1_ n2_ n3_ n4_ n5_ n6_ n7_ n8_ n9_ n10_ n11_ n12_;(try clear hb);(try clear hb2);(try clear hk);(try clear hi);(try clear ho0);(try clear ho1))|((with_reducible refine gate_dst (N:=14) rfl ?_);refine box_event ?hg (N:=14) ?hd (cs:=#[.int .i64 0,.slice none 0 0,.int .i64 0]) (t:=28) ?hr ?_;(case hd=>rfl);(case hg=>rfl);(case hr=>first|(go_simp;done)|(go_simp;rfl));intro gb359 hg w161 hbox hb;have n0_:=Aside0.mk (Kd.R_below (bK HO_5.out) hb);have n1_:=Aside0.mk (Kd.R_below (bK HO_9.out) hb);have n2_:=Aside0.mk (Kd.S_below (by(with_reducible repeat (first|apply Kd.S_alloc|apply Kd.S_drewN|apply Kd.S_drew));exact HO_311001.out) hb);have n3_:=Aside0.mk (Kd.S_below (by(with_reducible repeat (first|apply Kd.S_alloc|apply Kd.S_drewN|apply Kd.S_drew));exact HO_317001.out) hb);have n4_:=Aside0.mk (Kd.S_below (by(with_reducible repeat (first|apply Kd.S_alloc|apply Kd.S_drewN|apply Kd.S_drew));exact HO_327001.out) hb);have n5_:=Aside0.mk (Kd.S_below (by(with_reducible repeat (first|apply Kd.S_alloc|apply Kd.S_drewN|apply Kd.S_drew));exact HO348.out) hb);have n6_:=Aside0.mk (Kd.S_below (by(with_reducible repeat (first|apply Kd.S_alloc|apply Kd.S_drewN|apply Kd.S_drew));exact HO353.out) hb);have n7_:=Aside0.mk (Kd.R_below (bK HO357.out) hb);have n8_:=Aside0.mk (bM BK294.out hb);have n9_:=Aside0.mk (bM BK310.out hb);have n10_:=Aside0.mk (bM BK316.out hb);have n11_:=Aside0.mk (bM BK326.out hb);have n12_:=Aside0.mk (below_step (bS4 GE294.out GE310.out GE316.out GE326.out) hb);have n13_:=Aside0.mk (hbox);have n14_:=Aside0.mk ((by rw[hg];exact(below_size (bS4 GE294.out GE310.out GE316.out GE326.out)):w.heap.size≤gb359));have n15_:=Aside0.mk ((by rw[hg];exact(below_size (bS4 GE294.out GE310.out GE316.out GE326.out)):w.heap.size≤gb359));have n16_:=Aside0.mk ((bN BK294.out hg:gb294≠gb359));have n17_:=Aside0.mk ((bO BK294.out hg:gb359≠gb294));have n18_:=Aside0.mk ((bN BK310.out hg:gb310≠gb359));have n19_:=Aside0.mk ((bO BK310.out hg:gb359≠gb310));have n20_:=Aside0.mk ((bN BK316.out hg:gb316≠gb359));have n21_:=Aside0.mk ((bO BK316.out hg:gb359≠gb316));have n22_:=Aside0.mk ((bN BK326.out hg:gb326≠gb359));have n23_:=Aside0.mk ((bO BK326.out hg:gb359≠gb326));clear HO_5 HO_9 HO_311001 HO_317001 HO_327001 HO348 HO353 HO357 BK294 BK310 BK316 BK326 HB;have HO_5:=n0_;have HO_9:=n1_;have HO_311001:=n2_;have HO_317001:=n3_;have HO_327001:=n4_;have HO348:=n5_;have HO353:=n6_;have HO357:=n7_;have BK294:=n8_;have BK310:=n9_;have BK316:=n10_;have BK326:=n11_;have HB:=n12_;have BK359:=n13_;have GW359:=n14_;have GE359:=n15_;have NB294_359:=n16_;have NB359_294:=n17_;have NB310_359:=n18_;have NB359_310:=n19_;have NB316_359:=n20_;have NB359_316:=n21_;have NB326_359:=n22_;have NB359_326:=n23_;clear n0_ n1_ n2_ n3_ n4_ n5_ n6_ n7_ n8_ n9_ n10_ n11_ n12_ n13_ n14_ n15_ n16_ n17_ n18_ n19_ n20_ n21_ n22_ n23_;clear hb hbox hg;have hnb162:=NB359_294.out;have hnc162:=NB294_359.out;have hnb163:=NB359_310.out;have hnc163:=NB310_359.out;have hnb164:=NB359_316.out;have hnc164:=NB316_359.out;have hnb165:=NB359_326.out;have hnc165:=NB326_359.out;obtain⟨hcz166_0,hcz166_1,hcz166_2⟩:=cC3 BK359.out;obtain⟨hfz166_0,hfz166_1,hfz166_2⟩:=cF3 BK359.out;obtain⟨Ao167,co167,eo167⟩:=Kd.S_slice HO353.out;subst eo167))
            (try simp only[Act.put,List.setIfInBounds_toArray,List.set_cons_zero,List.set_cons_succ])
            go_cut [119] (fun v119 wc => ∃ (kq:Nat) (x119_144:Bool),v119=.bool x119_144∧Aside0 (laws_FnExactNextRound.j2 kq t342 t341 x119_144 t317 t340 t321=some r)∧Aside0 (kq≤kj73)∧Aside0 (Kd.R (Kd.int .i64) 3 wc w.heap.size (fun _=>True) (.slice Ao151 t322.length co151) t342)∧Aside0 (Kd.S k116 116 wc w.heap.size (fun k_=>some k_≠((.slice Ao151 t322.length co151):Value).ownBlock∧k_ < N313_∧k_ < N319_∧k_ < N352_) (.slice Ao22 t302.length co22) t302)∧Aside0 (Kd.S k116 116 wc w.heap.size (fun k_=>some k_≠((.slice Ao151 t322.length co151):Value).ownBlock∧N313_≤k_∧k_ < N319_∧k_ < N352_) (.slice Ao29 t336.length co29) t336)∧Aside0 (Kd.S k116 116 wc w.heap.size (fun k_=>some k_≠((.slice Ao151 t322.length co151):Value).ownBlock∧N319_≤k_∧N319_≤k_∧k_ < N352_) (.slice Ao36 t318.length co36) t340)∧Aside0 (Kd.S k116 116 wc w.heap.size (fun k_=>some k_≠((.slice Ao151 t322.length co151):Value).ownBlock∧N352_≤k_∧N352_≤k_∧N352_≤k_) (.slice Ao167 t351.length co167) t351)∧Aside0 (wc.heap[gb294]?=some (.cells #[.int .i64 a0_0,(.slice A0_1 l0_1.length c0_1),.int .i64 a0_2] 24 (0,0)))∧Aside0 (wc.heap[gb310]?=some (.cells #[.int .i64 t301,(.slice Ao22 t302.length co22),.int .i64 t305] 28 (0,0)))∧Aside0 (wc.heap[gb316]?=some (.cells #[.int .i64 t311,(.slice Ao29 t336.length co29),.int .i64 t315] 28 (0,0)))∧Aside0 (wc.heap[gb326]?=some (.cells #[.int .i64 t317,(.slice Ao36 t318.length co36),.int .i64 t321] 28 (0,0)))∧Aside0 (wc.heap[gb359]?=some (.cells #[.int .i64 t350,(.slice Ao167 t351.length co167),.int .i64 t354] 28 (0,0)))∧Aside0 (Below w.heap.size w wc))
            case first =>
             have H:=HC145.out
             clear HC145
             replace H:=Option.bind_eq_some_iff.mp H
             obtain⟨t360,A1680,H⟩:=H
             have A168:=Aside0.mk A1680
             clear A1680
             by_cases c169:t360=true
             ·subst c169
              have H1:((laws_eqIntS.f kj73 t355 t306).bind fun t361=>(if t361=true then (laws_FnExactNextRound.j2 kj73 t342 t341 (t358 != t309) t317 t340 t321) else (laws_FnExactNextRound.j2 kj73 t342 t341 true t317 t340 t321)))=some r:=by rw[if_pos rfl] at H;exact H
              clear H
              have H:=H1
              clear H1
              replace H:=Option.bind_eq_some_iff.mp H
              obtain⟨t361,A1700,H⟩:=H
              have A170:=Aside0.mk A1700
              clear A1700
              by_cases c171:t361=true
              ·subst c171
               have H1:(laws_FnExactNextRound.j2 kj73 t342 t341 (t358 != t309) t317 t340 t321)=some r:=by rw[if_pos rfl] at H;exact H
               clear H
               have H:=H1
               clear H1
               have H':=Aside0.mk H
               clear H
               have hnb172:=NB359_294.out
               have hnc172:=NB294_359.out
               have hnb173:=NB359_310.out
               have hnc173:=NB310_359.out
               have hnb174:=NB359_316.out
               have hnc174:=NB316_359.out
               have hnb175:=NB359_326.out
               have hnc175:=NB326_359.out
               obtain⟨hcz176_0,hcz176_1,hcz176_2⟩:=cC3 BK359.out
               obtain⟨hfz176_0,hfz176_1,hfz176_2⟩:=cF3 BK359.out
               have hnb177:=NB310_294.out
               have hnc177:=NB294_310.out
               have hnb178:=NB310_316.out
               have hnc178:=NB316_310.out
               have hnb179:=NB310_326.out
               have hnc179:=NB326_310.out
               obtain⟨hcz180_0,hcz180_1,hcz180_2⟩:=cC3 BK310.out
               obtain⟨hfz180_0,hfz180_1,hfz180_2⟩:=cF3 BK310.out
               go_wp2_with (first|((with_reducible refine gate_callee (f:=19) rfl ?_);refine goesA (some 107) rfl rfl Try.func19 #[.agg #[.int .i64 t350,.slice Ao167 t351.length co167,.int .i64 t354],.agg #[.int .i64 t301,.slice Ao22 t302.length co22,.int .i64 t305]] rfl ?_;(with_reducible refine(laws_eqTurns.calls kj73 t350 _ _ t351 t354 t301 _ _ t302 t305 true _ ?side1 ?side2 ?side3 ?side4 A168.out).mono ?_);(case side1=>refine(Kd.S_reads' (e:=116) (base:=w.heap.size) (ok:=fun k_=>((((((some k_≠(v356:Value).ownBlock∧some k_≠(v307:Value).ownBlock)∧some k_≠(.slice Ao151 t322.length co151:Value).ownBlock)∧N352_≤k_)∧N352_≤k_)∧N352_≤k_)∧N352_≤k_)) (n:=t351.length) (c:=co167) ?_).2.2;exact(by(with_reducible repeat (first|apply Kd.S_alloc|apply Kd.S_drewN|apply Kd.S_drew));exact(Kd.S_mono (Kd.S_far (p:=⟨gb359,2,none⟩) (Kd.S_far (p:=⟨gb359,1,none⟩) (Kd.S_far (p:=⟨gb359,0,none⟩) (Kd.S_types HO353.out BK359.out (by decide)) (fun _ hk=>hk.2) (.int .i64 t350)) (fun _ hk=>hk.2) (.slice Ao167 t351.length co167)) (fun _ hk=>hk.2) (.int .i64 t354)) (fun _ h_=>h_.1))));(case side2=>exact(Kd.S_reads' HO353.out).2.1);(case side3=>refine(Kd.S_reads' (e:=116) (base:=w.heap.size) (ok:=fun k_=>((((k_ < N313_∧(k_ < N319_∧(some k_≠(v307:Value).ownBlock∧some k_≠(.slice Ao151 t322.length co151:Value).ownBlock)))∧k_ < N347_)∧k_ < N352_)∧some k_≠(v356:Value).ownBlock)) (n:=t302.length) (c:=co22) ?_).2.2;exact(by(with_reducible repeat (first|apply Kd.S_alloc|apply Kd.S_drewN|apply Kd.S_drew));exact(Kd.S_mono (Kd.S_far (p:=⟨gb359,2,none⟩) (Kd.S_far (p:=⟨gb359,1,none⟩) (Kd.S_far (p:=⟨gb359,0,none⟩) (Kd.S_types HO_311001.out BK359.out (by decide)) (fun _ hk=>hk.2) (.int .i64 t350)) (fun _ hk=>hk.2) (.slice Ao167 t351.length co167)) (fun _ hk=>hk.2) (.int .i64 t354)) (fun _ h_=>h_.1))));(case side4=>exact(Kd.S_reads' HO_311001.out).2.1);rintro e w181 ⟨rfl,hb⟩;refine⟨_,rfl,?_⟩;have n0_:=Aside0.mk (Kd.R_below (by(with_reducible repeat (first|apply Kd.R_alloc|apply Kd.R_drewN|apply Kd.R_drew));exact(Kd.R_mono (Kd.R_far (p:=⟨gb359,2,none⟩) (Kd.R_far (p:=⟨gb359,1,none⟩) (Kd.R_far (p:=⟨gb359,0,none⟩) (Kd.R_types HO_5.out BK359.out (by decide)) (fun _ hk=>hk.2) (.int .i64 t350)) (fun _ hk=>hk.2) (.slice Ao167 t351.length co167)) (fun _ hk=>hk.2) (.int .i64 t354)) (fun _ h_=>h_.1))) hb);have n1_:=Aside0.mk (Kd.R_below (by(with_reducible repeat (first|apply Kd.R_alloc|apply Kd.R_drewN|apply Kd.R_drew));exact(Kd.R_mono (Kd.R_far (p:=⟨gb359,2,none⟩) (Kd.R_far (p:=⟨gb359,1,none⟩) (Kd.R_far (p:=⟨gb359,0,none⟩) (Kd.R_types HO_9.out BK359.out (by decide)) (fun _ hk=>hk.2) (.int .i64 t350)) (fun _ hk=>hk.2) (.slice Ao167 t351.length co167)) (fun _ hk=>hk.2) (.int .i64 t354)) (fun _ h_=>h_.1))) hb);have n2_:=Aside0.mk (Kd.S_below (by(with_reducible repeat (first|apply Kd.S_alloc|apply Kd.S_drewN|apply Kd.S_drew));exact(Kd.S_mono (Kd.S_far (p:=⟨gb359,2,none⟩) (Kd.S_far (p:=⟨gb359,1,none⟩) (Kd.S_far (p:=⟨gb359,0,none⟩) (Kd.S_types HO_311001.out BK359.out (by decide)) (fun _ hk=>hk.2) (.int .i64 t350)) (fun _ hk=>hk.2) (.slice Ao167 t351.length co167)) (fun _ hk=>hk.2) (.int .i64 t354)) (fun _ h_=>h_.1))) hb);have n3_:=Aside0.mk (Kd.S_below (by(with_reducible repeat (first|apply Kd.S_alloc|apply Kd.S_drewN|apply Kd.S_drew));exact(Kd.S_mono (Kd.S_far (p:=⟨gb359,2,none⟩) (Kd.S_far (p:=⟨gb359,1,none⟩) (Kd.S_far (p:=⟨gb359,0,none⟩) (Kd.S_types HO_317001.out BK359.out (by decide)) (fun _ hk=>hk.2) (.int .i64 t350)) (fun _ hk=>hk.2) (.slice Ao167 t351.length co167)) (fun _ hk=>hk.2) (.int .i64 t354)) (fun _ h_=>h_.1))) hb);have n4_:=Aside0.mk (Kd.S_below (by(with_reducible repeat (first|apply Kd.S_alloc|apply Kd.S_drewN|apply Kd.S_drew));exact(Kd.S_mono (Kd.S_far (p:=⟨gb359,2,none⟩) (Kd.S_far (p:=⟨gb359,1,none⟩) (Kd.S_far (p:=⟨gb359,0,none⟩) (Kd.S_types HO_327001.out BK359.out (by decide)) (fun _ hk=>hk.2) (.int .i64 t350)) (fun _ hk=>hk.2) (.slice Ao167 t351.length co167)) (fun _ hk=>hk.2) (.int .i64 t354)) (fun _ h_=>h_.1))) hb);have n5_:=Aside0.mk (Kd.S_below (by(with_reducible repeat (first|apply Kd.S_alloc|apply Kd.S_drewN|apply Kd.S_drew));exact(Kd.S_mono (Kd.S_far (p:=⟨gb359,2,none⟩) (Kd.S_far (p:=⟨gb359,1,none⟩) (Kd.S_far (p:=⟨gb359,0,none⟩) (Kd.S_types HO348.out BK359.out (by decide)) (fun _ hk=>hk.2) (.int .i64 t350)) (fun _ hk=>hk.2) (.slice Ao167 t351.length co167)) (fun _ hk=>hk.2) (.int .i64 t354)) (fun _ h_=>h_.1))) hb);have n6_:=Aside0.mk (Kd.S_below (by(with_reducible repeat (first|apply Kd.S_alloc|apply Kd.S_drewN|apply Kd.S_drew));exact(Kd.S_mono (Kd.S_far (p:=⟨gb359,2,none⟩) (Kd.S_far (p:=⟨gb359,1,none⟩) (Kd.S_far (p:=⟨gb359,0,none⟩) (Kd.S_types HO353.out BK359.out (by decide)) (fun _ hk=>hk.2) (.int .i64 t350)) (fun _ hk=>hk.2) (.slice Ao167 t351.length co167)) (fun _ hk=>hk.2) (.int .i64 t354)) (fun _ h_=>h_.1))) hb);have n7_:=Aside0.mk (Kd.R_below (by(with_reducible repeat (first|apply Kd.R_alloc|apply Kd.R_drewN|apply Kd.R_drew));exact(Kd.R_mono (Kd.R_far (p:=⟨gb359,2,none⟩) (Kd.R_far (p:=⟨gb359,1,none⟩) (Kd.R_far (p:=⟨gb359,0,none⟩) (Kd.R_types HO357.out BK359.out (by decide)) (fun _ hk=>hk.2) (.int .i64 t350)) (fun _ hk=>hk.2) (.slice Ao167 t351.length co167)) (fun _ hk=>hk.2) (.int .i64 t354)) (fun _ h_=>h_.1))) hb);have n8_:=Aside0.mk (blk_below (g:=gb294) (o:=.cells #[.int .i64 a0_0,.slice A0_1 l0_1.length c0_1,.int .i64 a0_2] 24 (0,0)) (by(with_reducible repeat (first|refine blk_drewN ?_ _|refine blk_drew ?_|refine blk_alloc ?_ _));refine blk_far ?_ NB294_359.out _;(with_reducible repeat (first|refine blk_drewN ?_ _|refine blk_drew ?_|refine blk_alloc ?_ _));refine blk_far ?_ NB294_359.out _;(with_reducible repeat (first|refine blk_drewN ?_ _|refine blk_drew ?_|refine blk_alloc ?_ _));refine blk_far ?_ NB294_359.out _;(with_reducible repeat (first|refine blk_drewN ?_ _|refine blk_drew ?_|refine blk_alloc ?_ _));exact BK294.out) hb);have n9_:=Aside0.mk (blk_below (g:=gb310) (o:=.cells #[.int .i64 t301,.slice Ao22 t302.length co22,.int .i64 t305] 28 (0,0)) (by(with_reducible repeat (first|refine blk_drewN ?_ _|refine blk_drew ?_|refine blk_alloc ?_ _));refine blk_far ?_ NB310_359.out _;(with_reducible repeat (first|refine blk_drewN ?_ _|refine blk_drew ?_|refine blk_alloc ?_ _));refine blk_far ?_ NB310_359.out _;(with_reducible repeat (first|refine blk_drewN ?_ _|refine blk_drew ?_|refine blk_alloc ?_ _));refine blk_far ?_ NB310_359.out _;(with_reducible repeat (first|refine blk_drewN ?_ _|refine blk_drew ?_|refine blk_alloc ?_ _));exact BK310.out) hb);have n10_:=Aside0.mk (blk_below (g:=gb316) (o:=.cells #[.int .i64 t311,.slice Ao29 t336.length co29,.int .i64 t315] 28 (0,0)) (by(with_reducible repeat (first|refine blk_drewN ?_ _|refine blk_drew ?_|refine blk_alloc ?_ _));refine blk_far ?_ NB316_359.out _;(with_reducible repeat (first|refine blk_drewN ?_ _|refine blk_drew ?_|refine blk_alloc ?_ _));refine blk_far ?_ NB316_359.out _;(with_reducible repeat (first|refine blk_drewN ?_ _|refine blk_drew ?_|refine blk_alloc ?_ _));refine blk_far ?_ NB316_359.out _;(with_reducible repeat (first|refine blk_drewN ?_ _|refine blk_drew ?_|refine blk_alloc ?_ _));exact BK316.out) hb);have n11_:=Aside0.mk (blk_below (g:=gb326) (o:=.cells #[.int .i64 t317,.slice Ao36 t318.length co36,.int .i64 t321] 28 (0,0)) (by(with_reducible repeat (first|refine blk_drewN ?_ _|refine blk_drew ?_|refine blk_alloc ?_ _));refine blk_far ?_ NB326_359.out _;(with_reducible repeat (first|refine blk_drewN ?_ _|refine blk_drew ?_|refine blk_alloc ?_ _));refine blk_far ?_ NB326_359.out _;(with_reducible repeat (first|refine blk_drewN ?_ _|refine blk_drew ?_|refine blk_alloc ?_ _));refine blk_far ?_ NB326_359.out _;(with_reducible repeat (first|refine blk_drewN ?_ _|refine blk_drew ?_|refine blk_alloc ?_ _));exact BK326.out) hb);have n12_:=Aside0.mk (blk_below (g:=gb359) (o:=.cells #[.int .i64 t350,.slice Ao167 t351.length co167,.int .i64 t354] 28 (0,0)) (by(with_reducible repeat (first|refine blk_drewN ?_ _|refine blk_drew ?_|refine blk_alloc ?_ _));refine blk_put (cs:=#[.int .i64 t350,.slice Ao167 t351.length co167,.int .i64 0]) ?_ 2 _ rfl;(with_reducible repeat (first|refine blk_drewN ?_ _|refine blk_drew ?_|refine blk_alloc ?_ _));refine blk_put (cs:=#[.int .i64 t350,.slice none 0 0,.int .i64 0]) ?_ 1 _ rfl;(with_reducible repeat (first|refine blk_drewN ?_ _|refine blk_drew ?_|refine blk_alloc ?_ _));refine blk_put (cs:=#[.int .i64 0,.slice none 0 0,.int .i64 0]) ?_ 0 _ rfl;(with_reducible repeat (first|refine blk_drewN ?_ _|refine blk_drew ?_|refine blk_alloc ?_ _));exact BK359.out) hb);have n13_:=Aside0.mk (below_step (bS5 GE294.out GE310.out GE316.out GE326.out GE359.out) hb);clear HO_5 HO_9 HO_311001 HO_317001 HO_327001 HO348 HO353 HO357 BK294 BK310 BK316 BK326 BK359 HB;have HO_5:=n0_;have HO_9:=n1_;have HO_311001:=n2_;have HO_317001:=n3_;have HO_327001:=n4_;have HO348:=n5_;have HO353:=n6_;have HO357:=n7_;have BK294:=n8_;have BK310:=n9_;have BK316:=n10_;have BK326:=n11_;have BK359:=n12_;have HB:=n13_;clear n0_ n1_ n2_ n3_ n4_ n5_ n6_ n7_ n8_ n9_ n10_ n11_ n12_ n13_;(try clear hb);(try clear hb2);(try clear hk);(try clear hi);obtain⟨Ao182,co182,eo182⟩:=Kd.R_slice HO357.out;subst eo182;obtain⟨Ao183,co183,eo183⟩:=Kd.R_slice HO_5.out;subst eo183)|(go_at_call 26;(with_reducible refine(laws_eqIntS.calls kj73 _ _ t355 _ _ t306 true _ ?side1 ?side2 ?side3 ?side4 A170.out).mono ?_);(case side1=>exact bT HO357.out);(case side2=>exact(Kd.R_reads' HO357.out).2.1);(case side3=>exact bT HO_5.out);(case side4=>exact(Kd.R_reads' HO_5.out).2.1);rintro e w' ⟨rfl,⟨nd,rfl⟩⟩))
               go_meet
               case rel=>exact⟨_,((t358 != t309)),(bR),H',⟨by have:=HJ10.out;have:=HJ73.out;first|omega|exact Nat.le_refl _⟩,⟨by(try simp only[hl317001_73]);(with_reducible repeat (first|apply Kd.R_alloc|apply Kd.R_drewN|apply Kd.R_drew));exact Kd.R_mono HO_9.out (fun _ hk=>trivial)⟩,⟨by(try simp only[hl317001_73]);(with_reducible repeat (first|apply Kd.S_alloc|apply Kd.S_drewN|apply Kd.S_drew));exact Kd.S_mono HO_311001.out (fun _ hk=>⟨hk.1.1.1.2.2.2,⟨hk.1.1.1.1,⟨hk.1.1.1.2.1,hk.1.2⟩⟩⟩)⟩,⟨by(try simp only[hl317001_73]);(with_reducible repeat (first|apply Kd.S_alloc|apply Kd.S_drewN|apply Kd.S_drew));exact Kd.S_mono HO_317001.out (fun _ hk=>⟨hk.1.1.1.2.2.2,⟨hk.1.1.1.1,⟨hk.1.1.1.2.1,hk.1.2⟩⟩⟩)⟩,⟨by(try simp only[hl317001_73]);(with_reducible repeat (first|apply Kd.S_alloc|apply Kd.S_drewN|apply Kd.S_drew));exact Kd.S_mono HO_327001.out (fun _ hk=>⟨hk.1.1.1.2.2.2,⟨hk.1.1.1.1,⟨hk.1.1.1.2.1,hk.1.2⟩⟩⟩)⟩,⟨by(try simp only[hl317001_73]);(with_reducible repeat (first|apply Kd.S_alloc|apply Kd.S_drewN|apply Kd.S_drew));exact Kd.S_mono HO353.out (fun _ hk=>⟨hk.1.1.1.1.2,⟨hk.1.1.1.2,⟨hk.1.1.2,hk.1.2⟩⟩⟩)⟩,⟨by(try simp only[hl317001_73]);(with_reducible repeat (first|refine blk_drewN ?_ _|refine blk_drew ?_|refine blk_alloc ?_ _));exact BK294.out⟩,⟨by(try simp only[hl317001_73]);(with_reducible repeat (first|refine blk_drewN ?_ _|refine blk_drew ?_|refine blk_alloc ?_ _));exact BK310.out⟩,⟨by(try simp only[hl317001_73]);(with_reducible repeat (first|refine blk_drewN ?_ _|refine blk_drew ?_|refine blk_alloc ?_ _));exact BK316.out⟩,⟨by(try simp only[hl317001_73]);(with_reducible repeat (first|refine blk_drewN ?_ _|refine blk_drew ?_|refine blk_alloc ?_ _));exact BK326.out⟩,⟨by(try simp only[hl317001_73]);(with_reducible repeat (first|refine blk_drewN ?_ _|refine blk_drew ?_|refine blk_alloc ?_ _));exact BK359.out⟩,⟨bS5 GE294.out GE310.out GE316.out GE326.out GE359.out⟩⟩
              ·replace c171:=Bool.eq_false_iff.mpr c171
               subst c171
               have H1:(laws_FnExactNextRound.j2 kj73 t342 t341 true t317 t340 t321)=some r:=by rw[if_neg (show ¬ (false=true) by decide)] at H;exact H
               clear H
               have H:=H1
               clear H1
               have H':=Aside0.mk H
               clear H
               have hnb184:=NB359_294.out
               have hnc184:=NB294_359.out
               have hnb185:=NB359_310.out
               have hnc185:=NB310_359.out
               have hnb186:=NB359_316.out
               have hnc186:=NB316_359.out
               have hnb187:=NB359_326.out
               have hnc187:=NB326_359.out
               obtain⟨hcz188_0,hcz188_1,hcz188_2⟩:=cC3 BK359.out
               obtain⟨hfz188_0,hfz188_1,hfz188_2⟩:=cF3 BK359.out
               have hnb189:=NB310_294.out
               have hnc189:=NB294_310.out
               have hnb190:=NB310_316.out
               have hnc190:=NB316_310.out
               have hnb191:=NB310_326.out
               have hnc191:=NB326_310.out
               obtain⟨hcz192_0,hcz192_1,hcz192_2⟩:=cC3 BK310.out
               obtain⟨hfz192_0,hfz192_1,hfz192_2⟩:=cF3 BK310.out
               go_wp2_with (first|((with_reducible refine gate_callee (f:=19) rfl ?_);refine goesA (some 107) rfl rfl Try.func19 #[.agg #[.int .i64 t350,.slice Ao167 t351.length co167,.int .i64 t354],.agg #[.int .i64 t301,.slice Ao22 t302.length co22,.int .i64 t305]] rfl ?_;(with_reducible refine(laws_eqTurns.calls kj73 t350 _ _ t351 t354 t301 _ _ t302 t305 true _ ?side1 ?side2 ?side3 ?side4 A168.out).mono ?_);(case side1=>refine(Kd.S_reads' (e:=116) (base:=w.heap.size) (ok:=fun k_=>((((((some k_≠(v356:Value).ownBlock∧some k_≠(v307:Value).ownBlock)∧some k_≠(.slice Ao151 t322.length co151:Value).ownBlock)∧N352_≤k_)∧N352_≤k_)∧N352_≤k_)∧N352_≤k_)) (n:=t351.length) (c:=co167) ?_).2.2;exact(by(with_reducible repeat (first|apply Kd.S_alloc|apply Kd.S_drewN|apply Kd.S_drew));exact(Kd.S_mono (Kd.S_far (p:=⟨gb359,2,none⟩) (Kd.S_far (p:=⟨gb359,1,none⟩) (Kd.S_far (p:=⟨gb359,0,none⟩) (Kd.S_types HO353.out BK359.out (by decide)) (fun _ hk=>hk.2) (.int .i64 t350)) (fun _ hk=>hk.2) (.slice Ao167 t351.length co167)) (fun _ hk=>hk.2) (.int .i64 t354)) (fun _ h_=>h_.1))));(case side2=>exact(Kd.S_reads' HO353.out).2.1);(case side3=>refine(Kd.S_reads' (e:=116) (base:=w.heap.size) (ok:=fun k_=>((((k_ < N313_∧(k_ < N319_∧(some k_≠(v307:Value).ownBlock∧some k_≠(.slice Ao151 t322.length co151:Value).ownBlock)))∧k_ < N347_)∧k_ < N352_)∧some k_≠(v356:Value).ownBlock)) (n:=t302.length) (c:=co22) ?_).2.2;exact(by(with_reducible repeat (first|apply Kd.S_alloc|apply Kd.S_drewN|apply Kd.S_drew));exact(Kd.S_mono (Kd.S_far (p:=⟨gb359,2,none⟩) (Kd.S_far (p:=⟨gb359,1,none⟩) (Kd.S_far (p:=⟨gb359,0,none⟩) (Kd.S_types HO_311001.out BK359.out (by decide)) (fun _ hk=>hk.2) (.int .i64 t350)) (fun _ hk=>hk.2) (.slice Ao167 t351.length co167)) (fun _ hk=>hk.2) (.int .i64 t354)) (fun _ h_=>h_.1))));(case side4=>exact(Kd.S_reads' HO_311001.out).2.1);rintro e w193 ⟨rfl,hb⟩;refine⟨_,rfl,?_⟩;have n0_:=Aside0.mk (Kd.R_below (by(with_reducible repeat (first|apply Kd.R_alloc|apply Kd.R_drewN|apply Kd.R_drew));exact(Kd.R_mono (Kd.R_far (p:=⟨gb359,2,none⟩) (Kd.R_far (p:=⟨gb359,1,none⟩) (Kd.R_far (p:=⟨gb359,0,none⟩) (Kd.R_types HO_5.out BK359.out (by decide)) (fun _ hk=>hk.2) (.int .i64 t350)) (fun _ hk=>hk.2) (.slice Ao167 t351.length co167)) (fun _ hk=>hk.2) (.int .i64 t354)) (fun _ h_=>h_.1))) hb);have n1_:=Aside0.mk (Kd.R_below (by(with_reducible repeat (first|apply Kd.R_alloc|apply Kd.R_drewN|apply Kd.R_drew));exact(Kd.R_mono (Kd.R_far (p:=⟨gb359,2,none⟩) (Kd.R_far (p:=⟨gb359,1,none⟩) (Kd.R_far (p:=⟨gb359,0,none⟩) (Kd.R_types HO_9.out BK359.out (by decide)) (fun _ hk=>hk.2) (.int .i64 t350)) (fun _ hk=>hk.2) (.slice Ao167 t351.length co167)) (fun _ hk=>hk.2) (.int .i64 t354)) (fun _ h_=>h_.1))) hb);have n2_:=Aside0.mk (Kd.S_below (by(with_reducible repeat (first|apply Kd.S_alloc|apply Kd.S_drewN|apply Kd.S_drew));exact(Kd.S_mono (Kd.S_far (p:=⟨gb359,2,none⟩) (Kd.S_far (p:=⟨gb359,1,none⟩) (Kd.S_far (p:=⟨gb359,0,none⟩) (Kd.S_types HO_311001.out BK359.out (by decide)) (fun _ hk=>hk.2) (.int .i64 t350)) (fun _ hk=>hk.2) (.slice Ao167 t351.length co167)) (fun _ hk=>hk.2) (.int .i64 t354)) (fun _ h_=>h_.1))) hb);have n3_:=Aside0.mk (Kd.S_below (by(with_reducible repeat (first|apply Kd.S_alloc|apply Kd.S_drewN|apply Kd.S_drew));exact(Kd.S_mono (Kd.S_far (p:=⟨gb359,2,none⟩) (Kd.S_far (p:=⟨gb359,1,none⟩) (Kd.S_far (p:=⟨gb359,0,none⟩) (Kd.S_types HO_317001.out BK359.out (by decide)) (fun _ hk=>hk.2) (.int .i64 t350)) (fun _ hk=>hk.2) (.slice Ao167 t351.length co167)) (fun _ hk=>hk.2) (.int .i64 t354)) (fun _ h_=>h_.1))) hb);have n4_:=Aside0.mk (Kd.S_below (by(with_reducible repeat (first|apply Kd.S_alloc|apply Kd.S_drewN|apply Kd.S_drew));exact(Kd.S_mono (Kd.S_far (p:=⟨gb359,2,none⟩) (Kd.S_far (p:=⟨gb359,1,none⟩) (Kd.S_far (p:=⟨gb359,0,none⟩) (Kd.S_types HO_327001.out BK359.out (by decide)) (fun _ hk=>hk.2) (.int .i64 t350)) (fun _ hk=>hk.2) (.slice Ao167 t351.length co167)) (fun _ hk=>hk.2) (.int .i64 t354)) (fun _ h_=>h_.1))) hb);have n5_:=Aside0.mk (Kd.S_below (by(with_reducible repeat (first|apply Kd.S_alloc|apply Kd.S_drewN|apply Kd.S_drew));exact(Kd.S_mono (Kd.S_far (p:=⟨gb359,2,none⟩) (Kd.S_far (p:=⟨gb359,1,none⟩) (Kd.S_far (p:=⟨gb359,0,none⟩) (Kd.S_types HO348.out BK359.out (by decide)) (fun _ hk=>hk.2) (.int .i64 t350)) (fun _ hk=>hk.2) (.slice Ao167 t351.length co167)) (fun _ hk=>hk.2) (.int .i64 t354)) (fun _ h_=>h_.1))) hb);have n6_:=Aside0.mk (Kd.S_below (by(with_reducible repeat (first|apply Kd.S_alloc|apply Kd.S_drewN|apply Kd.S_drew));exact(Kd.S_mono (Kd.S_far (p:=⟨gb359,2,none⟩) (Kd.S_far (p:=⟨gb359,1,none⟩) (Kd.S_far (p:=⟨gb359,0,none⟩) (Kd.S_types HO353.out BK359.out (by decide)) (fun _ hk=>hk.2) (.int .i64 t350)) (fun _ hk=>hk.2) (.slice Ao167 t351.length co167)) (fun _ hk=>hk.2) (.int .i64 t354)) (fun _ h_=>h_.1))) hb);have n7_:=Aside0.mk (Kd.R_below (by(with_reducible repeat (first|apply Kd.R_alloc|apply Kd.R_drewN|apply Kd.R_drew));exact(Kd.R_mono (Kd.R_far (p:=⟨gb359,2,none⟩) (Kd.R_far (p:=⟨gb359,1,none⟩) (Kd.R_far (p:=⟨gb359,0,none⟩) (Kd.R_types HO357.out BK359.out (by decide)) (fun _ hk=>hk.2) (.int .i64 t350)) (fun _ hk=>hk.2) (.slice Ao167 t351.length co167)) (fun _ hk=>hk.2) (.int .i64 t354)) (fun _ h_=>h_.1))) hb);have n8_:=Aside0.mk (blk_below (g:=gb294) (o:=.cells #[.int .i64 a0_0,.slice A0_1 l0_1.length c0_1,.int .i64 a0_2] 24 (0,0)) (by(with_reducible repeat (first|refine blk_drewN ?_ _|refine blk_drew ?_|refine blk_alloc ?_ _));refine blk_far ?_ NB294_359.out _;(with_reducible repeat (first|refine blk_drewN ?_ _|refine blk_drew ?_|refine blk_alloc ?_ _));refine blk_far ?_ NB294_359.out _;(with_reducible repeat (first|refine blk_drewN ?_ _|refine blk_drew ?_|refine blk_alloc ?_ _));refine blk_far ?_ NB294_359.out _;(with_reducible repeat (first|refine blk_drewN ?_ _|refine blk_drew ?_|refine blk_alloc ?_ _));exact BK294.out) hb);have n9_:=Aside0.mk (blk_below (g:=gb310) (o:=.cells #[.int .i64 t301,.slice Ao22 t302.length co22,.int .i64 t305] 28 (0,0)) (by(with_reducible repeat (first|refine blk_drewN ?_ _|refine blk_drew ?_|refine blk_alloc ?_ _));refine blk_far ?_ NB310_359.out _;(with_reducible repeat (first|refine blk_drewN ?_ _|refine blk_drew ?_|refine blk_alloc ?_ _));refine blk_far ?_ NB310_359.out _;(with_reducible repeat (first|refine blk_drewN ?_ _|refine blk_drew ?_|refine blk_alloc ?_ _));refine blk_far ?_ NB310_359.out _;(with_reducible repeat (first|refine blk_drewN ?_ _|refine blk_drew ?_|refine blk_alloc ?_ _));exact BK310.out) hb);have n10_:=Aside0.mk (blk_below (g:=gb316) (o:=.cells #[.int .i64 t311,.slice Ao29 t336.length co29,.int .i64 t315] 28 (0,0)) (by(with_reducible repeat (first|refine blk_drewN ?_ _|refine blk_drew ?_|refine blk_alloc ?_ _));refine blk_far ?_ NB316_359.out _;(with_reducible repeat (first|refine blk_drewN ?_ _|refine blk_drew ?_|refine blk_alloc ?_ _));refine blk_far ?_ NB316_359.out _;(with_reducible repeat (first|refine blk_drewN ?_ _|refine blk_drew ?_|refine blk_alloc ?_ _));refine blk_far ?_ NB316_359.out _;(with_reducible repeat (first|refine blk_drewN ?_ _|refine blk_drew ?_|refine blk_alloc ?_ _));exact BK316.out) hb);have n11_:=Aside0.mk (blk_below (g:=gb326) (o:=.cells #[.int .i64 t317,.slice Ao36 t318.length co36,.int .i64 t321] 28 (0,0)) (by(with_reducible repeat (first|refine blk_drewN ?_ _|refine blk_drew ?_|refine blk_alloc ?_ _));refine blk_far ?_ NB326_359.out _;(with_reducible repeat (first|refine blk_drewN ?_ _|refine blk_drew ?_|refine blk_alloc ?_ _));refine blk_far ?_ NB326_359.out _;(with_reducible repeat (first|refine blk_drewN ?_ _|refine blk_drew ?_|refine blk_alloc ?_ _));refine blk_far ?_ NB326_359.out _;(with_reducible repeat (first|refine blk_drewN ?_ _|refine blk_drew ?_|refine blk_alloc ?_ _));exact BK326.out) hb);have n12_:=Aside0.mk (blk_below (g:=gb359) (o:=.cells #[.int .i64 t350,.slice Ao167 t351.length co167,.int .i64 t354] 28 (0,0)) (by(with_reducible repeat (first|refine blk_drewN ?_ _|refine blk_drew ?_|refine blk_alloc ?_ _));refine blk_put (cs:=#[.int .i64 t350,.slice Ao167 t351.length co167,.int .i64 0]) ?_ 2 _ rfl;(with_reducible repeat (first|refine blk_drewN ?_ _|refine blk_drew ?_|refine blk_alloc ?_ _));refine blk_put (cs:=#[.int .i64 t350,.slice none 0 0,.int .i64 0]) ?_ 1 _ rfl;(with_reducible repeat (first|refine blk_drewN ?_ _|refine blk_drew ?_|refine blk_alloc ?_ _));refine blk_put (cs:=#[.int .i64 0,.slice none 0 0,.int .i64 0]) ?_ 0 _ rfl;(with_reducible repeat (first|refine blk_drewN ?_ _|refine blk_drew ?_|refine blk_alloc ?_ _));exact BK359.out) hb);have n13_:=Aside0.mk (below_step (bS5 GE294.out GE310.out GE316.out GE326.out GE359.out) hb);clear HO_5 HO_9 HO_311001 HO_317001 HO_327001 HO348 HO353 HO357 BK294 BK310 BK316 BK326 BK359 HB;have HO_5:=n0_;have HO_9:=n1_;have HO_311001:=n2_;have HO_317001:=n3_;have HO_327001:=n4_;have HO348:=n5_;have HO353:=n6_;have HO357:=n7_;have BK294:=n8_;have BK310:=n9_;have BK316:=n10_;have BK326:=n11_;have BK359:=n12_;have HB:=n13_;clear n0_ n1_ n2_ n3_ n4_ n5_ n6_ n7_ n8_ n9_ n10_ n11_ n12_ n13_;(try clear hb);(try clear hb2);(try clear hk);(try clear hi);obtain⟨Ao194,co194,eo194⟩:=Kd.R_slice HO357.out;subst eo194;obtain⟨Ao195,co195,eo195⟩:=Kd.R_slice HO_5.out;subst eo195)|(go_at_call 26;(with_reducible refine(laws_eqIntS.calls kj73 _ _ t355 _ _ t306 false _ ?side1 ?side2 ?side3 ?side4 A170.out).mono ?_);(case side1=>exact bT HO357.out);(case side2=>exact(Kd.R_reads' HO357.out).2.1);(case side3=>exact bT HO_5.out);(case side4=>exact(Kd.R_reads' HO_5.out).2.1);rintro e w' ⟨rfl,⟨nd,rfl⟩⟩))
               go_meet
               case rel=>exact⟨_,(true),(bR),H',⟨by have:=HJ10.out;have:=HJ73.out;first|omega|exact Nat.le_refl _⟩,⟨by(try simp only[hl317001_73]);(with_reducible repeat (first|apply Kd.R_alloc|apply Kd.R_drewN|apply Kd.R_drew));exact Kd.R_mono HO_9.out (fun _ hk=>trivial)⟩,⟨by(try simp only[hl317001_73]);(with_reducible repeat (first|apply Kd.S_alloc|apply Kd.S_drewN|apply Kd.S_drew));exact Kd.S_mono HO_311001.out (fun _ hk=>⟨hk.1.1.1.2.2.2,⟨hk.1.1.1.1,⟨hk.1.1.1.2.1,hk.1.2⟩⟩⟩)⟩,⟨by(try simp only[hl317001_73]);(with_reducible repeat (first|apply Kd.S_alloc|apply Kd.S_drewN|apply Kd.S_drew));exact Kd.S_mono HO_317001.out (fun _ hk=>⟨hk.1.1.1.2.2.2,⟨hk.1.1.1.1,⟨hk.1.1.1.2.1,hk.1.2⟩⟩⟩)⟩,⟨by(try simp only[hl317001_73]);(with_reducible repeat (first|apply Kd.S_alloc|apply Kd.S_drewN|apply Kd.S_drew));exact Kd.S_mono HO_327001.out (fun _ hk=>⟨hk.1.1.1.2.2.2,⟨hk.1.1.1.1,⟨hk.1.1.1.2.1,hk.1.2⟩⟩⟩)⟩,⟨by(try simp only[hl317001_73]);(with_reducible repeat (first|apply Kd.S_alloc|apply Kd.S_drewN|apply Kd.S_drew));exact Kd.S_mono HO353.out (fun _ hk=>⟨hk.1.1.1.1.2,⟨hk.1.1.1.2,⟨hk.1.1.2,hk.1.2⟩⟩⟩)⟩,⟨by(try simp only[hl317001_73]);(with_reducible repeat (first|refine blk_drewN ?_ _|refine blk_drew ?_|refine blk_alloc ?_ _));exact BK294.out⟩,⟨by(try simp only[hl317001_73]);(with_reducible repeat (first|refine blk_drewN ?_ _|refine blk_drew ?_|refine blk_alloc ?_ _));exact BK310.out⟩,⟨by(try simp only[hl317001_73]);(with_reducible repeat (first|refine blk_drewN ?_ _|refine blk_drew ?_|refine blk_alloc ?_ _));exact BK316.out⟩,⟨by(try simp only[hl317001_73]);(with_reducible repeat (first|refine blk_drewN ?_ _|refine blk_drew ?_|refine blk_alloc ?_ _));exact BK326.out⟩,⟨by(try simp only[hl317001_73]);(with_reducible repeat (first|refine blk_drewN ?_ _|refine blk_drew ?_|refine blk_alloc ?_ _));exact BK359.out⟩,⟨bS5 GE294.out GE310.out GE316.out GE326.out GE359.out⟩⟩
             ·replace c169:=Bool.eq_false_iff.mpr c169
              subst c169
              have H1:(laws_FnExactNextRound.j2 kj73 t342 t341 true t317 t340 t321)=some r:=by rw[if_neg (show ¬ (false=true) by decide)] at H;exact H
              clear H
              have H:=H1
              clear H1
              have H':=Aside0.mk H
              clear H
              have hnb196:=NB359_294.out
              have hnc196:=NB294_359.out
              have hnb197:=NB359_310.out
              have hnc197:=NB310_359.out
              have hnb198:=NB359_316.out
              have hnc198:=NB316_359.out
              have hnb199:=NB359_326.out
              have hnc199:=NB326_359.out
              obtain⟨hcz200_0,hcz200_1,hcz200_2⟩:=cC3 BK359.out
              obtain⟨hfz200_0,hfz200_1,hfz200_2⟩:=cF3 BK359.out
              have hnb201:=NB310_294.out
              have hnc201:=NB294_310.out
              have hnb202:=NB310_316.out
              have hnc202:=NB316_310.out
              have hnb203:=NB310_326.out
              have hnc203:=NB326_310.out
              obtain⟨hcz204_0,hcz204_1,hcz204_2⟩:=cC3 BK310.out
              obtain⟨hfz204_0,hfz204_1,hfz204_2⟩:=cF3 BK310.out
              go_wp2_with (first|((with_reducible refine gate_callee (f:=19) rfl ?_);refine goesA (some 107) rfl rfl Try.func19 #[.agg #[.int .i64 t350,.slice Ao167 t351.length co167,.int .i64 t354],.agg #[.int .i64 t301,.slice Ao22 t302.length co22,.int .i64 t305]] rfl ?_;(with_reducible refine(laws_eqTurns.calls kj73 t350 _ _ t351 t354 t301 _ _ t302 t305 false _ ?side1 ?side2 ?side3 ?side4 A168.out).mono ?_);(case side1=>refine(Kd.S_reads' (e:=116) (base:=w.heap.size) (ok:=fun k_=>((((((some k_≠(v356:Value).ownBlock∧some k_≠(v307:Value).ownBlock)∧some k_≠(.slice Ao151 t322.length co151:Value).ownBlock)∧N352_≤k_)∧N352_≤k_)∧N352_≤k_)∧N352_≤k_)) (n:=t351.length) (c:=co167) ?_).2.2;exact(by(with_reducible repeat (first|apply Kd.S_alloc|apply Kd.S_drewN|apply Kd.S_drew));exact(Kd.S_mono (Kd.S_far (p:=⟨gb359,2,none⟩) (Kd.S_far (p:=⟨gb359,1,none⟩) (Kd.S_far (p:=⟨gb359,0,none⟩) (Kd.S_types HO353.out BK359.out (by decide)) (fun _ hk=>hk.2) (.int .i64 t350)) (fun _ hk=>hk.2) (.slice Ao167 t351.length co167)) (fun _ hk=>hk.2) (.int .i64 t354)) (fun _ h_=>h_.1))));(case side2=>exact(Kd.S_reads' HO353.out).2.1);(case side3=>refine(Kd.S_reads' (e:=116) (base:=w.heap.size) (ok:=fun k_=>((((k_ < N313_∧(k_ < N319_∧(some k_≠(v307:Value).ownBlock∧some k_≠(.slice Ao151 t322.length co151:Value).ownBlock)))∧k_ < N347_)∧k_ < N352_)∧some k_≠(v356:Value).ownBlock)) (n:=t302.length) (c:=co22) ?_).2.2;exact(by(with_reducible repeat (first|apply Kd.S_alloc|apply Kd.S_drewN|apply Kd.S_drew));exact(Kd.S_mono (Kd.S_far (p:=⟨gb359,2,none⟩) (Kd.S_far (p:=⟨gb359,1,none⟩) (Kd.S_far (p:=⟨gb359,0,none⟩) (Kd.S_types HO_311001.out BK359.out (by decide)) (fun _ hk=>hk.2) (.int .i64 t350)) (fun _ hk=>hk.2) (.slice Ao167 t351.length co167)) (fun _ hk=>hk.2) (.int .i64 t354)) (fun _ h_=>h_.1))));(case side4=>exact(Kd.S_reads' HO_311001.out).2.1);rintro e w205 ⟨rfl,hb⟩;refine⟨_,rfl,?_⟩;have n0_:=Aside0.mk (Kd.R_below (by(with_reducible repeat (first|apply Kd.R_alloc|apply Kd.R_drewN|apply Kd.R_drew));exact(Kd.R_mono (Kd.R_far (p:=⟨gb359,2,none⟩) (Kd.R_far (p:=⟨gb359,1,none⟩) (Kd.R_far (p:=⟨gb359,0,none⟩) (Kd.R_types HO_5.out BK359.out (by decide)) (fun _ hk=>hk.2) (.int .i64 t350)) (fun _ hk=>hk.2) (.slice Ao167 t351.length co167)) (fun _ hk=>hk.2) (.int .i64 t354)) (fun _ h_=>h_.1))) hb);have n1_:=Aside0.mk (Kd.R_below (by(with_reducible repeat (first|apply Kd.R_alloc|apply Kd.R_drewN|apply Kd.R_drew));exact(Kd.R_mono (Kd.R_far (p:=⟨gb359,2,none⟩) (Kd.R_far (p:=⟨gb359,1,none⟩) (Kd.R_far (p:=⟨gb359,0,none⟩) (Kd.R_types HO_9.out BK359.out (by decide)) (fun _ hk=>hk.2) (.int .i64 t350)) (fun _ hk=>hk.2) (.slice Ao167 t351.length co167)) (fun _ hk=>hk.2) (.int .i64 t354)) (fun _ h_=>h_.1))) hb);have n2_:=Aside0.mk (Kd.S_below (by(with_reducible repeat (first|apply Kd.S_alloc|apply Kd.S_drewN|apply Kd.S_drew));exact(Kd.S_mono (Kd.S_far (p:=⟨gb359,2,none⟩) (Kd.S_far (p:=⟨gb359,1,none⟩) (Kd.S_far (p:=⟨gb359,0,none⟩) (Kd.S_types HO_311001.out BK359.out (by decide)) (fun _ hk=>hk.2) (.int .i64 t350)) (fun _ hk=>hk.2) (.slice Ao167 t351.length co167)) (fun _ hk=>hk.2) (.int .i64 t354)) (fun _ h_=>h_.1))) hb);have n3_:=Aside0.mk (Kd.S_below (by(with_reducible repeat (first|apply Kd.S_alloc|apply Kd.S_drewN|apply Kd.S_drew));exact(Kd.S_mono (Kd.S_far (p:=⟨gb359,2,none⟩) (Kd.S_far (p:=⟨gb359,1,none⟩) (Kd.S_far (p:=⟨gb359,0,none⟩) (Kd.S_types HO_317001.out BK359.out (by decide)) (fun _ hk=>hk.2) (.int .i64 t350)) (fun _ hk=>hk.2) (.slice Ao167 t351.length co167)) (fun _ hk=>hk.2) (.int .i64 t354)) (fun _ h_=>h_.1))) hb);have n4_:=Aside0.mk (Kd.S_below (by(with_reducible repeat (first|apply Kd.S_alloc|apply Kd.S_drewN|apply Kd.S_drew));exact(Kd.S_mono (Kd.S_far (p:=⟨gb359,2,none⟩) (Kd.S_far (p:=⟨gb359,1,none⟩) (Kd.S_far (p:=⟨gb359,0,none⟩) (Kd.S_types HO_327001.out BK359.out (by decide)) (fun _ hk=>hk.2) (.int .i64 t350)) (fun _ hk=>hk.2) (.slice Ao167 t351.length co167)) (fun _ hk=>hk.2) (.int .i64 t354)) (fun _ h_=>h_.1))) hb);have n5_:=Aside0.mk (Kd.S_below (by(with_reducible repeat (first|apply Kd.S_alloc|apply Kd.S_drewN|apply Kd.S_drew));exact(Kd.S_mono (Kd.S_far (p:=⟨gb359,2,none⟩) (Kd.S_far (p:=⟨gb359,1,none⟩) (Kd.S_far (p:=⟨gb359,0,none⟩) (Kd.S_types HO348.out BK359.out (by decide)) (fun _ hk=>hk.2) (.int .i64 t350)) (fun _ hk=>hk.2) (.slice Ao167 t351.length co167)) (fun _ hk=>hk.2) (.int .i64 t354)) (fun _ h_=>h_.1))) hb);have n6_:=Aside0.mk (Kd.S_below (by(with_reducible repeat (first|apply Kd.S_alloc|apply Kd.S_drewN|apply Kd.S_drew));exact(Kd.S_mono (Kd.S_far (p:=⟨gb359,2,none⟩) (Kd.S_far (p:=⟨gb359,1,none⟩) (Kd.S_far (p:=⟨gb359,0,none⟩) (Kd.S_types HO353.out BK359.out (by decide)) (fun _ hk=>hk.2) (.int .i64 t350)) (fun _ hk=>hk.2) (.slice Ao167 t351.length co167)) (fun _ hk=>hk.2) (.int .i64 t354)) (fun _ h_=>h_.1))) hb);have n7_:=Aside0.mk (Kd.R_below (by(with_reducible repeat (first|apply Kd.R_alloc|apply Kd.R_drewN|apply Kd.R_drew));exact(Kd.R_mono (Kd.R_far (p:=⟨gb359,2,none⟩) (Kd.R_far (p:=⟨gb359,1,none⟩) (Kd.R_far (p:=⟨gb359,0,none⟩) (Kd.R_types HO357.out BK359.out (by decide)) (fun _ hk=>hk.2) (.int .i64 t350)) (fun _ hk=>hk.2) (.slice Ao167 t351.length co167)) (fun _ hk=>hk.2) (.int .i64 t354)) (fun _ h_=>h_.1))) hb);have n8_:=Aside0.mk (blk_below (g:=gb294) (o:=.cells #[.int .i64 a0_0,.slice A0_1 l0_1.length c0_1,.int .i64 a0_2] 24 (0,0)) (by(with_reducible repeat (first|refine blk_drewN ?_ _|refine blk_drew ?_|refine blk_alloc ?_ _));refine blk_far ?_ NB294_359.out _;(with_reducible repeat (first|refine blk_drewN ?_ _|refine blk_drew ?_|refine blk_alloc ?_ _));refine blk_far ?_ NB294_359.out _;(with_reducible repeat (first|refine blk_drewN ?_ _|refine blk_drew ?_|refine blk_alloc ?_ _));refine blk_far ?_ NB294_359.out _;(with_reducible repeat (first|refine blk_drewN ?_ _|refine blk_drew ?_|refine blk_alloc ?_ _));exact BK294.out) hb);have n9_:=Aside0.mk (blk_below (g:=gb310) (o:=.cells #[.int .i64 t301,.slice Ao22 t302.length co22,.int .i64 t305] 28 (0,0)) (by(with_reducible repeat (first|refine blk_drewN ?_ _|refine blk_drew ?_|refine blk_alloc ?_ _));refine blk_far ?_ NB310_359.out _;(with_reducible repeat (first|refine blk_drewN ?_ _|refine blk_drew ?_|refine blk_alloc ?_ _));refine blk_far ?_ NB310_359.out _;(with_reducible repeat (first|refine blk_drewN ?_ _|refine blk_drew ?_|refine blk_alloc ?_ _));refine blk_far ?_ NB310_359.out _;(with_reducible repeat (first|refine blk_drewN ?_ _|refine blk_drew ?_|refine blk_alloc ?_ _));exact BK310.out) hb);have n10_:=Aside0.mk (blk_below (g:=gb316) (o:=.cells #[.int .i64 t311,.slice Ao29 t336.length co29,.int .i64 t315] 28 (0,0)) (by(with_reducible repeat (first|refine blk_drewN ?_ _|refine blk_drew ?_|refine blk_alloc ?_ _));refine blk_far ?_ NB316_359.out _;(with_reducible repeat (first|refine blk_drewN ?_ _|refine blk_drew ?_|refine blk_alloc ?_ _));refine blk_far ?_ NB316_359.out _;(with_reducible repeat (first|refine blk_drewN ?_ _|refine blk_drew ?_|refine blk_alloc ?_ _));refine blk_far ?_ NB316_359.out _;(with_reducible repeat (first|refine blk_drewN ?_ _|refine blk_drew ?_|refine blk_alloc ?_ _));exact BK316.out) hb);have n11_:=Aside0.mk (blk_below (g:=gb326) (o:=.cells #[.int .i64 t317,.slice Ao36 t318.length co36,.int .i64 t321] 28 (0,0)) (by(with_reducible repeat (first|refine blk_drewN ?_ _|refine blk_drew ?_|refine blk_alloc ?_ _));refine blk_far ?_ NB326_359.out _;(with_reducible repeat (first|refine blk_drewN ?_ _|refine blk_drew ?_|refine blk_alloc ?_ _));refine blk_far ?_ NB326_359.out _;(with_reducible repeat (first|refine blk_drewN ?_ _|refine blk_drew ?_|refine blk_alloc ?_ _));refine blk_far ?_ NB326_359.out _;(with_reducible repeat (first|refine blk_drewN ?_ _|refine blk_drew ?_|refine blk_alloc ?_ _));exact BK326.out) hb);have n12_:=Aside0.mk (blk_below (g:=gb359) (o:=.cells #[.int .i64 t350,.slice Ao167 t351.length co167,.int .i64 t354] 28 (0,0)) (by(with_reducible repeat (first|refine blk_drewN ?_ _|refine blk_drew ?_|refine blk_alloc ?_ _));refine blk_put (cs:=#[.int .i64 t350,.slice Ao167 t351.length co167,.int .i64 0]) ?_ 2 _ rfl;(with_reducible repeat (first|refine blk_drewN ?_ _|refine blk_drew ?_|refine blk_alloc ?_ _));refine blk_put (cs:=#[.int .i64 t350,.slice none 0 0,.int .i64 0]) ?_ 1 _ rfl;(with_reducible repeat (first|refine blk_drewN ?_ _|refine blk_drew ?_|refine blk_alloc ?_ _));refine blk_put (cs:=#[.int .i64 0,.slice none 0 0,.int .i64 0]) ?_ 0 _ rfl;(with_reducible repeat (first|refine blk_drewN ?_ _|refine blk_drew ?_|refine blk_alloc ?_ _));exact BK359.out) hb);have n13_:=Aside0.mk (below_step (bS5 GE294.out GE310.out GE316.out GE326.out GE359.out) hb);clear HO_5 HO_9 HO_311001 HO_317001 HO_327001 HO348 HO353 HO357 BK294 BK310 BK316 BK326 BK359 HB;have HO_5:=n0_;have HO_9:=n1_;have HO_311001:=n2_;have HO_317001:=n3_;have HO_327001:=n4_;have HO348:=n5_;have HO353:=n6_;have HO357:=n7_;have BK294:=n8_;have BK310:=n9_;have BK316:=n10_;have BK326:=n11_;have BK359:=n12_;have HB:=n13_;clear n0_ n1_ n2_ n3_ n4_ n5_ n6_ n7_ n8_ n9_ n10_ n11_ n12_ n13_;(try clear hb);(try clear hb2);(try clear hk);(try clear hi)))
              go_meet
              case rel=>exact⟨_,(true),(bR),H',⟨by have:=HJ10.out;have:=HJ73.out;first|omega|exact Nat.le_refl _⟩,⟨by(try simp only[hl317001_73]);(with_reducible repeat (first|apply Kd.R_alloc|apply Kd.R_drewN|apply Kd.R_drew));exact Kd.R_mono HO_9.out (fun _ hk=>trivial)⟩,⟨by(try simp only[hl317001_73]);(with_reducible repeat (first|apply Kd.S_alloc|apply Kd.S_drewN|apply Kd.S_drew));exact Kd.S_mono HO_311001.out (fun _ hk=>⟨hk.1.1.1.2.2.2,⟨hk.1.1.1.1,⟨hk.1.1.1.2.1,hk.1.2⟩⟩⟩)⟩,⟨by(try simp only[hl317001_73]);(with_reducible repeat (first|apply Kd.S_alloc|apply Kd.S_drewN|apply Kd.S_drew));exact Kd.S_mono HO_317001.out (fun _ hk=>⟨hk.1.1.1.2.2.2,⟨hk.1.1.1.1,⟨hk.1.1.1.2.1,hk.1.2⟩⟩⟩)⟩,⟨by(try simp only[hl317001_73]);(with_reducible repeat (first|apply Kd.S_alloc|apply Kd.S_drewN|apply Kd.S_drew));exact Kd.S_mono HO_327001.out (fun _ hk=>⟨hk.1.1.1.2.2.2,⟨hk.1.1.1.1,⟨hk.1.1.1.2.1,hk.1.2⟩⟩⟩)⟩,⟨by(try simp only[hl317001_73]);(with_reducible repeat (first|apply Kd.S_alloc|apply Kd.S_drewN|apply Kd.S_drew));exact Kd.S_mono HO353.out (fun _ hk=>⟨hk.1.1.1.1.2,⟨hk.1.1.1.2,⟨hk.1.1.2,hk.1.2⟩⟩⟩)⟩,⟨by(try simp only[hl317001_73]);(with_reducible repeat (first|refine blk_drewN ?_ _|refine blk_drew ?_|refine blk_alloc ?_ _));exact BK294.out⟩,⟨by(try simp only[hl317001_73]);(with_reducible repeat (first|refine blk_drewN ?_ _|refine blk_drew ?_|refine blk_alloc ?_ _));exact BK310.out⟩,⟨by(try simp only[hl317001_73]);(with_reducible repeat (first|refine blk_drewN ?_ _|refine blk_drew ?_|refine blk_alloc ?_ _));exact BK316.out⟩,⟨by(try simp only[hl317001_73]);(with_reducible repeat (first|refine blk_drewN ?_ _|refine blk_drew ?_|refine blk_alloc ?_ _));exact BK326.out⟩,⟨by(try simp only[hl317001_73]);(with_reducible repeat (first|refine blk_drewN ?_ _|refine blk_drew ?_|refine blk_alloc ?_ _));exact BK359.out⟩,⟨bS5 GE294.out GE310.out GE316.out GE326.out GE359.out⟩⟩
            case rest =>
             clear HC145
             try clear c1
             try clear c2
             try clear p2
             try clear c3
             try clear c3b0
             try clear c4
             try clear c5
             try clear c6
             try clear c7
             try clear c8
             try clear c9
             try clear c10
             try clear c11
             try clear c12
             try clear c13
             try clear c14
             try clear c15
             try clear c16
             try clear c17
             try clear c18
             try clear c19
             try clear c20
             try clear c21
             try clear c26
             try clear c27
             try clear c29
             try clear c30
             try clear c32
             try clear c33
             try clear c34
             try clear c38
             try clear c40
             try clear c41
             try clear c42
             try clear c43
             try clear c45
             try clear c46
             try clear c49
             try clear c50
             try clear c51
             try clear c52
             try clear c53
             try clear c55
             try clear c56
             try clear c61
             try clear c62
             try clear c63
             try clear c65
             try clear c66
             try clear c69
             try clear c72
             try clear c79
             try clear c80
             try clear c81
             try clear c84
             try clear c84b0
             try clear c86
             try clear c88
             try clear c89
             try clear c90
             try clear c91
             try clear c93
             try clear c94
             try clear c99
             try clear c100
             try clear c101
             try clear c103
             try clear c104
             try clear c109
             try clear c110
             try clear c111
             try clear c113
             try clear c114
             try clear c117
             try clear c121
             try clear c121b0
             try clear c122
             try clear c123
             try clear c124
             try clear c132
             try clear c132b0
             try clear c133
             try clear c134
             try clear c135
             try clear c142
             try clear c142b0
             try clear c142b1
             try clear c146
             try clear c147
             try clear c148
             try clear c155
             try clear c156
             try clear c162
             try clear c163
             try clear c164
             try clear c165
             try clear c169
             try clear c171
             try clear c172
             try clear c173
             try clear c174
             try clear c175
             try clear c177
             try clear c178
             try clear c179
             try clear c184
             try clear c185
             try clear c186
             try clear c187
             try clear c189
             try clear c190
             try clear c191
             try clear c196
             try clear c197
             try clear c198
             try clear c199
             try clear c201
             try clear c202
             try clear c203
             try clear hcz102_0 hcz102_1 hcz102_2
             try clear hcz105_0 hcz105_1 hcz105_2
             try clear hcz112_0 hcz112_1 hcz112_2
             try clear hcz115_0 hcz115_1 hcz115_2
             try clear hcz125_0 hcz125_1 hcz125_2
             try clear hcz129_0 hcz129_1 hcz129_2
             try clear hcz136_0 hcz136_1 hcz136_2
             try clear hcz13_0 hcz13_1 hcz13_2
             try clear hcz140_0 hcz140_1 hcz140_2
             try clear hcz149_0 hcz149_1 hcz149_2
             try clear hcz153_0 hcz153_1 hcz153_2
             try clear hcz157_0 hcz157_1 hcz157_2
             try clear hcz15_0 hcz15_1 hcz15_2
             try clear hcz166_0 hcz166_1 hcz166_2
             try clear hcz176_0 hcz176_1 hcz176_2
             try clear hcz180_0 hcz180_1 hcz180_2
             try clear hcz188_0 hcz188_1 hcz188_2
             try clear hcz192_0 hcz192_1 hcz192_2
             try clear hcz200_0 hcz200_1 hcz200_2
             try clear hcz204_0 hcz204_1 hcz204_2
             try clear hcz21_0 hcz21_1 hcz21_2
             try clear hcz23_0 hcz23_1 hcz23_2
             try clear hcz28_0 hcz28_1 hcz28_2
             try clear hcz35_0 hcz35_1 hcz35_2
             try clear hcz44_0 hcz44_1 hcz44_2
             try clear hcz47_0 hcz47_1 hcz47_2
             try clear hcz54_0 hcz54_1 hcz54_2
             try clear hcz57_0 hcz57_1 hcz57_2
             try clear hcz5_0 hcz5_1 hcz5_2
             try clear hcz64_0 hcz64_1 hcz64_2
             try clear hcz67_0 hcz67_1 hcz67_2
             try clear hcz82_0 hcz82_1 hcz82_2
             try clear hcz92_0 hcz92_1 hcz92_2
             try clear hcz95_0 hcz95_1 hcz95_2
             try clear hfz102_0 hfz102_1 hfz102_2
             try clear hfz105_0 hfz105_1 hfz105_2
             try clear hfz112_0 hfz112_1 hfz112_2
             try clear hfz115_0 hfz115_1 hfz115_2
             try clear hfz125_0 hfz125_1 hfz125_2
             try clear hfz129_0 hfz129_1 hfz129_2
             try clear hfz136_0 hfz136_1 hfz136_2
             try clear hfz13_0 hfz13_1 hfz13_2
             try clear hfz140_0 hfz140_1 hfz140_2
             try clear hfz149_0 hfz149_1 hfz149_2
             try clear hfz153_0 hfz153_1 hfz153_2
             try clear hfz157_0 hfz157_1 hfz157_2
             try clear hfz15_0 hfz15_1 hfz15_2
             try clear hfz166_0 hfz166_1 hfz166_2
             try clear hfz176_0 hfz176_1 hfz176_2
             try clear hfz180_0 hfz180_1 hfz180_2
             try clear hfz188_0 hfz188_1 hfz188_2
             try clear hfz192_0 hfz192_1 hfz192_2
             try clear hfz200_0 hfz200_1 hfz200_2
             try clear hfz204_0 hfz204_1 hfz204_2
             try clear hfz21_0 hfz21_1 hfz21_2
             try clear hfz23_0 hfz23_1 hfz23_2
             try clear hfz28_0 hfz28_1 hfz28_2
             try clear hfz35_0 hfz35_1 hfz35_2
             try clear hfz44_0 hfz44_1 hfz44_2
             try clear hfz47_0 hfz47_1 hfz47_2
             try clear hfz54_0 hfz54_1 hfz54_2
             try clear hfz57_0 hfz57_1 hfz57_2
             try clear hfz5_0 hfz5_1 hfz5_2
             try clear hfz64_0 hfz64_1 hfz64_2
             try clear hfz67_0 hfz67_1 hfz67_2
             try clear hfz82_0 hfz82_1 hfz82_2
             try clear hfz92_0 hfz92_1 hfz92_2
             try clear hfz95_0 hfz95_1 hfz95_2
             try clear p2
             obtain⟨kq,x119_144,rfl,HA,HJ144,HO_9,HO_311001,HO_317001,HO_327001,HO_360001,BK294,BK310,BK316,BK326,BK359,HB⟩:=hcut
             have hl9_144:=(Kd.R_reads' HO_9.out).1
             rw[hl9_144] at HO_9
             (try simp only[hl9_144])
             (try simp only[hl9_144] at BK294)
             (try simp only[hl9_144] at BK310)
             (try simp only[hl9_144] at BK316)
             (try simp only[hl9_144] at BK326)
             (try simp only[hl9_144] at BK359)
             (try simp only[hl9_144] at HO_311001)
             (try simp only[hl9_144] at HO_317001)
             (try simp only[hl9_144] at HO_327001)
             (try simp only[hl9_144] at HO_360001)
             have hl327001_144:=(Kd.S_reads' HO_327001.out).1
             rw[hl327001_144] at HO_327001
             (try simp only[hl327001_144])
             (try simp only[hl327001_144] at BK294)
             (try simp only[hl327001_144] at BK310)
             (try simp only[hl327001_144] at BK316)
             (try simp only[hl327001_144] at BK326)
             (try simp only[hl327001_144] at BK359)
             (try simp only[hl327001_144] at HO_9)
             (try simp only[hl327001_144] at HO_311001)
             (try simp only[hl327001_144] at HO_317001)
             (try simp only[hl327001_144] at HO_360001)
             cases kq with
             | zero=>exact absurd HA.out (by simp[laws_FnExactNextRound.j2])
             | succ kj144 =>
              have H:=HA.out
              clear HA
              simp only[laws_FnExactNextRound.j2] at H
              by_cases c206:x119_144=true
              ·subst c206
               have H1:(some false)=some r:=by rw[if_pos rfl] at H;exact H
               clear H
               have H:=H1
               clear H1
               obtain rfl:=Option.some.inj H
               go_wp2
               go_ret
               exact⟨bE,bS5 GE294.out GE310.out GE316.out GE326.out GE359.out⟩
              ·replace c206:=Bool.eq_false_iff.mpr c206
               subst c206
               have H1:((laws_heldTurns.f kj144 t317 t340 t321 1).bind fun t362=>(if t362 < 0 then (some false) else ((laws_heldIntS.f kj144 t342 t362).bind fun t363=>(if t363 < 0 then (some false) else (if t363=t341 then (some true) else (some false))))))=some r:=by rw[if_neg (show ¬ (false=true) by decide)] at H;exact H
               clear H
               have H:=H1
               clear H1
               replace H:=Option.bind_eq_some_iff.mp H
               obtain⟨t362,A2070,H⟩:=H
               have A207:=Aside0.mk A2070
               clear A2070
               by_cases c208:t362 < 0
               ·rw[if_pos c208] at H
                have c208b0:decide (t362 < 0)=true:=decide_eq_true c208
                clear c208
                obtain rfl:=Option.some.inj H
                have hnb209:=NB326_294.out
                have hnc209:=NB294_326.out
                have hnb210:=NB326_310.out
                have hnc210:=NB310_326.out
                have hnb211:=NB326_316.out
                have hnc211:=NB316_326.out
                have hnb212:=NB326_359.out
                have hnc212:=NB359_326.out
                obtain⟨hcz213_0,hcz213_1,hcz213_2⟩:=cC3 BK326.out
                obtain⟨hfz213_0,hfz213_1,hfz213_2⟩:=cF3 BK326.out
                go_wp2_with (first|((with_reducible refine gate_callee (f:=21) rfl ?_);refine goesA (some 122) rfl rfl Try.func21 #[.agg #[.int .i64 t317,.slice Ao36 t340.length co36,.int .i64 t321],.int .i64 1] rfl ?_;(with_reducible refine(laws_heldTurns.calls kj144 t317 _ _ t340 t321 1 t362 _ ?side1 ?side2 A207.out).mono ?_);(case side1=>repeat (first|exact(Kd.S_reads' HO_327001.out).2.2|(with_reducible refine Kd.C_alloc ?_ _)|(with_reducible refine Kd.C_drewN ?_ _)|(with_reducible refine Kd.C_drew ?_)));(case side2=>exact(Kd.S_reads' HO_327001.out).2.1);rintro e w214 ⟨rfl,hb⟩;refine⟨_,rfl,?_⟩;have n0_:=Aside0.mk (Kd.R_below (bK HO_9.out) hb);have n1_:=Aside0.mk (Kd.S_below (by(with_reducible repeat (first|apply Kd.S_alloc|apply Kd.S_drewN|apply Kd.S_drew));exact HO_311001.out) hb);have n2_:=Aside0.mk (Kd.S_below (by(with_reducible repeat (first|apply Kd.S_alloc|apply Kd.S_drewN|apply Kd.S_drew));exact HO_317001.out) hb);have n3_:=Aside0.mk (Kd.S_below (by(with_reducible repeat (first|apply Kd.S_alloc|apply Kd.S_drewN|apply Kd.S_drew));exact HO_327001.out) hb);have n4_:=Aside0.mk (Kd.S_below (by(with_reducible repeat (first|apply Kd.S_alloc|apply Kd.S_drewN|apply Kd.S_drew));exact HO_360001.out) hb);have n5_:=Aside0.mk (bM BK294.out hb);have n6_:=Aside0.mk (bM BK310.out hb);have n7_:=Aside0.mk (bM BK316.out hb);have n8_:=Aside0.mk (bM BK326.out hb);have n9_:=Aside0.mk (bM BK359.out hb);have n10_:=Aside0.mk (below_step (bS5 GE294.out GE310.out GE316.out GE326.out GE359.out) hb);clear HO_9 HO_311001 HO_317001 HO_327001 HO_360001 BK294 BK310 BK316 BK326 BK359 HB;have HO_9:=n0_;have HO_311001:=n1_;have HO_317001:=n2_;have HO_327001:=n3_;have HO_360001:=n4_;have BK294:=n5_;have BK310:=n6_;have BK316:=n7_;have BK326:=n8_;have BK359:=n9_;have HB:=n10_;clear n0_ n1_ n2_ n3_ n4_ n5_ n6_ n7_ n8_ n9_ n10_;(try clear hb);(try clear hb2);(try clear hk);(try clear hi)))
                go_ret
                exact⟨bE,bS5 GE294.out GE310.out GE316.out GE326.out GE359.out⟩
               ·rw[if_neg c208] at H
                have c208b0:decide (t362 < 0)=false:=decide_eq_false c208
                clear c208
                replace H:=Option.bind_eq_some_iff.mp H
                obtain⟨t363,A2150,H⟩:=H
                have A215:=Aside0.mk A2150
                clear A2150
                by_cases c216:t363 < 0
                ·rw[if_pos c216] at H
                 have c216b0:decide (t363 < 0)=true:=decide_eq_true c216
                 clear c216
                 obtain rfl:=Option.some.inj H
                 have hnb217:=NB326_294.out
                 have hnc217:=NB294_326.out
                 have hnb218:=NB326_310.out
                 have hnc218:=NB310_326.out
                 have hnb219:=NB326_316.out
                 have hnc219:=NB316_326.out
                 have hnb220:=NB326_359.out
                 have hnc220:=NB359_326.out
                 obtain⟨hcz221_0,hcz221_1,hcz221_2⟩:=cC3 BK326.out
                 obtain⟨hfz221_0,hfz221_1,hfz221_2⟩:=cF3 BK326.out
                 go_wp2_with (first|((with_reducible refine gate_callee (f:=21) rfl ?_);refine goesA (some 122) rfl rfl Try.func21 #[.agg #[.int .i64 t317,.slice Ao36 t340.length co36,.int .i64 t321],.int .i64 1] rfl ?_;(with_reducible refine(laws_heldTurns.calls kj144 t317 _ _ t340 t321 1 t362 _ ?side1 ?side2 A207.out).mono ?_);(case side1=>repeat (first|exact(Kd.S_reads' HO_327001.out).2.2|(with_reducible refine Kd.C_alloc ?_ _)|(with_reducible refine Kd.C_drewN ?_ _)|(with_reducible refine Kd.C_drew ?_)));(case side2=>exact(Kd.S_reads' HO_327001.out).2.1);rintro e w222 ⟨rfl,hb⟩;refine⟨_,rfl,?_⟩;have n0_:=Aside0.mk (Kd.R_below (bK HO_9.out) hb);have n1_:=Aside0.mk (Kd.S_below (by(with_reducible repeat (first|apply Kd.S_alloc|apply Kd.S_drewN|apply Kd.S_drew));exact HO_311001.out) hb);have n2_:=Aside0.mk (Kd.S_below (by(with_reducible repeat (first|apply Kd.S_alloc|apply Kd.S_drewN|apply Kd.S_drew));exact HO_317001.out) hb);have n3_:=Aside0.mk (Kd.S_below (by(with_reducible repeat (first|apply Kd.S_alloc|apply Kd.S_drewN|apply Kd.S_drew));exact HO_327001.out) hb);have n4_:=Aside0.mk (Kd.S_below (by(with_reducible repeat (first|apply Kd.S_alloc|apply Kd.S_drewN|apply Kd.S_drew));exact HO_360001.out) hb);have n5_:=Aside0.mk (bM BK294.out hb);have n6_:=Aside0.mk (bM BK310.out hb);have n7_:=Aside0.mk (bM BK316.out hb);have n8_:=Aside0.mk (bM BK326.out hb);have n9_:=Aside0.mk (bM BK359.out hb);have n10_:=Aside0.mk (below_step (bS5 GE294.out GE310.out GE316.out GE326.out GE359.out) hb);clear HO_9 HO_311001 HO_317001 HO_327001 HO_360001 BK294 BK310 BK316 BK326 BK359 HB;have HO_9:=n0_;have HO_311001:=n1_;have HO_317001:=n2_;have HO_327001:=n3_;have HO_360001:=n4_;have BK294:=n5_;have BK310:=n6_;have BK316:=n7_;have BK326:=n8_;have BK359:=n9_;have HB:=n10_;clear n0_ n1_ n2_ n3_ n4_ n5_ n6_ n7_ n8_ n9_ n10_;(try clear hb);(try clear hb2);(try clear hk);(try clear hi))|((with_reducible refine gate_callee (f:=30) rfl ?_);refine goesA (some 127) rfl rfl Try.func30 #[.slice Ao151 t342.length co151,.int .i64 t362] rfl ?_;(with_reducible refine(laws_heldIntS.calls kj144 _ _ t342 t362 t363 _ ?side1 ?side2 A215.out).mono ?_);(case side1=>exact bT HO_9.out);(case side2=>exact(Kd.R_reads' HO_9.out).2.1);rintro e w' ⟨rfl,⟨nd,rfl⟩⟩;refine⟨_,rfl,?_⟩))
                 go_ret
                 exact⟨bE,bS5 GE294.out GE310.out GE316.out GE326.out GE359.out⟩
                ·rw[if_neg c216] at H
                 have c216b0:decide (t363 < 0)=false:=decide_eq_false c216
                 clear c216
                 by_cases c223:t363=t341
                 ·rw[if_pos c223] at H
                  have c223b0:(t363 == t341)=true:=beq_iff_eq.mpr c223
                  have c223b1:(t363 != t341)=false:=bne_eq_false_iff_eq.mpr c223
                  clear c223
                  obtain rfl:=Option.some.inj H
                  have hnb224:=NB326_294.out
                  have hnc224:=NB294_326.out
                  have hnb225:=NB326_310.out
                  have hnc225:=NB310_326.out
                  have hnb226:=NB326_316.out
                  have hnc226:=NB316_326.out
                  have hnb227:=NB326_359.out
                  have hnc227:=NB359_326.out
                  obtain⟨hcz228_0,hcz228_1,hcz228_2⟩:=cC3 BK326.out
                  obtain⟨hfz228_0,hfz228_1,hfz228_2⟩:=cF3 BK326.out
                  go_wp2_with (first|((with_reducible refine gate_callee (f:=21) rfl ?_);refine goesA (some 122) rfl rfl Try.func21 #[.agg #[.int .i64 t317,.slice Ao36 t340.length co36,.int .i64 t321],.int .i64 1] rfl ?_;(with_reducible refine(laws_heldTurns.calls kj144 t317 _ _ t340 t321 1 t362 _ ?side1 ?side2 A207.out).mono ?_);(case side1=>repeat (first|exact(Kd.S_reads' HO_327001.out).2.2|(with_reducible refine Kd.C_alloc ?_ _)|(with_reducible refine Kd.C_drewN ?_ _)|(with_reducible refine Kd.C_drew ?_)));(case side2=>exact(Kd.S_reads' HO_327001.out).2.1);rintro e w229 ⟨rfl,hb⟩;refine⟨_,rfl,?_⟩;have n0_:=Aside0.mk (Kd.R_below (bK HO_9.out) hb);have n1_:=Aside0.mk (Kd.S_below (by(with_reducible repeat (first|apply Kd.S_alloc|apply Kd.S_drewN|apply Kd.S_drew));exact HO_311001.out) hb);have n2_:=Aside0.mk (Kd.S_below (by(with_reducible repeat (first|apply Kd.S_alloc|apply Kd.S_drewN|apply Kd.S_drew));exact HO_317001.out) hb);have n3_:=Aside0.mk (Kd.S_below (by(with_reducible repeat (first|apply Kd.S_alloc|apply Kd.S_drewN|apply Kd.S_drew));exact HO_327001.out) hb);have n4_:=Aside0.mk (Kd.S_below (by(with_reducible repeat (first|apply Kd.S_alloc|apply Kd.S_drewN|apply Kd.S_drew));exact HO_360001.out) hb);have n5_:=Aside0.mk (bM BK294.out hb);have n6_:=Aside0.mk (bM BK310.out hb);have n7_:=Aside0.mk (bM BK316.out hb);have n8_:=Aside0.mk (bM BK326.out hb);have n9_:=Aside0.mk (bM BK359.out hb);have n10_:=Aside0.mk (below_step (bS5 GE294.out GE310.out GE316.out GE326.out GE359.out) hb);clear HO_9 HO_311001 HO_317001 HO_327001 HO_360001 BK294 BK310 BK316 BK326 BK359 HB;have HO_9:=n0_;have HO_311001:=n1_;have HO_317001:=n2_;have HO_327001:=n3_;have HO_360001:=n4_;have BK294:=n5_;have BK310:=n6_;have BK316:=n7_;have BK326:=n8_;have BK359:=n9_;have HB:=n10_;clear n0_ n1_ n2_ n3_ n4_ n5_ n6_ n7_ n8_ n9_ n10_;(try clear hb);(try clear hb2);(try clear hk);(try clear hi))|((with_reducible refine gate_callee (f:=30) rfl ?_);refine goesA (some 127) rfl rfl Try.func30 #[.slice Ao151 t342.length co151,.int .i64 t362] rfl ?_;(with_reducible refine(laws_heldIntS.calls kj144 _ _ t342 t362 t363 _ ?side1 ?side2 A215.out).mono ?_);(case side1=>exact bT HO_9.out);(case side2=>exact(Kd.R_reads' HO_9.out).2.1);rintro e w' ⟨rfl,⟨nd,rfl⟩⟩;refine⟨_,rfl,?_⟩))
                  go_ret
                  exact⟨bE,bS5 GE294.out GE310.out GE316.out GE326.out GE359.out⟩
                 ·rw[if_neg c223] at H
                  have c223b0:(t363 == t341)=false:=beq_eq_false_iff_ne.mpr c223
                  have c223b1:(t363 != t341)=true:=bne_iff_ne.mpr c223
                  obtain rfl:=Option.some.inj H
                  have hnb230:=NB326_294.out
                  have hnc230:=NB294_326.out
                  have hnb231:=NB326_310.out
                  have hnc231:=NB310_326.out
                  have hnb232:=NB326_316.out
                  have hnc232:=NB316_326.out
                  have hnb233:=NB326_359.out
                  have hnc233:=NB359_326.out
                  obtain⟨hcz234_0,hcz234_1,hcz234_2⟩:=cC3 BK326.out
                  obtain⟨hfz234_0,hfz234_1,hfz234_2⟩:=cF3 BK326.out
                  go_wp2_with (first|((with_reducible refine gate_callee (f:=21) rfl ?_);refine goesA (some 122) rfl rfl Try.func21 #[.agg #[.int .i64 t317,.slice Ao36 t340.length co36,.int .i64 t321],.int .i64 1] rfl ?_;(with_reducible refine(laws_heldTurns.calls kj144 t317 _ _ t340 t321 1 t362 _ ?side1 ?side2 A207.out).mono ?_);(case side1=>repeat (first|exact(Kd.S_reads' HO_327001.out).2.2|(with_reducible refine Kd.C_alloc ?_ _)|(with_reducible refine Kd.C_drewN ?_ _)|(with_reducible refine Kd.C_drew ?_)));(case side2=>exact(Kd.S_reads' HO_327001.out).2.1);rintro e w235 ⟨rfl,hb⟩;refine⟨_,rfl,?_⟩;have n0_:=Aside0.mk (Kd.R_below (bK HO_9.out) hb);have n1_:=Aside0.mk (Kd.S_below (by(with_reducible repeat (first|apply Kd.S_alloc|apply Kd.S_drewN|apply Kd.S_drew));exact HO_311001.out) hb);have n2_:=Aside0.mk (Kd.S_below (by(with_reducible repeat (first|apply Kd.S_alloc|apply Kd.S_drewN|apply Kd.S_drew));exact HO_317001.out) hb);have n3_:=Aside0.mk (Kd.S_below (by(with_reducible repeat (first|apply Kd.S_alloc|apply Kd.S_drewN|apply Kd.S_drew));exact HO_327001.out) hb);have n4_:=Aside0.mk (Kd.S_below (by(with_reducible repeat (first|apply Kd.S_alloc|apply Kd.S_drewN|apply Kd.S_drew));exact HO_360001.out) hb);have n5_:=Aside0.mk (bM BK294.out hb);have n6_:=Aside0.mk (bM BK310.out hb);have n7_:=Aside0.mk (bM BK316.out hb);have n8_:=Aside0.mk (bM BK326.out hb);have n9_:=Aside0.mk (bM BK359.out hb);have n10_:=Aside0.mk (below_step (bS5 GE294.out GE310.out GE316.out GE326.out GE359.out) hb);clear HO_9 HO_311001 HO_317001 HO_327001 HO_360001 BK294 BK310 BK316 BK326 BK359 HB;have HO_9:=n0_;have HO_311001:=n1_;have HO_317001:=n2_;have HO_327001:=n3_;have HO_360001:=n4_;have BK294:=n5_;have BK310:=n6_;have BK316:=n7_;have BK326:=n8_;have BK359:=n9_;have HB:=n10_;clear n0_ n1_ n2_ n3_ n4_ n5_ n6_ n7_ n8_ n9_ n10_;(try clear hb);(try clear hb2);(try clear hk);(try clear hi))|((with_reducible refine gate_callee (f:=30) rfl ?_);refine goesA (some 127) rfl rfl Try.func30 #[.slice Ao151 t342.length co151,.int .i64 t362] rfl ?_;(with_reducible refine(laws_heldIntS.calls kj144 _ _ t342 t362 t363 _ ?side1 ?side2 A215.out).mono ?_);(case side1=>exact bT HO_9.out);(case side2=>exact(Kd.R_reads' HO_9.out).2.1);rintro e w' ⟨rfl,⟨nd,rfl⟩⟩;refine⟨_,rfl,?_⟩))
                  go_ret
                  exact⟨bE,bS5 GE294.out GE310.out GE316.out GE326.out GE359.out⟩
           ·rw[if_neg c142] at H
            have c142b0:(t344 == t341)=false:=beq_eq_false_iff_ne.mpr c142
            have c142b1:(t344 != t341)=true:=bne_iff_ne.mpr c142
            obtain rfl:=Option.some.inj H
            have hnb236:=NB326_294.out
            have hnc236:=NB294_326.out
            have hnb237:=NB326_310.out
            have hnc237:=NB310_326.out
            have hnb238:=NB326_316.out
            have hnc238:=NB316_326.out
            obtain⟨hcz239_0,hcz239_1,hcz239_2⟩:=cC3 BK326.out
            obtain⟨hfz239_0,hfz239_1,hfz239_2⟩:=cF3 BK326.out
            go_wp2_with (first|((with_reducible refine gate_callee (f:=20) rfl ?_);refine goesA (some 81) rfl rfl Try.func20 #[.agg #[.int .i64 t317,.slice Ao36 t318.length co36,.int .i64 t321],.int .i64 1] rfl ?_;obtain⟨P0_,hPS_,hPO_,hPB_⟩:=markable_ HO_327001.out;(with_reducible refine(laws_markTurns.calls kj73 t317 P0_ (.slice Ao36 t318.length co36) t318 t321 1 t339 t340 w _ ?side1 ?side2 A118.out).mono ?_);(case side1=>repeat (first|(with_reducible first|exact HB.out|apply below_alloc|apply pw_below_drewN|apply below_drew1|refine below_set ?_ GE294.out|refine below_set ?_ GE310.out|refine below_set ?_ GE316.out|refine below_set ?_ GE326.out)|exact HB.out));(case side2=>exact hPS_);rintro e w240 ⟨rfl,hy0,hb,hkp⟩;refine⟨_,rfl,?_⟩;have n0_:=Aside0.mk (Kd.R_reok (ok:=fun k_=>some k_≠(v323:Value).ownBlock) rfl (Kd.R_keptB (Kd.R_tight rfl HO_5.out) hkp (fun k_ hk_ hs_=>by have h1_:=hPO_ k_ hs_;first|exact absurd hk_ h1_.1|exact absurd hk_ h1_.2|exact absurd hk_ h1_.2.1|exact absurd hk_ h1_.2.2|exact absurd hk_ h1_.2.2.1|exact absurd hk_ h1_.2.2.2|exact absurd hk_ h1_.2.2.2.1|exact absurd hk_ h1_.1|exact absurd hk_ h1_.1.1|exact absurd hk_ h1_.1.2|exact absurd hk_ h1_.1.2.1|exact absurd hk_ h1_.1.2.2|exact absurd hk_ h1_.1.2.2.1|exact absurd hk_ h1_.1.2.2.2|exact absurd hk_ h1_.1.2.2.2.1|exact absurd hk_ h1_.1.1|exact absurd hk_ h1_.1.1.1|exact absurd hk_ h1_.1.1.2|exact absurd hk_ h1_.1.1.2.1|exact absurd hk_ h1_.1.1.2.2|exact absurd hk_ h1_.1.1.2.2.1|exact absurd hk_ h1_.1.1.2.2.2|exact absurd hk_ h1_.1.1.2.2.2.1|exact absurd hk_ h1_.1.1.1|exact absurd hk_ h1_.1.1.1.1|exact absurd hk_ h1_.1.1.1.2|exact absurd hk_ h1_.1.1.1.2.1|exact absurd hk_ h1_.1.1.1.2.2|exact absurd hk_ h1_.1.1.1.2.2.1|exact absurd hk_ h1_.1.1.1.2.2.2|exact absurd hk_ h1_.1.1.1.2.2.2.1|exact absurd hk_ h1_.1.1.1.1|exact absurd hk_ h1_.1.1.1.1.1|exact absurd hk_ h1_.1.1.1.1.2|exact absurd hk_ h1_.1.1.1.1.2.1|exact absurd hk_ h1_.1.1.1.1.2.2|exact absurd hk_ h1_.1.1.1.1.2.2.1|exact absurd hk_ h1_.1.1.1.1.2.2.2|exact absurd hk_ h1_.1.1.1.1.2.2.2.1|exact absurd hk_ h1_.1.1.1.1.1|exact absurd hk_ h1_.1.1.1.1.1.1|exact absurd hk_ h1_.1.1.1.1.1.2|exact absurd hk_ h1_.1.1.1.1.1.2.1|exact absurd hk_ h1_.1.1.1.1.1.2.2|exact absurd hk_ h1_.1.1.1.1.1.2.2.1|exact absurd hk_ h1_.1.1.1.1.1.2.2.2|exact absurd hk_ h1_.1.1.1.1.1.2.2.2.1|exact absurd hk_ h1_.1.1.1.1.1.1|exact absurd hk_ h1_.1.1.1.1.1.1.1|exact absurd hk_ h1_.1.1.1.1.1.1.2|exact absurd hk_ h1_.1.1.1.1.1.1.2.1|exact absurd hk_ h1_.1.1.1.1.1.1.2.2|exact absurd hk_ h1_.1.1.1.1.1.1.2.2.1|exact absurd hk_ h1_.1.1.1.1.1.1.2.2.2|exact absurd hk_ h1_.1.1.1.1.1.1.2.2.2.1)) (fun k_ e_=>HO_5.out.1 k_ e_));have n1_:=Aside0.mk (Kd.R_reok (ok:=fun k_=>some k_≠(v307:Value).ownBlock) rfl (Kd.R_keptB (Kd.R_tight rfl HO_9.out) hkp (fun k_ hk_ hs_=>by have h1_:=hPO_ k_ hs_;first|exact absurd hk_ h1_.1|exact absurd hk_ h1_.2|exact absurd hk_ h1_.2.1|exact absurd hk_ h1_.2.2|exact absurd hk_ h1_.2.2.1|exact absurd hk_ h1_.2.2.2|exact absurd hk_ h1_.2.2.2.1|exact absurd hk_ h1_.1|exact absurd hk_ h1_.1.1|exact absurd hk_ h1_.1.2|exact absurd hk_ h1_.1.2.1|exact absurd hk_ h1_.1.2.2|exact absurd hk_ h1_.1.2.2.1|exact absurd hk_ h1_.1.2.2.2|exact absurd hk_ h1_.1.2.2.2.1|exact absurd hk_ h1_.1.1|exact absurd hk_ h1_.1.1.1|exact absurd hk_ h1_.1.1.2|exact absurd hk_ h1_.1.1.2.1|exact absurd hk_ h1_.1.1.2.2|exact absurd hk_ h1_.1.1.2.2.1|exact absurd hk_ h1_.1.1.2.2.2|exact absurd hk_ h1_.1.1.2.2.2.1|exact absurd hk_ h1_.1.1.1|exact absurd hk_ h1_.1.1.1.1|exact absurd hk_ h1_.1.1.1.2|exact absurd hk_ h1_.1.1.1.2.1|exact absurd hk_ h1_.1.1.1.2.2|exact absurd hk_ h1_.1.1.1.2.2.1|exact absurd hk_ h1_.1.1.1.2.2.2|exact absurd hk_ h1_.1.1.1.2.2.2.1|exact absurd hk_ h1_.1.1.1.1|exact absurd hk_ h1_.1.1.1.1.1|exact absurd hk_ h1_.1.1.1.1.2|exact absurd hk_ h1_.1.1.1.1.2.1|exact absurd hk_ h1_.1.1.1.1.2.2|exact absurd hk_ h1_.1.1.1.1.2.2.1|exact absurd hk_ h1_.1.1.1.1.2.2.2|exact absurd hk_ h1_.1.1.1.1.2.2.2.1|exact absurd hk_ h1_.1.1.1.1.1|exact absurd hk_ h1_.1.1.1.1.1.1|exact absurd hk_ h1_.1.1.1.1.1.2|exact absurd hk_ h1_.1.1.1.1.1.2.1|exact absurd hk_ h1_.1.1.1.1.1.2.2|exact absurd hk_ h1_.1.1.1.1.1.2.2.1|exact absurd hk_ h1_.1.1.1.1.1.2.2.2|exact absurd hk_ h1_.1.1.1.1.1.2.2.2.1|exact absurd hk_ h1_.1.1.1.1.1.1|exact absurd hk_ h1_.1.1.1.1.1.1.1|exact absurd hk_ h1_.1.1.1.1.1.1.2|exact absurd hk_ h1_.1.1.1.1.1.1.2.1|exact absurd hk_ h1_.1.1.1.1.1.1.2.2|exact absurd hk_ h1_.1.1.1.1.1.1.2.2.1|exact absurd hk_ h1_.1.1.1.1.1.1.2.2.2|exact absurd hk_ h1_.1.1.1.1.1.1.2.2.2.1)) (fun k_ e_=>HO_9.out.1 k_ e_));have n2_:=Aside0.mk (Kd.S_mono (ok':=fun k_=>some k_≠(v307:Value).ownBlock∧some k_≠(v323:Value).ownBlock∧k_ < N313_∧k_ < N319_) (Kd.S_keptB (HO_311001.out) hkp (fun k_ hk_ hs_=>by have h1_:=hPO_ k_ hs_;(try dsimp only at h1_ hk_);omega)) (fun k_ hk_=>⟨hk_.1.1,hk_.1.2.1,hk_.1.2.2.1,hk_.1.2.2.2⟩));have n3_:=Aside0.mk (Kd.S_mono (ok':=fun k_=>some k_≠(v307:Value).ownBlock∧some k_≠(v323:Value).ownBlock∧N313_≤k_∧k_ < N319_) (Kd.S_keptB (HO_317001.out) hkp (fun k_ hk_ hs_=>by have h1_:=hPO_ k_ hs_;(try dsimp only at h1_ hk_);omega)) (fun k_ hk_=>⟨hk_.1.1,hk_.1.2.1,hk_.1.2.2.1,hk_.1.2.2.2⟩));have n4_:=Aside0.mk (Kd.S_mono hy0 (fun k_ h_=>hPO_ k_ h_));have n5_:=Aside0.mk (blk_kept (bL BK294.out) hkp (hPB_ _ _ _ BK294.out (by decide)));have n6_:=Aside0.mk (blk_kept (bL BK310.out) hkp (hPB_ _ _ _ BK310.out (by decide)));have n7_:=Aside0.mk (blk_kept (bL BK316.out) hkp (hPB_ _ _ _ BK316.out (by decide)));have n8_:=Aside0.mk (blk_kept (bL BK326.out) hkp (hPB_ _ _ _ BK326.out (by decide)));have n9_:=Aside0.mk (hb);clear HO_5 HO_9 HO_311001 HO_317001 HO_327001 BK294 BK310 BK316 BK326 HB;have HO_5:=n0_;have HO_9:=n1_;have HO_311001:=n2_;have HO_317001:=n3_;have HO_327001:=n4_;have BK294:=n5_;have BK310:=n6_;have BK316:=n7_;have BK326:=n8_;have HB:=n9_;clear n0_ n1_ n2_ n3_ n4_ n5_ n6_ n7_ n8_ n9_;(try clear hb);(try clear hkp);(try clear hy0);obtain⟨Ao241,co241,eo241⟩:=Kd.R_slice HO_9.out;subst eo241)|((with_reducible refine gate_callee (f:=29) rfl ?_);refine goesA (some 84) rfl rfl Try.func29 #[.slice Ao241 t322.length co241,.int .i64 t339] rfl ?_;(with_reducible refine(laws_markIntS.calls kj73 (fun k_=>some k_=(.slice Ao241 t322.length co241:Value).ownBlock) (.slice Ao241 t322.length co241) t322 t339 t341 t342 w _ ?side1 ?side2 A119.out).mono ?_);(case side1=>repeat (first|(with_reducible first|exact HB.out|apply below_alloc|apply pw_below_drewN|apply below_drew1|refine below_set ?_ GE294.out|refine below_set ?_ GE310.out|refine below_set ?_ GE316.out|refine below_set ?_ GE326.out)|exact HB.out));(case side2=>exact Kd.R_tight rfl HO_9.out);rintro e w242 ⟨rfl,hy0,hb,hkp⟩;refine⟨_,rfl,?_⟩;have n0_:=Aside0.mk (Kd.R_mono (ok':=fun k_=>some k_≠(.slice Ao241 t322.length co241:Value).ownBlock) (Kd.R_keptB (HO_5.out) hkp (fun k_ hk_ hs_=>(hk_) hs_)) (fun k_ hk_=>hk_.1));have n1_:=Aside0.mk (Kd.R_reok rfl hy0 (fun k_ e_=>HO_9.out.1 k_ e_));have n2_:=Aside0.mk (Kd.S_mono (ok':=fun k_=>some k_≠(v307:Value).ownBlock∧some k_≠(.slice Ao241 t322.length co241:Value).ownBlock∧k_ < N313_∧k_ < N319_) (Kd.S_keptB (HO_311001.out) hkp (fun k_ hk_ hs_=>(hk_.2.1) hs_)) (fun k_ hk_=>⟨hk_.1.1,hk_.1.2.1,hk_.1.2.2.1,hk_.1.2.2.2⟩));have n3_:=Aside0.mk (Kd.S_mono (ok':=fun k_=>some k_≠(v307:Value).ownBlock∧some k_≠(.slice Ao241 t322.length co241:Value).ownBlock∧N313_≤k_∧k_ < N319_) (Kd.S_keptB (HO_317001.out) hkp (fun k_ hk_ hs_=>(hk_.2.1) hs_)) (fun k_ hk_=>⟨hk_.1.1,hk_.1.2.1,hk_.1.2.2.1,hk_.1.2.2.2⟩));have n4_:=Aside0.mk (Kd.S_mono (ok':=fun k_=>some k_≠(v307:Value).ownBlock∧some k_≠(.slice Ao241 t322.length co241:Value).ownBlock∧N319_≤k_∧N319_≤k_) (Kd.S_keptB (HO_327001.out) hkp (fun k_ hk_ hs_=>(hk_.2.1) hs_)) (fun k_ hk_=>⟨hk_.1.1,hk_.1.2.1,hk_.1.2.2.1,hk_.1.2.2.2⟩));have n5_:=Aside0.mk (blk_kept (bL BK294.out) hkp (fun hs_=>(fun e_=>(Kd.R_ne HO_9.out BK294.out (by decide)) e_) hs_));have n6_:=Aside0.mk (blk_kept (bL BK310.out) hkp (fun hs_=>(fun e_=>(Kd.R_ne HO_9.out BK310.out (by decide)) e_) hs_));have n7_:=Aside0.mk (blk_kept (bL BK316.out) hkp (fun hs_=>(fun e_=>(Kd.R_ne HO_9.out BK316.out (by decide)) e_) hs_));have n8_:=Aside0.mk (blk_kept (bL BK326.out) hkp (fun hs_=>(fun e_=>(Kd.R_ne HO_9.out BK326.out (by decide)) e_) hs_));have n9_:=Aside0.mk (hb);clear HO_5 HO_9 HO_311001 HO_317001 HO_327001 BK294 BK310 BK316 BK326 HB;have HO_5:=n0_;have HO_9:=n1_;have HO_311001:=n2_;have HO_317001:=n3_;have HO_327001:=n4_;have BK294:=n5_;have BK310:=n6_;have BK316:=n7_;have BK326:=n8_;have HB:=n9_;clear n0_ n1_ n2_ n3_ n4_ n5_ n6_ n7_ n8_ n9_;(try clear hb);(try clear hkp);(try clear hy0);obtain⟨hcz243_0,hcz243_1,hcz243_2⟩:=cC3 BK326.out;obtain⟨hfz243_0,hfz243_1,hfz243_2⟩:=cF3 BK326.out)|((with_reducible refine gate_callee (f:=21) rfl ?_);refine goesL_ (some 87) rfl rfl Try.func21 (by kernel_rfl) rfl #[.agg #[.int .i64 t317,.slice Ao36 t340.length co36,.int .i64 t321],.int .i64 1] rfl (by(try simp only[List.map_toArray,List.map_cons,List.map_nil]);first|done|(rw[show t340.length=t318.length from (Kd.S_reads' HO_327001.out).1.symm]<;>rfl)|rfl|(simp only[List.length_drop,List.length_take];rfl)) ?_;(with_reducible refine(laws_heldTurns.calls kj73 t317 _ _ t340 t321 1 t343 _ ?side1 ?side2 A120.out).mono ?_);(case side1=>repeat (first|exact(Kd.S_reads' HO_327001.out).2.2|(with_reducible refine Kd.C_alloc ?_ _)|(with_reducible refine Kd.C_drewN ?_ _)|(with_reducible refine Kd.C_drew ?_)));(case side2=>rw[show t340.length=t318.length from (Kd.S_reads' HO_327001.out).1.symm];exact(Kd.S_reads' HO_327001.out).2.1);rintro e w244 ⟨rfl,hb⟩;refine⟨_,rfl,?_⟩;have n0_:=Aside0.mk (Kd.R_below (bK HO_5.out) hb);have n1_:=Aside0.mk (Kd.R_below (bK HO_9.out) hb);have n2_:=Aside0.mk (Kd.S_below (by(with_reducible repeat (first|apply Kd.S_alloc|apply Kd.S_drewN|apply Kd.S_drew));exact HO_311001.out) hb);have n3_:=Aside0.mk (Kd.S_below (by(with_reducible repeat (first|apply Kd.S_alloc|apply Kd.S_drewN|apply Kd.S_drew));exact HO_317001.out) hb);have n4_:=Aside0.mk (Kd.S_below (by(with_reducible repeat (first|apply Kd.S_alloc|apply Kd.S_drewN|apply Kd.S_drew));exact HO_327001.out) hb);have n5_:=Aside0.mk (bM BK294.out hb);have n6_:=Aside0.mk (bM BK310.out hb);have n7_:=Aside0.mk (bM BK316.out hb);have n8_:=Aside0.mk (bM BK326.out hb);have n9_:=Aside0.mk (below_step (bS4 GE294.out GE310.out GE316.out GE326.out) hb);clear HO_5 HO_9 HO_311001 HO_317001 HO_327001 BK294 BK310 BK316 BK326 HB;have HO_5:=n0_;have HO_9:=n1_;have HO_311001:=n2_;have HO_317001:=n3_;have HO_327001:=n4_;have BK294:=n5_;have BK310:=n6_;have BK316:=n7_;have BK326:=n8_;have HB:=n9_;clear n0_ n1_ n2_ n3_ n4_ n5_ n6_ n7_ n8_ n9_;(try clear hb);(try clear hb2);(try clear hk);(try clear hi))|((with_reducible refine gate_callee (f:=30) rfl ?_);refine goesL_ (some 92) rfl rfl Try.func30 (by kernel_rfl) rfl #[.slice Ao241 t342.length co241,.int .i64 t343] rfl (by(try simp only[List.map_toArray,List.map_cons,List.map_nil]);first|done|(rw[show t342.length=t322.length from (Kd.R_reads' HO_9.out).1.symm]<;>rfl)|rfl|(simp only[List.length_drop,List.length_take];rfl)) ?_;(with_reducible refine(laws_heldIntS.calls kj73 _ _ t342 t343 t344 _ ?side1 ?side2 A131.out).mono ?_);(case side1=>exact bT HO_9.out);(case side2=>rw[show t342.length=t322.length from (Kd.R_reads' HO_9.out).1.symm];exact(Kd.R_reads' HO_9.out).2.1);rintro e w' ⟨rfl,⟨nd,rfl⟩⟩;refine⟨_,rfl,?_⟩))
            go_ret
            exact⟨bE,bS4 GE294.out GE310.out GE316.out GE326.out⟩
     ·replace c72:=Bool.eq_false_iff.mpr c72
      subst c72
      have H1:(some false)=some r:=by rw[if_neg (show ¬ (false=true) by decide)] at H;exact H
      clear H
      have H:=H1
      clear H1
      obtain rfl:=Option.some.inj H
      try go_wp2
      have n0_:=Aside0.mk (Kd.R_drew HO_5.out)
      have n1_:=Aside0.mk (Kd.R_drew HO_9.out)
      have n2_:=Aside0.mk (Kd.S_drew HO_311001.out)
      have n3_:=Aside0.mk (Kd.S_drew HO_317001.out)
      have n4_:=Aside0.mk (Kd.S_drew HO_327001.out)
      have n5_:=Aside0.mk (blk_drew BK294.out)
      have n6_:=Aside0.mk (blk_drew BK310.out)
      have n7_:=Aside0.mk (blk_drew BK316.out)
      have n8_:=Aside0.mk (blk_drew BK326.out)
      have n9_:=Aside0.mk (below_drew1 HB.out)
      clear HO_5 HO_9 HO_311001 HO_317001 HO_327001 BK294 BK310 BK316 BK326 HB
      have HO_5:=n0_
      have HO_9:=n1_
      have HO_311001:=n2_
      have HO_317001:=n3_
      have HO_327001:=n4_
      have BK294:=n5_
      have BK310:=n6_
      have BK316:=n7_
      have BK326:=n8_
      have HB:=n9_
      clear n0_ n1_ n2_ n3_ n4_ n5_ n6_ n7_ n8_ n9_
      refine start_ (n:=5) (S:=fun w'=>w'.cell? ⟨gb316,0,none⟩=some (.int .i64 t311)∧w'.cell? ⟨gb316,1,none⟩=some (.slice Ao29 t312.length co29)∧w'.cell? ⟨gb316,2,none⟩=some (.int .i64 t315)∧w'.cell? ⟨gb294,0,none⟩=some (.int .i64 a0_0)∧w'.cell? ⟨gb294,1,none⟩=some (.slice A0_1 l0_1.length c0_1)∧w'.cell? ⟨gb294,2,none⟩=some (.int .i64 a0_2)) (ds:=[]) #[false,false,false,false,false] (by kernel_rfl) rfl rfl ⟨(blk_cell BK316.out 0).trans rfl,(blk_cell BK316.out 1).trans rfl,(blk_cell BK316.out 2).trans rfl,(blk_cell BK294.out 0).trans rfl,(blk_cell BK294.out 1).trans rfl,(blk_cell BK294.out 2).trans rfl⟩ (fun hHeld => ?_)
      generalize wc.drew=w245 at HO_5 HO_9 HO_311001 HO_317001 HO_327001 BK294 BK310 BK316 BK326 HB hHeld ⊢
      refine take_ (i:=0) (N:=some 52) (v:=?_) (a':=?_) #[true,false,false,false,false] rfl rfl (by kernel_rfl) (fun _ _ _ h=>h) (Or.inl ⟨by rfl,?_⟩) hHeld ?_ ?_
      rotate_left
      ·rintro w' ⟨s0,s1,s2,s3,s4,s5⟩
       go_simp
       with_reducible rfl
      rotate_left
      ·simp only[Act.put,List.setIfInBounds_toArray,List.set_cons_zero,List.set_cons_succ,i64_w,i32_w]
       rfl
      refine take_ (i:=1) (N:=some 53) (v:=?_) (a':=?_) #[true,true,false,false,false] rfl rfl (by kernel_rfl) (fun _ _ _ h=>h) (Or.inl ⟨by rfl,?_⟩) hHeld ?_ ?_
      rotate_left
      ·rintro w' ⟨s0,s1,s2,s3,s4,s5⟩
       go_simp
       with_reducible rfl
      rotate_left
      ·simp only[Act.put,List.setIfInBounds_toArray,List.set_cons_zero,List.set_cons_succ,i64_w,i32_w]
       rfl
      refine one_ (i:=2) (N:=some 54) #[true,true,true,false,false] rfl rfl (by kernel_rfl) (by decide) (fun K hK => ?_)
      refine goes_ Try.func17 (by kernel_rfl) rfl #[.agg #[.int .i64 a0_0,.slice A0_1 l0_1.length c0_1,.int .i64 a0_2]] (by rfl) rfl rfl (by(try simp only[List.map_toArray,List.map_cons,List.map_nil]);first|done|rfl|(simp only[List.length_drop,List.length_take];rfl)) ?_
      with_reducible refine(laws_toTurns.calls kj10 a0_0 _ _ l0_1 a0_2 t329 t330 t333 _ ?side1 ?side2 A70.out).mono ?_
      (case side1=>exact bC HR0_1.out)
      (case side2=>exact HC0_1.out)
      rintro e w246 ⟨v331,rfl,ho0,hb⟩
      refine⟨_,rfl,?_⟩
      obtain⟨N331_,hN_⟩:=sizeof_ hb
      have n0_:=Aside0.mk (Kd.R_below (bK HO_5.out) hb)
      have n1_:=Aside0.mk (Kd.R_below (bK HO_9.out) hb)
      have n2_:=Aside0.mk (S_oldN (by(with_reducible repeat (first|apply Kd.S_alloc|apply Kd.S_drewN|apply Kd.S_drew));exact HO_311001.out) hb hN_)
      have n3_:=Aside0.mk (S_oldN (by(with_reducible repeat (first|apply Kd.S_alloc|apply Kd.S_drewN|apply Kd.S_drew));exact HO_317001.out) hb hN_)
      have n4_:=Aside0.mk (S_oldN (by(with_reducible repeat (first|apply Kd.S_alloc|apply Kd.S_drewN|apply Kd.S_drew));exact HO_327001.out) hb hN_)
      have n5_:=Aside0.mk (Kd.S_lower (S_newN (S_newN (S_newN (Kd.S_new' (Kd.S_new' ho0 (Kd.R_lt (bK HO_5.out))) (Kd.R_lt (bK HO_9.out))) hN_) hN_) hN_) (below_size (bS4 GE294.out GE310.out GE316.out GE326.out)))
      have n6_:=Aside0.mk (bM BK294.out hb)
      have n7_:=Aside0.mk (bM BK310.out hb)
      have n8_:=Aside0.mk (bM BK316.out hb)
      have n9_:=Aside0.mk (bM BK326.out hb)
      have n10_:=Aside0.mk (below_step (bS4 GE294.out GE310.out GE316.out GE326.out) hb)
      clear HO_5 HO_9 HO_311001 HO_317001 HO_327001 BK294 BK310 BK316 BK326 HB
      have HO_5:=n0_
      have HO_9:=n1_
      have HO_311001:=n2_
      have HO_317001:=n3_
      have HO_327001:=n4_
      have HO332:=n5_
      have BK294:=n6_
      have BK310:=n7_
      have BK316:=n8_
      have BK326:=n9_
      have HB:=n10_
      clear n0_ n1_ n2_ n3_ n4_ n5_ n6_ n7_ n8_ n9_ n10_
      (try clear hb)
      (try clear hb2)
      (try clear hk)
      (try clear hi)
      (try clear ho0)
      obtain⟨Ao247,co247,eo247⟩:=Kd.S_slice HO332.out
      (first|subst eo247|(injection eo247 with f1_ f2_ f3_;have f4_:=f1_.symm;have f5_:=f3_.symm;clear f1_ f2_ f3_;subst f4_;subst f5_))
      refine hK.out _ _ ⟨(blk_cell BK316.out 0).trans rfl,(blk_cell BK316.out 1).trans rfl,(blk_cell BK316.out 2).trans rfl,(blk_cell BK294.out 0).trans rfl,(blk_cell BK294.out 1).trans rfl,(blk_cell BK294.out 2).trans rfl⟩ (fun hHeld => ?_)
      clear hK K
      refine norm_ (a':=?_) ?_ ?_
      rotate_left
      ·show Act.put _ (some 54) _=_
       simp only[Act.put,List.setIfInBounds_toArray,List.set_cons_zero,List.set_cons_succ,i64_w,i32_w]
       rfl
      refine one_ (i:=3) (N:=some 55) #[true,true,true,true,false] rfl rfl (by kernel_rfl) (by decide) (fun K hK => ?_)
      refine goes_ Try.func19 (by kernel_rfl) rfl #[.agg #[.int .i64 t311,.slice Ao29 t312.length co29,.int .i64 t315],.agg #[.int .i64 t329,.slice Ao247 t330.length co247,.int .i64 t333]] (by rfl) rfl rfl (by(try simp only[List.map_toArray,List.map_cons,List.map_nil]);first|done|rfl|(simp only[List.length_drop,List.length_take];rfl)) ?_
      with_reducible refine(laws_eqTurns.calls kj10 t311 _ _ t312 t315 t329 _ _ t330 t333 false _ ?side1 ?side2 ?side3 ?side4 A71.out).mono ?_
      (case side1=>repeat (first|exact(Kd.S_reads' HO_317001.out).2.2|(with_reducible refine Kd.C_alloc ?_ _)|(with_reducible refine Kd.C_drewN ?_ _)|(with_reducible refine Kd.C_drew ?_)))
      (case side2=>exact(Kd.S_reads' HO_317001.out).2.1)
      (case side3=>repeat (first|exact(Kd.S_reads' HO332.out).2.2|(with_reducible refine Kd.C_alloc ?_ _)|(with_reducible refine Kd.C_drewN ?_ _)|(with_reducible refine Kd.C_drew ?_)))
      (case side4=>exact(Kd.S_reads' HO332.out).2.1)
      rintro e w248 ⟨rfl,hb⟩
      refine⟨_,rfl,?_⟩
      have n0_:=Aside0.mk (Kd.R_below (bK HO_5.out) hb)
      have n1_:=Aside0.mk (Kd.R_below (bK HO_9.out) hb)
      have n2_:=Aside0.mk (Kd.S_below (by(with_reducible repeat (first|apply Kd.S_alloc|apply Kd.S_drewN|apply Kd.S_drew));exact HO_311001.out) hb)
      have n3_:=Aside0.mk (Kd.S_below (by(with_reducible repeat (first|apply Kd.S_alloc|apply Kd.S_drewN|apply Kd.S_drew));exact HO_317001.out) hb)
      have n4_:=Aside0.mk (Kd.S_below (by(with_reducible repeat (first|apply Kd.S_alloc|apply Kd.S_drewN|apply Kd.S_drew));exact HO_327001.out) hb)
      have n5_:=Aside0.mk (Kd.S_below (by(with_reducible repeat (first|apply Kd.S_alloc|apply Kd.S_drewN|apply Kd.S_drew));exact HO332.out) hb)
      have n6_:=Aside0.mk (bM BK294.out hb)
      have n7_:=Aside0.mk (bM BK310.out hb)
      have n8_:=Aside0.mk (bM BK316.out hb)
      have n9_:=Aside0.mk (bM BK326.out hb)
      have n10_:=Aside0.mk (below_step (bS4 GE294.out GE310.out GE316.out GE326.out) hb)
      clear HO_5 HO_9 HO_311001 HO_317001 HO_327001 HO332 BK294 BK310 BK316 BK326 HB
      have HO_5:=n0_
      have HO_9:=n1_
      have HO_311001:=n2_
      have HO_317001:=n3_
      have HO_327001:=n4_
      have HO332:=n5_
      have BK294:=n6_
      have BK310:=n7_
      have BK316:=n8_
      have BK326:=n9_
      have HB:=n10_
      clear n0_ n1_ n2_ n3_ n4_ n5_ n6_ n7_ n8_ n9_ n10_
      (try clear hb)
      (try clear hb2)
      (try clear hk)
      (try clear hi)
      refine hK.out _ _ ⟨(blk_cell BK316.out 0).trans rfl,(blk_cell BK316.out 1).trans rfl,(blk_cell BK316.out 2).trans rfl,(blk_cell BK294.out 0).trans rfl,(blk_cell BK294.out 1).trans rfl,(blk_cell BK294.out 2).trans rfl⟩ (fun hHeld => ?_)
      clear hK K
      refine norm_ (a':=?_) ?_ ?_
      rotate_left
      ·show Act.put _ (some 55) _=_
       simp only[Act.put,List.setIfInBounds_toArray,List.set_cons_zero,List.set_cons_succ,i64_w,i32_w]
       rfl
      refine pure_ (i:=4) (N:=some 56) (v:=?_) (a':=?_) #[true,true,true,true,true] rfl rfl (by kernel_rfl) (fun _ _ _ h=>h) (Or.inl ⟨by rfl,?_⟩) ?_ ?_
      rotate_left
      ·intro w'
       go_simp
       with_reducible rfl
      rotate_left
      ·simp only[Act.put,List.setIfInBounds_toArray,List.set_cons_zero,List.set_cons_succ,i64_w,i32_w]
       rfl
      refine done_ (by kernel_rfl) ?_
      try go_wp2
      go_ret
      exact⟨bE,bS4 GE294.out GE310.out GE316.out GE326.out⟩

end Go.Proofs.Yteneeohaoplpbaa.XFnExactNextRound
