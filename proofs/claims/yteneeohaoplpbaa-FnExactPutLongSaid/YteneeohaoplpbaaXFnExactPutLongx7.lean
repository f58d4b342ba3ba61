-- Written by this session's own program (wip/xprint.py) out of the translation; Lean checks it.
import Derived.Test.YteneeohaoplpbaaXFnExactPutLongx0
import Derived.Test.YteneeohaoplpbaaXFnExactPutLongx1
import Derived.Test.YteneeohaoplpbaaXFnExactPutLongx2
import Derived.Test.YteneeohaoplpbaaXFnExactPutLongx4
import Derived.Test.YteneeohaoplpbaaXFnExactPutLongx5
import Derived.Test.YteneeohaoplpbaaXFnExactPutLongx6
namespace Go.Proofs.Yteneeohaoplpbaa.XFnExactPutLong
open Go.RowKit Go.Proofs.YteneeohaoplpbaaW.PrintWords Go.Proofs.YteneeohaoplpbaaW.PrintLast Go.Proofs.YteneeohaoplpbaaW.PrintMore
attribute [local go_sem] max2_int min2_int max_two min_two max_three min_three max_four min_four   -- for this text's walks alone
set_option linter.unusedVariables false
set_option linter.unusedSimpArgs false

/-! ### laws_FnExactPutLong: function 3 -/
mutual
def laws_FnExactPutLong.j0:Nat→Int→Int→Bool→Bool→Bool→Int→List (S167)→Int→Int→List (S116)→Int→Int→List (S116)→Int→Int→List (S116)→Int→Option (Bool)
 | 0,_,_,_,_,_,_,_,_,_,_,_,_,_,_,_,_,_=>none
 | k+1,x1,x2,x9,x12,x48,x238000,x238001,x238002,x251000,x251001,x251002,x257000,x257001,x257002,x264000,x264001,x264002=>if x48=true then (some false) else ((laws_toTurns.f k x238000 x238001 x238002).bind fun bt265=>((laws_eqTurns.f k x257000 x257001 x257002 bt265.1 bt265.2.1 bt265.2.2).bind fun t270=>(if t270=true then ((laws_markTurns.f k x257000 x257001 x257002 1).bind fun bt271=>(if bt271.1 < 0 then (laws_FnExactPutLong.j1 k x1 x2 x9 true x238000 x238001 x238002 x251000 x251001 x251002 x264000 x264001 x264002) else ((laws_eqTurns.f k x264000 x264001 x264002 x251000 x251001 x251002).bind fun t273=>(if t273=true then (laws_FnExactPutLong.j1 k x1 x2 x9 (x12 != x9) x238000 x238001 x238002 x251000 x251001 x251002 x264000 x264001 x264002) else (laws_FnExactPutLong.j1 k x1 x2 x9 true x238000 x238001 x238002 x251000 x251001 x251002 x264000 x264001 x264002))))) else (some false))))
def laws_FnExactPutLong.j1:Nat→Int→Int→Bool→Bool→Int→List (S167)→Int→Int→List (S116)→Int→Int→List (S116)→Int→Option (Bool)
 | 0,_,_,_,_,_,_,_,_,_,_,_,_,_=>none
 | k+1,x1,x2,x9,x69,x238000,x238001,x238002,x251000,x251001,x251002,x264000,x264001,x264002=>if x69=true then (some false) else ((laws_markTurns.f k x264000 x264001 x264002 1).bind fun bt274=>((laws_heldTurns.f k x264000 bt274.2 x264002 1).bind fun t276=>(if t276 < 0 then (some false) else (if t276=bt274.1 then ((laws_toTurns.f k x238000 x238001 x238002).bind fun bt277=>((impl_PutLong.f k bt277.1 bt277.2.1 bt277.2.2 x1 x2).bind fun bt282=>((laws_eqTurns.f k bt282.1 bt282.2.1 bt282.2.2.1 x251000 x251001 x251002).bind fun t289=>(if t289=true then (laws_FnExactPutLong.j2 k bt274.1 (bt282.2.2.2 != x9) x264000 bt274.2 x264002) else (laws_FnExactPutLong.j2 k bt274.1 true x264000 bt274.2 x264002))))) else (some false)))))
def laws_FnExactPutLong.j2:Nat→Int→Bool→Int→List (S116)→Int→Option (Bool)
 | 0,_,_,_,_,_=>none
 | k+1,x14,x97,x264000,x264001,x264002=>if x97=true then (some false) else ((laws_heldTurns.f k x264000 x264001 x264002 1).bind fun t290=>(if t290 < 0 then (some false) else (if t290=x14 then (some true) else (some false))))
end
def laws_FnExactPutLong.f (k:Nat) (a0_0:Int) (l0_1:List (S167)) (a0_2:Int) (a1:Int) (a2:Int):Option (Bool):=(laws_szTurns.f k a0_0 l0_1 a0_2 1048576).bind fun t238=>(if t238 < 0 then (some true) else ((laws_toTurns.f k a0_0 l0_1 a0_2).bind fun bt239=>((spec_PutLong.f k bt239.1 bt239.2.1 bt239.2.2 a1 a2).bind fun bt244=>((laws_toTurns.f k a0_0 l0_1 a0_2).bind fun bt251=>((impl_PutLong.f k bt251.1 bt251.2.1 bt251.2.2 a1 a2).bind fun bt257=>((laws_eqTurns.f k bt257.1 bt257.2.1 bt257.2.2.1 bt244.1 bt244.2.1 bt244.2.2.1).bind fun t264=>(if t264=true then (laws_FnExactPutLong.j0 k a1 a2 bt244.2.2.2 bt257.2.2.2 (bt257.2.2.2 != bt244.2.2.2) a0_0 l0_1 a0_2 bt244.1 bt244.2.1 bt244.2.2.1 bt251.1 bt251.2.1 bt251.2.2 bt257.1 bt257.2.1 bt257.2.2.1) else (laws_FnExactPutLong.j0 k a1 a2 bt244.2.2.2 bt257.2.2.2 true a0_0 l0_1 a0_2 bt244.1 bt244.2.1 bt244.2.2.1 bt251.1 bt251.2.1 bt251.2.2 bt257.1 bt257.2.1 bt257.2.2.1))))))))
theorem laws_FnExactPutLong.mono_l : ∀ k,(∀ y0 y1 y2 y3 y4 y5 y6 y7 y8 y9 y10 y11 y12 y13 y14 y15 y16,LeO (laws_FnExactPutLong.j0 k y0 y1 y2 y3 y4 y5 y6 y7 y8 y9 y10 y11 y12 y13 y14 y15 y16) (laws_FnExactPutLong.j0 (k+1) y0 y1 y2 y3 y4 y5 y6 y7 y8 y9 y10 y11 y12 y13 y14 y15 y16))∧(∀ y0 y1 y2 y3 y4 y5 y6 y7 y8 y9 y10 y11 y12,LeO (laws_FnExactPutLong.j1 k y0 y1 y2 y3 y4 y5 y6 y7 y8 y9 y10 y11 y12) (laws_FnExactPutLong.j1 (k+1) y0 y1 y2 y3 y4 y5 y6 y7 y8 y9 y10 y11 y12))∧(∀ y0 y1 y2 y3 y4,LeO (laws_FnExactPutLong.j2 k y0 y1 y2 y3 y4) (laws_FnExactPutLong.j2 (k+1) y0 y1 y2 y3 y4))
 | 0=>⟨fun _ _ _ _ _ _ _ _ _ _ _ _ _ _ _ _ _ r h=>by simp[laws_FnExactPutLong.j0] at h,fun _ _ _ _ _ _ _ _ _ _ _ _ _ r h=>by simp[laws_FnExactPutLong.j1] at h,fun _ _ _ _ _ r h=>by simp[laws_FnExactPutLong.j2] at h⟩
 | k+1=>by
  obtain⟨ih0,ih1,ih2⟩:=laws_FnExactPutLong.mono_l k
  refine⟨?_,?_,?_⟩
  ·intro y0 y1 y2 y3 y4 y5 y6 y7 y8 y9 y10 y11 y12 y13 y14 y15 y16
   unfold laws_FnExactPutLong.j0
   repeat' first
   | (with_reducible exact ih0 _ _ _ _ _ _ _ _ _ _ _ _ _ _ _ _ _)
   | (with_reducible exact ih1 _ _ _ _ _ _ _ _ _ _ _ _ _)
   | (with_reducible exact ih2 _ _ _ _ _)
   | (with_reducible exact impl_PutLong.mono _ _ _ _ _ _)
   | (with_reducible exact laws_eqTurns.mono _ _ _ _ _ _ _)
   | (with_reducible exact laws_heldTurns.mono _ _ _ _ _)
   | (with_reducible exact laws_markTurns.mono _ _ _ _ _)
   | (with_reducible exact laws_szTurns.mono _ _ _ _ _)
   | (with_reducible exact laws_toTurns.mono _ _ _ _)
   | (with_reducible exact spec_PutLong.mono _ _ _ _ _ _)
   | (with_reducible exact LeO.refl _)
   | (with_reducible exact LeO.none _)
   | (with_reducible refine LeO.ite ?_ ?_)
   | (with_reducible refine LeO.bind ?_ (fun _ => ?_))
   | exact ih0 _ _ _ _ _ _ _ _ _ _ _ _ _ _ _ _ _
   | exact ih1 _ _ _ _ _ _ _ _ _ _ _ _ _
   | exact ih2 _ _ _ _ _
   | exact impl_PutLong.mono _ _ _ _ _ _
   | exact laws_eqTurns.mono _ _ _ _ _ _ _
   | exact laws_heldTurns.mono _ _ _ _ _
   | exact laws_markTurns.mono _ _ _ _ _
   | exact laws_szTurns.mono _ _ _ _ _
   | exact laws_toTurns.mono _ _ _ _
   | exact spec_PutLong.mono _ _ _ _ _ _
   | exact LeO.none _
   | refine LeO.ite ?_ ?_
   | refine LeO.bind ?_ (fun _ => ?_)
  ·intro y0 y1 y2 y3 y4 y5 y6 y7 y8 y9 y10 y11 y12
   unfold laws_FnExactPutLong.j1
   repeat' first
   | (with_reducible exact ih0 _ _ _ _ _ _ _ _ _ _ _ _ _ _ _ _ _)
   | (with_reducible exact ih1 _ _ _ _ _ _ _ _ _ _ _ _ _)
   | (with_reducible exact ih2 _ _ _ _ _)
   | (with_reducible exact impl_PutLong.mono _ _ _ _ _ _)
   | (with_reducible exact laws_eqTurns.mono _ _ _ _ _ _ _)
   | (with_reducible exact laws_heldTurns.mono _ _ _ _ _)
   | (with_reducible exact laws_markTurns.mono _ _ _ _ _)
   | (with_reducible exact laws_szTurns.mono _ _ _ _ _)
   | (with_reducible exact laws_toTurns.mono _ _ _ _)
   | (with_reducible exact spec_PutLong.mono _ _ _ _ _ _)
   | (with_reducible exact LeO.refl _)
   | (with_reducible exact LeO.none _)
   | (with_reducible refine LeO.ite ?_ ?_)
   | (with_reducible refine LeO.bind ?_ (fun _ => ?_))
   | exact ih0 _ _ _ _ _ _ _ _ _ _ _ _ _ _ _ _ _
   | exact ih1 _ _ _ _ _ _ _ _ _ _ _ _ _
   | exact ih2 _ _ _ _ _
   | exact impl_PutLong.mono _ _ _ _ _ _
   | exact laws_eqTurns.mono _ _ _ _ _ _ _
   | exact laws_heldTurns.mono _ _ _ _ _
   | exact laws_markTurns.mono _ _ _ _ _
   | exact laws_szTurns.mono _ _ _ _ _
   | exact laws_toTurns.mono _ _ _ _
   | exact spec_PutLong.mono _ _ _ _ _ _
   | exact LeO.none _
   | refine LeO.ite ?_ ?_
   | refine LeO.bind ?_ (fun _ => ?_)
  ·intro y0 y1 y2 y3 y4
   unfold laws_FnExactPutLong.j2
   repeat' first
   | (with_reducible exact ih0 _ _ _ _ _ _ _ _ _ _ _ _ _ _ _ _ _)
   | (with_reducible exact ih1 _ _ _ _ _ _ _ _ _ _ _ _ _)
   | (with_reducible exact ih2 _ _ _ _ _)
   | (with_reducible exact impl_PutLong.mono _ _ _ _ _ _)
   | (with_reducible exact laws_eqTurns.mono _ _ _ _ _ _ _)
   | (with_reducible exact laws_heldTurns.mono _ _ _ _ _)
   | (with_reducible exact laws_markTurns.mono _ _ _ _ _)
   | (with_reducible exact laws_szTurns.mono _ _ _ _ _)
   | (with_reducible exact laws_toTurns.mono _ _ _ _)
   | (with_reducible exact spec_PutLong.mono _ _ _ _ _ _)
   | (with_reducible exact LeO.refl _)
   | (with_reducible exact LeO.none _)
   | (with_reducible refine LeO.ite ?_ ?_)
   | (with_reducible refine LeO.bind ?_ (fun _ => ?_))
   | exact ih0 _ _ _ _ _ _ _ _ _ _ _ _ _ _ _ _ _
   | exact ih1 _ _ _ _ _ _ _ _ _ _ _ _ _
   | exact ih2 _ _ _ _ _
   | exact impl_PutLong.mono _ _ _ _ _ _
   | exact laws_eqTurns.mono _ _ _ _ _ _ _
   | exact laws_heldTurns.mono _ _ _ _ _
   | exact laws_markTurns.mono _ _ _ _ _
   | exact laws_szTurns.mono _ _ _ _ _
   | exact laws_toTurns.mono _ _ _ _
   | exact spec_PutLong.mono _ _ _ _ _ _
   | exact LeO.none _
   | refine LeO.ite ?_ ?_
   | refine LeO.bind ?_ (fun _ => ?_)
theorem laws_FnExactPutLong.mono : ∀ a0 a1 a2 a3 a4 k,LeO (laws_FnExactPutLong.f k a0 a1 a2 a3 a4) (laws_FnExactPutLong.f (k+1) a0 a1 a2 a3 a4):=by
 intro a0 a1 a2 a3 a4 k
 obtain⟨ih0,ih1,ih2⟩:=laws_FnExactPutLong.mono_l k
 unfold laws_FnExactPutLong.f
 repeat' first
  | (with_reducible exact ih0 _ _ _ _ _ _ _ _ _ _ _ _ _ _ _ _ _)
  | (with_reducible exact ih1 _ _ _ _ _ _ _ _ _ _ _ _ _)
  | (with_reducible exact ih2 _ _ _ _ _)
  | (with_reducible exact impl_PutLong.mono _ _ _ _ _ _)
  | (with_reducible exact laws_eqTurns.mono _ _ _ _ _ _ _)
  | (with_reducible exact laws_heldTurns.mono _ _ _ _ _)
  | (with_reducible exact laws_markTurns.mono _ _ _ _ _)
  | (with_reducible exact laws_szTurns.mono _ _ _ _ _)
  | (with_reducible exact laws_toTurns.mono _ _ _ _)
  | (with_reducible exact spec_PutLong.mono _ _ _ _ _ _)
  | (with_reducible exact LeO.refl _)
  | (with_reducible exact LeO.none _)
  | (with_reducible refine LeO.ite ?_ ?_)
  | (with_reducible refine LeO.bind ?_ (fun _ => ?_))
  | exact ih0 _ _ _ _ _ _ _ _ _ _ _ _ _ _ _ _ _
  | exact ih1 _ _ _ _ _ _ _ _ _ _ _ _ _
  | exact ih2 _ _ _ _ _
  | exact impl_PutLong.mono _ _ _ _ _ _
  | exact laws_eqTurns.mono _ _ _ _ _ _ _
  | exact laws_heldTurns.mono _ _ _ _ _
  | exact laws_markTurns.mono _ _ _ _ _
  | exact laws_szTurns.mono _ _ _ _ _
  | exact laws_toTurns.mono _ _ _ _
  | exact spec_PutLong.mono _ _ _ _ _ _
  | exact LeO.none _
  | refine LeO.ite ?_ ?_
  | refine LeO.bind ?_ (fun _ => ?_)
set_option maxHeartbeats 8000000 in
set_option maxRecDepth 100000 in
theorem laws_FnExactPutLong.calls (k:Nat) (a0_0:Int) (A0_1:Option Addr) (c0_1:Nat) (l0_1:List (S167)) (a0_2:Int) (a1:Int) (a2:Int) (r:Bool) (w:World) (hr0_1:Kd.C k167 w A0_1 l0_1.length l0_1) (hc0_1:l0_1.length≤c0_1) (h:laws_FnExactPutLong.f k a0_0 l0_1 a0_2 a1 a2=some r) :
  Calls Try.prog 3 #[.agg #[.int .i64 a0_0,.slice A0_1 l0_1.length c0_1,.int .i64 a0_2],.int .i64 a1,.int .i64 a2] w fun e w'=>e=.returned (.bool r)∧Below w.heap.size w w':=by
 have hu24:=Try.underlying24
 have hu28:=Try.underlying28
 have HR0_1:=Aside0.mk hr0_1
 have HC0_1:=Aside0.mk hc0_1
 clear hr0_1 hc0_1
 have HB:=Aside0.mk (Below.refl w.heap.size w)
 have H:((laws_szTurns.f k a0_0 l0_1 a0_2 1048576).bind fun t238=>(if t238 < 0 then (some true) else ((laws_toTurns.f k a0_0 l0_1 a0_2).bind fun bt239=>((spec_PutLong.f k bt239.1 bt239.2.1 bt239.2.2 a1 a2).bind fun bt244=>((laws_toTurns.f k a0_0 l0_1 a0_2).bind fun bt251=>((impl_PutLong.f k bt251.1 bt251.2.1 bt251.2.2 a1 a2).bind fun bt257=>((laws_eqTurns.f k bt257.1 bt257.2.1 bt257.2.2.1 bt244.1 bt244.2.1 bt244.2.2.1).bind fun t264=>(if t264=true then (laws_FnExactPutLong.j0 k a1 a2 bt244.2.2.2 bt257.2.2.2 (bt257.2.2.2 != bt244.2.2.2) a0_0 l0_1 a0_2 bt244.1 bt244.2.1 bt244.2.2.1 bt251.1 bt251.2.1 bt251.2.2 bt257.1 bt257.2.1 bt257.2.2.1) else (laws_FnExactPutLong.j0 k a1 a2 bt244.2.2.2 bt257.2.2.2 true a0_0 l0_1 a0_2 bt244.1 bt244.2.1 bt244.2.2.1 bt251.1 bt251.2.1 bt251.2.2 bt257.1 bt257.2.1 bt257.2.2.1)))))))))=some r:=h
 clear h
 replace H:=Option.bind_eq_some_iff.mp H
 obtain⟨t238,A40,H⟩:=H
 replace H:(if t238 < 0 then (some true) else ((laws_toTurns.f k a0_0 l0_1 a0_2).bind fun bt239=>((spec_PutLong.f k bt239.1 bt239.2.1 bt239.2.2 a1 a2).bind fun bt244=>((laws_toTurns.f k a0_0 l0_1 a0_2).bind fun bt251=>((impl_PutLong.f k bt251.1 bt251.2.1 bt251.2.2 a1 a2).bind fun bt257=>((laws_eqTurns.f k bt257.1 bt257.2.1 bt257.2.2.1 bt244.1 bt244.2.1 bt244.2.2.1).bind fun t264=>(if t264=true then (laws_FnExactPutLong.j0 k a1 a2 bt244.2.2.2 bt257.2.2.2 (bt257.2.2.2 != bt244.2.2.2) a0_0 l0_1 a0_2 bt244.1 bt244.2.1 bt244.2.2.1 bt251.1 bt251.2.1 bt251.2.2 bt257.1 bt257.2.1 bt257.2.2.1) else (laws_FnExactPutLong.j0 k a1 a2 bt244.2.2.2 bt257.2.2.2 true a0_0 l0_1 a0_2 bt244.1 bt244.2.1 bt244.2.2.1 bt251.1 bt251.2.1 bt251.2.2 bt257.1 bt257.2.1 bt257.2.2.1))))))))=some r:=H
 have A4:=Aside0.mk A40
 clear A40
 by_cases c5:t238 < 0
 ·rw[if_pos c5] at H
  have c5b0:decide (t238 < 0)=true:=decide_eq_true c5
  clear c5
  obtain rfl:=Option.some.inj H
  go_enter Try.func3,Try.ntmps3
  go_wp2_with (first|((with_reducible refine gate_dst (N:=3) rfl ?_);refine box_event ?hg (N:=3) ?hd (cs:=#[.int .i64 a0_0,.slice A0_1 l0_1.length c0_1,.int .i64 a0_2]) (t:=24) ?hr ?_;(case hd=>rfl);(case hg=>rfl);(case hr=>first|(go_simp;done)|(go_simp;rfl));intro gb237 hg w6 hbox hb;have n0_:=Aside0.mk (below_step (bB) hb);have n1_:=Aside0.mk (hbox);have n2_:=Aside0.mk ((bG:w.heap.size≤gb237));have n3_:=Aside0.mk ((bG:w.heap.size≤gb237));clear HB;have HB:=n0_;have BK237:=n1_;have GW237:=n2_;have GE237:=n3_;clear n0_ n1_ n2_ n3_;clear hb hbox hg;obtain⟨hcz7_0,hcz7_1,hcz7_2⟩:=cC3 BK237.out;obtain⟨hfz7_0,hfz7_1,hfz7_2⟩:=cF3 BK237.out)|((with_reducible refine gate_callee (f:=15) rfl ?_);refine goesA (some 20) rfl rfl Try.func15 #[.agg #[.int .i64 a0_0,.slice A0_1 l0_1.length c0_1,.int .i64 a0_2],.int .i64 1048576] rfl ?_;(with_reducible refine(laws_szTurns.calls k a0_0 _ _ l0_1 a0_2 1048576 t238 _ ?side1 ?side2 A4.out).mono ?_);(case side1=>exact bC HR0_1.out);(case side2=>exact HC0_1.out);rintro e w8 ⟨rfl,hb⟩;refine⟨_,rfl,?_⟩;have n0_:=Aside0.mk (bM BK237.out hb);have n1_:=Aside0.mk (below_step (bS GE237.out) hb);clear BK237 HB;have BK237:=n0_;have HB:=n1_;clear n0_ n1_;(try clear hb);(try clear hb2);(try clear hk);(try clear hi)))
  go_ret
  exact⟨bE,bS GE237.out⟩
 ·rw[if_neg c5] at H
  have c5b0:decide (t238 < 0)=false:=decide_eq_false c5
  clear c5
  replace H:=Option.bind_eq_some_iff.mp H
  obtain⟨⟨t239,t240,t243⟩,A90,H⟩:=H
  replace H:((spec_PutLong.f k t239 t240 t243 a1 a2).bind fun bt244=>((laws_toTurns.f k a0_0 l0_1 a0_2).bind fun bt251=>((impl_PutLong.f k bt251.1 bt251.2.1 bt251.2.2 a1 a2).bind fun bt257=>((laws_eqTurns.f k bt257.1 bt257.2.1 bt257.2.2.1 bt244.1 bt244.2.1 bt244.2.2.1).bind fun t264=>(if t264=true then (laws_FnExactPutLong.j0 k a1 a2 bt244.2.2.2 bt257.2.2.2 (bt257.2.2.2 != bt244.2.2.2) a0_0 l0_1 a0_2 bt244.1 bt244.2.1 bt244.2.2.1 bt251.1 bt251.2.1 bt251.2.2 bt257.1 bt257.2.1 bt257.2.2.1) else (laws_FnExactPutLong.j0 k a1 a2 bt244.2.2.2 bt257.2.2.2 true a0_0 l0_1 a0_2 bt244.1 bt244.2.1 bt244.2.2.1 bt251.1 bt251.2.1 bt251.2.2 bt257.1 bt257.2.1 bt257.2.2.1))))))=some r:=H
  have A9:=Aside0.mk A90
  clear A90
  replace H:=Option.bind_eq_some_iff.mp H
  obtain⟨⟨t244,t245,t248,t249⟩,A100,H⟩:=H
  replace H:((laws_toTurns.f k a0_0 l0_1 a0_2).bind fun bt251=>((impl_PutLong.f k bt251.1 bt251.2.1 bt251.2.2 a1 a2).bind fun bt257=>((laws_eqTurns.f k bt257.1 bt257.2.1 bt257.2.2.1 t244 t245 t248).bind fun t264=>(if t264=true then (laws_FnExactPutLong.j0 k a1 a2 t249 bt257.2.2.2 (bt257.2.2.2 != t249) a0_0 l0_1 a0_2 t244 t245 t248 bt251.1 bt251.2.1 bt251.2.2 bt257.1 bt257.2.1 bt257.2.2.1) else (laws_FnExactPutLong.j0 k a1 a2 t249 bt257.2.2.2 true a0_0 l0_1 a0_2 t244 t245 t248 bt251.1 bt251.2.1 bt251.2.2 bt257.1 bt257.2.1 bt257.2.2.1)))))=some r:=H
  have A10:=Aside0.mk A100
  clear A100
  replace H:=Option.bind_eq_some_iff.mp H
  obtain⟨⟨t251,t252,t255⟩,A110,H⟩:=H
  replace H:((impl_PutLong.f k t251 t252 t255 a1 a2).bind fun bt257=>((laws_eqTurns.f k bt257.1 bt257.2.1 bt257.2.2.1 t244 t245 t248).bind fun t264=>(if t264=true then (laws_FnExactPutLong.j0 k a1 a2 t249 bt257.2.2.2 (bt257.2.2.2 != t249) a0_0 l0_1 a0_2 t244 t245 t248 t251 t252 t255 bt257.1 bt257.2.1 bt257.2.2.1) else (laws_FnExactPutLong.j0 k a1 a2 t249 bt257.2.2.2 true a0_0 l0_1 a0_2 t244 t245 t248 t251 t252 t255 bt257.1 bt257.2.1 bt257.2.2.1))))=some r:=H
  have A11:=Aside0.mk A110
  clear A110
  replace H:=Option.bind_eq_some_iff.mp H
  obtain⟨⟨t257,t258,t261,t262⟩,A120,H⟩:=H
  replace H:((laws_eqTurns.f k t257 t258 t261 t244 t245 t248).bind fun t264=>(if t264=true then (laws_FnExactPutLong.j0 k a1 a2 t249 t262 (t262 != t249) a0_0 l0_1 a0_2 t244 t245 t248 t251 t252 t255 t257 t258 t261) else (laws_FnExactPutLong.j0 k a1 a2 t249 t262 true a0_0 l0_1 a0_2 t244 t245 t248 t251 t252 t255 t257 t258 t261)))=some r:=H
  have A12:=Aside0.mk A120
  clear A120
  have HC13:=Aside0.mk H
  clear H
  go_enter Try.func3,Try.ntmps3
  go_upto_region 8 with (first|((with_reducible refine gate_dst (N:=3) rfl ?_);refine box_event ?hg (N:=3) ?hd (cs:=#[.int .i64 a0_0,.slice A0_1 l0_1.length c0_1,.int .i64 a0_2]) (t:=24) ?hr ?_;(case hd=>rfl);(case hg=>rfl);(case hr=>first|(go_simp;done)|(go_simp;rfl));intro gb237 hg w14 hbox hb;have n0_:=Aside0.mk (below_step (bB) hb);have n1_:=Aside0.mk (hbox);have n2_:=Aside0.mk ((bG:w.heap.size≤gb237));have n3_:=Aside0.mk ((bG:w.heap.size≤gb237));clear HB;have HB:=n0_;have BK237:=n1_;have GW237:=n2_;have GE237:=n3_;clear n0_ n1_ n2_ n3_;clear hb hbox hg;obtain⟨hcz15_0,hcz15_1,hcz15_2⟩:=cC3 BK237.out;obtain⟨hfz15_0,hfz15_1,hfz15_2⟩:=cF3 BK237.out)|((with_reducible refine gate_callee (f:=15) rfl ?_);refine goesA (some 20) rfl rfl Try.func15 #[.agg #[.int .i64 a0_0,.slice A0_1 l0_1.length c0_1,.int .i64 a0_2],.int .i64 1048576] rfl ?_;(with_reducible refine(laws_szTurns.calls k a0_0 _ _ l0_1 a0_2 1048576 t238 _ ?side1 ?side2 A4.out).mono ?_);(case side1=>exact bC HR0_1.out);(case side2=>exact HC0_1.out);rintro e w16 ⟨rfl,hb⟩;refine⟨_,rfl,?_⟩;have n0_:=Aside0.mk (bM BK237.out hb);have n1_:=Aside0.mk (below_step (bS GE237.out) hb);clear BK237 HB;have BK237:=n0_;have HB:=n1_;clear n0_ n1_;(try clear hb);(try clear hb2);(try clear hk);(try clear hi);obtain⟨hcz17_0,hcz17_1,hcz17_2⟩:=cC3 BK237.out;obtain⟨hfz17_0,hfz17_1,hfz17_2⟩:=cF3 BK237.out)|((with_reducible refine gate_callee (f:=17) rfl ?_);refine goesA (some 25) rfl rfl Try.func17 #[.agg #[.int .i64 a0_0,.slice A0_1 l0_1.length c0_1,.int .i64 a0_2]] rfl ?_;(with_reducible refine(laws_toTurns.calls k a0_0 _ _ l0_1 a0_2 t239 t240 t243 _ ?side1 ?side2 A9.out).mono ?_);(case side1=>exact bC HR0_1.out);(case side2=>exact HC0_1.out);rintro e w18 ⟨v241,rfl,ho0,hb⟩;refine⟨_,rfl,?_⟩;obtain⟨N241_,hN_⟩:=sizeof_ hb;have n0_:=Aside0.mk (Kd.S_lower ho0 (below_size (bS GE237.out)));have n1_:=Aside0.mk (bM BK237.out hb);have n2_:=Aside0.mk (below_step (bS GE237.out) hb);clear BK237 HB;have HO242:=n0_;have BK237:=n1_;have HB:=n2_;clear n0_ n1_ n2_;(try clear hb);(try clear hb2);(try clear hk);(try clear hi);(try clear ho0);obtain⟨Ao19,co19,eo19⟩:=Kd.S_slice HO242.out;subst eo19)|((with_reducible refine gate_callee (f:=16) rfl ?_);refine goesA (some 28) rfl rfl Try.func16 #[.agg #[.int .i64 t239,.slice Ao19 t240.length co19,.int .i64 t243],.int .i64 a1,.int .i64 a2] rfl ?_;(with_reducible refine(spec_PutLong.calls k t239 _ _ t240 t243 a1 a2 t244 t245 t248 t249 _ ?side1 ?side2 A10.out).mono ?_);(case side1=>repeat (first|exact(Kd.S_reads' HO242.out).2.2|(with_reducible refine Kd.C_alloc ?_ _)|(with_reducible refine Kd.C_drewN ?_ _)|(with_reducible refine Kd.C_drew ?_)));(case side2=>exact(Kd.S_reads' HO242.out).2.1);rintro e w20 ⟨v246,rfl,ho0,hb⟩;refine⟨_,rfl,?_⟩;obtain⟨N246_,hN_⟩:=sizeof_ hb;have n0_:=Aside0.mk (S_oldN (by(with_reducible repeat (first|apply Kd.S_alloc|apply Kd.S_drewN|apply Kd.S_drew));exact HO242.out) hb hN_);have n1_:=Aside0.mk (Kd.S_lower (S_newN ho0 hN_) (below_size (bS GE237.out)));have n2_:=Aside0.mk (bM BK237.out hb);have n3_:=Aside0.mk (below_step (bS GE237.out) hb);clear HO242 BK237 HB;have HO242:=n0_;have HO247:=n1_;have BK237:=n2_;have HB:=n3_;clear n0_ n1_ n2_ n3_;(try clear hb);(try clear hb2);(try clear hk);(try clear hi);(try clear ho0))|((with_reducible refine gate_dst (N:=8) rfl ?_);refine box_event ?hg (N:=8) ?hd (cs:=#[.int .i64 0,.slice none 0 0,.int .i64 0]) (t:=28) ?hr ?_;(case hd=>rfl);(case hg=>rfl);(case hr=>first|(go_simp;done)|(go_simp;rfl));intro gb250 hg w21 hbox hb;have n0_:=Aside0.mk (Kd.S_below (by(with_reducible repeat (first|apply Kd.S_alloc|apply Kd.S_drewN|apply Kd.S_drew));exact HO242.out) hb);have n1_:=Aside0.mk (Kd.S_below (by(with_reducible repeat (first|apply Kd.S_alloc|apply Kd.S_drewN|apply Kd.S_drew));exact HO247.out) hb);have n2_:=Aside0.mk (bM BK237.out hb);have n3_:=Aside0.mk (below_step (bS GE237.out) hb);have n4_:=Aside0.mk (hbox);have n5_:=Aside0.mk ((by rw[hg];exact(below_size (bS GE237.out)):w.heap.size≤gb250));have n6_:=Aside0.mk ((by rw[hg];exact(below_size (bS GE237.out)):w.heap.size≤gb250));have n7_:=Aside0.mk ((bN BK237.out hg:gb237≠gb250));have n8_:=Aside0.mk ((bO BK237.out hg:gb250≠gb237));clear HO242 HO247 BK237 HB;have HO242:=n0_;have HO247:=n1_;have BK237:=n2_;have HB:=n3_;have BK250:=n4_;have GW250:=n5_;have GE250:=n6_;have NB237_250:=n7_;have NB250_237:=n8_;clear n0_ n1_ n2_ n3_ n4_ n5_ n6_ n7_ n8_;clear hb hbox hg;have hnb22:=NB250_237.out;have hnc22:=NB237_250.out;obtain⟨hcz23_0,hcz23_1,hcz23_2⟩:=cC3 BK250.out;obtain⟨hfz23_0,hfz23_1,hfz23_2⟩:=cF3 BK250.out;obtain⟨Ao24,co24,eo24⟩:=Kd.S_slice HO247.out;subst eo24;obtain⟨hcz25_0,hcz25_1,hcz25_2⟩:=cC3 BK237.out;obtain⟨hfz25_0,hfz25_1,hfz25_2⟩:=cF3 BK237.out)|((with_reducible refine gate_callee (f:=17) rfl ?_);refine goesA (some 32) rfl rfl Try.func17 #[.agg #[.int .i64 a0_0,.slice A0_1 l0_1.length c0_1,.int .i64 a0_2]] rfl ?_;(with_reducible refine(laws_toTurns.calls k a0_0 _ _ l0_1 a0_2 t251 t252 t255 _ ?side1 ?side2 A11.out).mono ?_);(case side1=>exact Kd.C_below HR0_1.out (bS2 GE237.out GE250.out));(case side2=>exact HC0_1.out);rintro e w26 ⟨v253,rfl,ho0,hb⟩;refine⟨_,rfl,?_⟩;obtain⟨N253_,hN_⟩:=sizeof_ hb;have n0_:=Aside0.mk (S_oldN (by(with_reducible repeat (first|apply Kd.S_alloc|apply Kd.S_drewN|apply Kd.S_drew));exact(Kd.S_mono (Kd.S_far (p:=⟨gb250,2,none⟩) (Kd.S_far (p:=⟨gb250,1,none⟩) (Kd.S_far (p:=⟨gb250,0,none⟩) (Kd.S_types HO242.out BK250.out (by decide)) (fun _ hk=>hk.2) (.int .i64 t244)) (fun _ hk=>hk.2) (.slice Ao24 t245.length co24)) (fun _ hk=>hk.2) (.int .i64 t248)) (fun _ h_=>h_.1))) hb hN_);have n1_:=Aside0.mk (S_oldN (by(with_reducible repeat (first|apply Kd.S_alloc|apply Kd.S_drewN|apply Kd.S_drew));exact(Kd.S_mono (Kd.S_far (p:=⟨gb250,2,none⟩) (Kd.S_far (p:=⟨gb250,1,none⟩) (Kd.S_far (p:=⟨gb250,0,none⟩) (Kd.S_types HO247.out BK250.out (by decide)) (fun _ hk=>hk.2) (.int .i64 t244)) (fun _ hk=>hk.2) (.slice Ao24 t245.length co24)) (fun _ hk=>hk.2) (.int .i64 t248)) (fun _ h_=>h_.1))) hb hN_);have n2_:=Aside0.mk (Kd.S_lower (S_newN (S_newN ho0 hN_) hN_) (below_size (bS2 GE237.out GE250.out)));have n3_:=Aside0.mk (blk_below (g:=gb237) (o:=.cells #[.int .i64 a0_0,.slice A0_1 l0_1.length c0_1,.int .i64 a0_2] 24 (0,0)) (by(with_reducible repeat (first|refine blk_drewN ?_ _|refine blk_drew ?_|refine blk_alloc ?_ _));refine blk_far ?_ NB237_250.out _;(with_reducible repeat (first|refine blk_drewN ?_ _|refine blk_drew ?_|refine blk_alloc ?_ _));refine blk_far ?_ NB237_250.out _;(with_reducible repeat (first|refine blk_drewN ?_ _|refine blk_drew ?_|refine blk_alloc ?_ _));refine blk_far ?_ NB237_250.out _;(with_reducible repeat (first|refine blk_drewN ?_ _|refine blk_drew ?_|refine blk_alloc ?_ _));exact BK237.out) hb);have n4_:=Aside0.mk (blk_below (g:=gb250) (o:=.cells #[.int .i64 t244,.slice Ao24 t245.length co24,.int .i64 t248] 28 (0,0)) (by(with_reducible repeat (first|refine blk_drewN ?_ _|refine blk_drew ?_|refine blk_alloc ?_ _));refine blk_put (cs:=#[.int .i64 t244,.slice Ao24 t245.length co24,.int .i64 0]) ?_ 2 _ rfl;(with_reducible repeat (first|refine blk_drewN ?_ _|refine blk_drew ?_|refine blk_alloc ?_ _));refine blk_put (cs:=#[.int .i64 t244,.slice none 0 0,.int .i64 0]) ?_ 1 _ rfl;(with_reducible repeat (first|refine blk_drewN ?_ _|refine blk_drew ?_|refine blk_alloc ?_ _));refine blk_put (cs:=#[.int .i64 0,.slice none 0 0,.int .i64 0]) ?_ 0 _ rfl;(with_reducible repeat (first|refine blk_drewN ?_ _|refine blk_drew ?_|refine blk_alloc ?_ _));exact BK250.out) hb);have n5_:=Aside0.mk (below_step (bS2 GE237.out GE250.out) hb);clear HO242 HO247 BK237 BK250 HB;have HO242:=n0_;have HO247:=n1_;have HO254:=n2_;have BK237:=n3_;have BK250:=n4_;have HB:=n5_;clear n0_ n1_ n2_ n3_ n4_ n5_;(try clear hb);(try clear hb2);(try clear hk);(try clear hi);(try clear ho0))|((with_reducible refine gate_dst (N:=10) rfl ?_);refine box_event ?hg (N:=10) ?hd (cs:=#[.int .i64 0,.slice none 0 0,.int .i64 0]) (t:=28) ?hr ?_;(case hd=>rfl);(case hg=>rfl);(case hr=>first|(go_simp;done)|(go_simp;rfl));intro gb256 hg w27 hbox hb;have n0_:=Aside0.mk (Kd.S_below (by(with_reducible repeat (first|apply Kd.S_alloc|apply Kd.S_drewN|apply Kd.S_drew));exact HO242.out) hb);have n1_:=Aside0.mk (Kd.S_below (by(with_reducible repeat (first|apply Kd.S_alloc|apply Kd.S_drewN|apply Kd.S_drew));exact HO247.out) hb);have n2_:=Aside0.mk (Kd.S_below (by(with_reducible repeat (first|apply Kd.S_alloc|apply Kd.S_drewN|apply Kd.S_drew));exact HO254.out) hb);have n3_:=Aside0.mk (bM BK237.out hb);have n4_:=Aside0.mk (bM BK250.out hb);have n5_:=Aside0.mk (below_step (bS2 GE237.out GE250.out) hb);have n6_:=Aside0.mk (hbox);have n7_:=Aside0.mk ((by rw[hg];exact(below_size (bS2 GE237.out GE250.out)):w.heap.size≤gb256));have n8_:=Aside0.mk ((by rw[hg];exact(below_size (bS2 GE237.out GE250.out)):w.heap.size≤gb256));have n9_:=Aside0.mk ((bN BK237.out hg:gb237≠gb256));have n10_:=Aside0.mk ((bO BK237.out hg:gb256≠gb237));have n11_:=Aside0.mk ((bN BK250.out hg:gb250≠gb256));have n12_:=Aside0.mk ((bO BK250.out hg:gb256≠gb250));clear HO242 HO247 HO254 BK237 BK250 HB;have HO242:=n0_;have HO247:=n1_;have HO254:=n2_;have BK237:=n3_;have BK250:=n4_;have HB:=n5_;have BK256:=n6_;have GW256:=n7_;have GE256:=n8_;have NB237_256:=n9_;have NB256_237:=n10_;have NB250_256:=n11_;have NB256_250:=n12_;clear n0_ n1_ n2_ n3_ n4_ n5_ n6_ n7_ n8_ n9_ n10_ n11_ n12_;clear hb hbox hg;have hnb28:=NB256_237.out;have hnc28:=NB237_256.out;have hnb29:=NB256_250.out;have hnc29:=NB250_256.out;obtain⟨hcz30_0,hcz30_1,hcz30_2⟩:=cC3 BK256.out;obtain⟨hfz30_0,hfz30_1,hfz30_2⟩:=cF3 BK256.out;obtain⟨Ao31,co31,eo31⟩:=Kd.S_slice HO254.out;subst eo31)|((with_reducible refine gate_callee (f:=18) rfl ?_);refine goesA (some 37) rfl rfl Try.func18 #[.agg #[.int .i64 t251,.slice Ao31 t252.length co31,.int .i64 t255],.int .i64 a1,.int .i64 a2] rfl ?_;(with_reducible refine(impl_PutLong.calls k t251 _ _ t252 t255 a1 a2 t257 t258 t261 t262 _ ?side1 ?side2 A12.out).mono ?_);(case side1=>refine(Kd.S_reads' (e:=116) (base:=w.heap.size) (ok:=fun k_=>((True∧N253_≤k_)∧N253_≤k_)) (n:=t252.length) (c:=co31) ?_).2.2;exact(by(with_reducible repeat (first|apply Kd.S_alloc|apply Kd.S_drewN|apply Kd.S_drew));exact(Kd.S_mono (Kd.S_far (p:=⟨gb256,2,none⟩) (Kd.S_far (p:=⟨gb256,1,none⟩) (Kd.S_far (p:=⟨gb256,0,none⟩) (Kd.S_types HO254.out BK256.out (by decide)) (fun _ hk=>hk.2) (.int .i64 t251)) (fun _ hk=>hk.2) (.slice Ao31 t252.length co31)) (fun _ hk=>hk.2) (.int .i64 t255)) (fun _ h_=>h_.1))));(case side2=>exact(Kd.S_reads' HO254.out).2.1);rintro e w32 ⟨v259,rfl,ho0,hb⟩;refine⟨_,rfl,?_⟩;obtain⟨N259_,hN_⟩:=sizeof_ hb;have n0_:=Aside0.mk (S_oldN (by(with_reducible repeat (first|apply Kd.S_alloc|apply Kd.S_drewN|apply Kd.S_drew));exact(Kd.S_mono (Kd.S_far (p:=⟨gb256,2,none⟩) (Kd.S_far (p:=⟨gb256,1,none⟩) (Kd.S_far (p:=⟨gb256,0,none⟩) (Kd.S_types HO242.out BK256.out (by decide)) (fun _ hk=>hk.2) (.int .i64 t251)) (fun _ hk=>hk.2) (.slice Ao31 t252.length co31)) (fun _ hk=>hk.2) (.int .i64 t255)) (fun _ h_=>h_.1))) hb hN_);have n1_:=Aside0.mk (S_oldN (by(with_reducible repeat (first|apply Kd.S_alloc|apply Kd.S_drewN|apply Kd.S_drew));exact(Kd.S_mono (Kd.S_far (p:=⟨gb256,2,none⟩) (Kd.S_far (p:=⟨gb256,1,none⟩) (Kd.S_far (p:=⟨gb256,0,none⟩) (Kd.S_types HO247.out BK256.out (by decide)) (fun _ hk=>hk.2) (.int .i64 t251)) (fun _ hk=>hk.2) (.slice Ao31 t252.length co31)) (fun _ hk=>hk.2) (.int .i64 t255)) (fun _ h_=>h_.1))) hb hN_);have n2_:=Aside0.mk (S_oldN (by(with_reducible repeat (first|apply Kd.S_alloc|apply Kd.S_drewN|apply Kd.S_drew));exact(Kd.S_mono (Kd.S_far (p:=⟨gb256,2,none⟩) (Kd.S_far (p:=⟨gb256,1,none⟩) (Kd.S_far (p:=⟨gb256,0,none⟩) (Kd.S_types HO254.out BK256.out (by decide)) (fun _ hk=>hk.2) (.int .i64 t251)) (fun _ hk=>hk.2) (.slice Ao31 t252.length co31)) (fun _ hk=>hk.2) (.int .i64 t255)) (fun _ h_=>h_.1))) hb hN_);have n3_:=Aside0.mk (Kd.S_lower (S_newN (S_newN (S_newN ho0 hN_) hN_) hN_) (below_size (bS3 GE237.out GE250.out GE256.out)));have n4_:=Aside0.mk (blk_below (g:=gb237) (o:=.cells #[.int .i64 a0_0,.slice A0_1 l0_1.length c0_1,.int .i64 a0_2] 24 (0,0)) (by(with_reducible repeat (first|refine blk_drewN ?_ _|refine blk_drew ?_|refine blk_alloc ?_ _));refine blk_far ?_ NB237_256.out _;(with_reducible repeat (first|refine blk_drewN ?_ _|refine blk_drew ?_|refine blk_alloc ?_ _));refine blk_far ?_ NB237_256.out _;(with_reducible repeat (first|refine blk_drewN ?_ _|refine blk_drew ?_|refine blk_alloc ?_ _));refine blk_far ?_ NB237_256.out _;(with_reducible repeat (first|refine blk_drewN ?_ _|refine blk_drew ?_|refine blk_alloc ?_ _));exact BK237.out) hb);have n5_:=Aside0.mk (blk_below (g:=gb250) (o:=.cells #[.int .i64 t244,.slice Ao24 t245.length co24,.int .i64 t248] 28 (0,0)) (by(with_reducible repeat (first|refine blk_drewN ?_ _|refine blk_drew ?_|refine blk_alloc ?_ _));refine blk_far ?_ NB250_256.out _;(with_reducible repeat (first|refine blk_drewN ?_ _|refine blk_drew ?_|refine blk_alloc ?_ _));refine blk_far ?_ NB250_256.out _;(with_reducible repeat (first|refine blk_drewN ?_ _|refine blk_drew ?_|refine blk_alloc ?_ _));refine blk_far ?_ NB250_256.out _;(with_reducible repeat (first|refine blk_drewN ?_ _|refine blk_drew ?_|refine blk_alloc ?_ _));exact BK250.out) hb);have n6_:=Aside0.mk (blk_below (g:=gb256) (o:=.cells #[.int .i64 t251,.slice Ao31 t252.length co31,.int .i64 t255] 28 (0,0)) (by(with_reducible repeat (first|refine blk_drewN ?_ _|refine blk_drew ?_|refine blk_alloc ?_ _));refine blk_put (cs:=#[.int .i64 t251,.slice Ao31 t252.length co31,.int .i64 0]) ?_ 2 _ rfl;(with_reducible repeat (first|refine blk_drewN ?_ _|refine blk_drew ?_|refine blk_alloc ?_ _));refine blk_put (cs:=#[.int .i64 t251,.slice none 0 0,.int .i64 0]) ?_ 1 _ rfl;(with_reducible repeat (first|refine blk_drewN ?_ _|refine blk_drew ?_|refine blk_alloc ?_ _));refine blk_put (cs:=#[.int .i64 0,.slice none 0 0,.int .i64 0]) ?_ 0 _ rfl;(with_reducible repeat (first|refine blk_drewN ?_ _|refine blk_drew ?_|refine blk_alloc ?_ _));exact BK256.out) hb);have n7_:=Aside0.mk (below_step (bS3 GE237.out GE250.out GE256.out) hb);clear HO242 HO247 HO254 BK237 BK250 BK256 HB;have HO242:=n0_;have HO247:=n1_;have HO254:=n2_;have HO260:=n3_;have BK237:=n4_;have BK250:=n5_;have BK256:=n6_;have HB:=n7_;clear n0_ n1_ n2_ n3_ n4_ n5_ n6_ n7_;(try clear hb);(try clear hb2);(try clear hk);(try clear hi);(try clear ho0))|((with_reducible refine gate_dst (N:=11) rfl ?_);refine box_event ?hg (N:=11) ?hd (cs:=#[.int .i64 0,.slice none 0 0,.int .i64 0]) (t:=28) ?hr ?_;(case hd=>rfl);(case hg=>rfl);(case hr=>first|(go_simp;done)|(go_simp;rfl));intro gb263 hg w33 hbox hb;have n0_:=Aside0.mk (Kd.S_below (by(with_reducible repeat (first|apply Kd.S_alloc|apply Kd.S_drewN|apply Kd.S_drew));exact HO242.out) hb);have n1_:=Aside0.mk (Kd.S_below (by(with_reducible repeat (first|apply Kd.S_alloc|apply Kd.S_drewN|apply Kd.S_drew));exact HO247.out) hb);have n2_:=Aside0.mk (Kd.S_below (by(with_reducible repeat (first|apply Kd.S_alloc|apply Kd.S_drewN|apply Kd.S_drew));exact HO254.out) hb);have n3_:=Aside0.mk (Kd.S_below (by(with_reducible repeat (first|apply Kd.S_alloc|apply Kd.S_drewN|apply Kd.S_drew));exact HO260.out) hb);have n4_:=Aside0.mk (bM BK237.out hb);have n5_:=Aside0.mk (bM BK250.out hb);have n6_:=Aside0.mk (bM BK256.out hb);have n7_:=Aside0.mk (below_step (bS3 GE237.out GE250.out GE256.out) hb);have n8_:=Aside0.mk (hbox);have n9_:=Aside0.mk ((by rw[hg];exact(below_size (bS3 GE237.out GE250.out GE256.out)):w.heap.size≤gb263));have n10_:=Aside0.mk ((by rw[hg];exact(below_size (bS3 GE237.out GE250.out GE256.out)):w.heap.size≤gb263));have n11_:=Aside0.mk ((bN BK237.out hg:gb237≠gb263));have n12_:=Aside0.mk ((bO BK237.out hg:gb263≠gb237));have n13_:=Aside0.mk ((bN BK250.out hg:gb250≠gb263));have n14_:=Aside0.mk ((bO BK250.out hg:gb263≠gb250));have n15_:=Aside0.mk ((bN BK256.out hg:gb256≠gb263));have n16_:=Aside0.mk ((bO BK256.out hg:gb263≠gb256));clear HO242 HO247 HO254 HO260 BK237 BK250 BK256 HB;have HO242:=n0_;have HO247:=n1_;have HO254:=n2_;have HO260:=n3_;have BK237:=n4_;have BK250:=n5_;have BK256:=n6_;have HB:=n7_;have BK263:=n8_;have GW263:=n9_;have GE263:=n10_;have NB237_263:=n11_;have NB263_237:=n12_;have NB250_263:=n13_;have NB263_250:=n14_;have NB256_263:=n15_;have NB263_256:=n16_;clear n0_ n1_ n2_ n3_ n4_ n5_ n6_ n7_ n8_ n9_ n10_ n11_ n12_ n13_ n14_ n15_ n16_;clear hb hbox hg;have hnb34:=NB263_237.out;have hnc34:=NB237_263.out;have hnb35:=NB263_250.out;have hnc35:=NB250_263.out;have hnb36:=NB263_256.out;have hnc36:=NB256_263.out;obtain⟨hcz37_0,hcz37_1,hcz37_2⟩:=cC3 BK263.out;obtain⟨hfz37_0,hfz37_1,hfz37_2⟩:=cF3 BK263.out;obtain⟨Ao38,co38,eo38⟩:=Kd.S_slice HO260.out;subst eo38))
  (try simp only[Act.put,List.setIfInBounds_toArray,List.set_cons_zero,List.set_cons_succ])
  go_cut [48] (fun v48 wc => ∃ (kq:Nat) (x48_12:Bool),v48=.bool x48_12∧Aside0 (laws_FnExactPutLong.j0 kq a1 a2 t249 t262 x48_12 a0_0 l0_1 a0_2 t244 t245 t248 t251 t252 t255 t257 t258 t261=some r)∧Aside0 (kq≤k)∧Aside0 (Kd.S k116 116 wc w.heap.size (fun k_=>k_ < N253_∧k_ < N259_) (.slice Ao24 t245.length co24) t245)∧Aside0 (Kd.S k116 116 wc w.heap.size (fun k_=>N253_≤k_∧k_ < N259_) (.slice Ao31 t252.length co31) t252)∧Aside0 (Kd.S k116 116 wc w.heap.size (fun k_=>N259_≤k_∧N259_≤k_) (.slice Ao38 t258.length co38) t258)∧Aside0 (wc.heap[gb237]?=some (.cells #[.int .i64 a0_0,(.slice A0_1 l0_1.length c0_1),.int .i64 a0_2] 24 (0,0)))∧Aside0 (wc.heap[gb250]?=some (.cells #[.int .i64 t244,(.slice Ao24 t245.length co24),.int .i64 t248] 28 (0,0)))∧Aside0 (wc.heap[gb256]?=some (.cells #[.int .i64 t251,(.slice Ao31 t252.length co31),.int .i64 t255] 28 (0,0)))∧Aside0 (wc.heap[gb263]?=some (.cells #[.int .i64 t257,(.slice Ao38 t258.length co38),.int .i64 t261] 28 (0,0)))∧Aside0 (Below w.heap.size w wc))
  case first =>
   have H:=HC13.out
   clear HC13
   replace H:=Option.bind_eq_some_iff.mp H
   obtain⟨t264,A390,H⟩:=H
   replace H:(if t264=true then (laws_FnExactPutLong.j0 k a1 a2 t249 t262 (t262 != t249) a0_0 l0_1 a0_2 t244 t245 t248 t251 t252 t255 t257 t258 t261) else (laws_FnExactPutLong.j0 k a1 a2 t249 t262 true a0_0 l0_1 a0_2 t244 t245 t248 t251 t252 t255 t257 t258 t261))=some r:=H
   have A39:=Aside0.mk A390
   clear A390
   by_cases c40:t264=true
   ·subst c40
    have H1:(laws_FnExactPutLong.j0 k a1 a2 t249 t262 (t262 != t249) a0_0 l0_1 a0_2 t244 t245 t248 t251 t252 t255 t257 t258 t261)=some r:=by rw[if_pos rfl] at H;exact H
    clear H
    have H:=H1
    clear H1
    have H':=Aside0.mk H
    clear H
    have hnb41:=NB263_237.out
    have hnc41:=NB237_263.out
    have hnb42:=NB263_250.out
    have hnc42:=NB250_263.out
    have hnb43:=NB263_256.out
    have hnc43:=NB256_263.out
    obtain⟨hcz44_0,hcz44_1,hcz44_2⟩:=cC3 BK263.out
    obtain⟨hfz44_0,hfz44_1,hfz44_2⟩:=cF3 BK263.out
    have hnb45:=NB250_237.out
    have hnc45:=NB237_250.out
    have hnb46:=NB250_256.out
    have hnc46:=NB256_250.out
    obtain⟨hcz47_0,hcz47_1,hcz47_2⟩:=cC3 BK250.out
    obtain⟨hfz47_0,hfz47_1,hfz47_2⟩:=cF3 BK250.out
    go_wp2_with (first|((with_reducible refine gate_callee (f:=19) rfl ?_);refine goesA (some 42) rfl rfl Try.func19 #[.agg #[.int .i64 t257,.slice Ao38 t258.length co38,.int .i64 t261],.agg #[.int .i64 t244,.slice Ao24 t245.length co24,.int .i64 t248]] rfl ?_;(with_reducible refine(laws_eqTurns.calls k t257 _ _ t258 t261 t244 _ _ t245 t248 true _ ?side1 ?side2 ?side3 ?side4 A39.out).mono ?_);(case side1=>refine(Kd.S_reads' (e:=116) (base:=w.heap.size) (ok:=fun k_=>(((True∧N259_≤k_)∧N259_≤k_)∧N259_≤k_)) (n:=t258.length) (c:=co38) ?_).2.2;exact(by(with_reducible repeat (first|apply Kd.S_alloc|apply Kd.S_drewN|apply Kd.S_drew));exact(Kd.S_mono (Kd.S_far (p:=⟨gb263,2,none⟩) (Kd.S_far (p:=⟨gb263,1,none⟩) (Kd.S_far (p:=⟨gb263,0,none⟩) (Kd.S_types HO260.out BK263.out (by decide)) (fun _ hk=>hk.2) (.int .i64 t257)) (fun _ hk=>hk.2) (.slice Ao38 t258.length co38)) (fun _ hk=>hk.2) (.int .i64 t261)) (fun _ h_=>h_.1))));(case side2=>exact(Kd.S_reads' HO260.out).2.1);(case side3=>refine(Kd.S_reads' (e:=116) (base:=w.heap.size) (ok:=fun k_=>(((True∧N246_≤k_)∧k_ < N253_)∧k_ < N259_)) (n:=t245.length) (c:=co24) ?_).2.2;exact(by(with_reducible repeat (first|apply Kd.S_alloc|apply Kd.S_drewN|apply Kd.S_drew));exact(Kd.S_mono (Kd.S_far (p:=⟨gb263,2,none⟩) (Kd.S_far (p:=⟨gb263,1,none⟩) (Kd.S_far (p:=⟨gb263,0,none⟩) (Kd.S_types HO247.out BK263.out (by decide)) (fun _ hk=>hk.2) (.int .i64 t257)) (fun _ hk=>hk.2) (.slice Ao38 t258.length co38)) (fun _ hk=>hk.2) (.int .i64 t261)) (fun _ h_=>h_.1))));(case side4=>exact(Kd.S_reads' HO247.out).2.1);rintro e w48 ⟨rfl,hb⟩;refine⟨_,rfl,?_⟩;have n0_:=Aside0.mk (Kd.S_below (by(with_reducible repeat (first|apply Kd.S_alloc|apply Kd.S_drewN|apply Kd.S_drew));exact(Kd.S_mono (Kd.S_far (p:=⟨gb263,2,none⟩) (Kd.S_far (p:=⟨gb263,1,none⟩) (Kd.S_far (p:=⟨gb263,0,none⟩) (Kd.S_types HO242.out BK263.out (by decide)) (fun _ hk=>hk.2) (.int .i64 t257)) (fun _ hk=>hk.2) (.slice Ao38 t258.length co38)) (fun _ hk=>hk.2) (.int .i64 t261)) (fun _ h_=>h_.1))) hb);have n1_:=Aside0.mk (Kd.S_below (by(with_reducible repeat (first|apply Kd.S_alloc|apply Kd.S_drewN|apply Kd.S_drew));exact(Kd.S_mono (Kd.S_far (p:=⟨gb263,2,none⟩) (Kd.S_far (p:=⟨gb263,1,none⟩) (Kd.S_far (p:=⟨gb263,0,none⟩) (Kd.S_types HO247.out BK263.out (by decide)) (fun _ hk=>hk.2) (.int .i64 t257)) (fun _ hk=>hk.2) (.slice Ao38 t258.length co38)) (fun _ hk=>hk.2) (.int .i64 t261)) (fun _ h_=>h_.1))) hb);have n2_:=Aside0.mk (Kd.S_below (by(with_reducible repeat (first|apply Kd.S_alloc|apply Kd.S_drewN|apply Kd.S_drew));exact(Kd.S_mono (Kd.S_far (p:=⟨gb263,2,none⟩) (Kd.S_far (p:=⟨gb263,1,none⟩) (Kd.S_far (p:=⟨gb263,0,none⟩) (Kd.S_types HO254.out BK263.out (by decide)) (fun _ hk=>hk.2) (.int .i64 t257)) (fun _ hk=>hk.2) (.slice Ao38 t258.length co38)) (fun _ hk=>hk.2) (.int .i64 t261)) (fun _ h_=>h_.1))) hb);have n3_:=Aside0.mk (Kd.S_below (by(with_reducible repeat (first|apply Kd.S_alloc|apply Kd.S_drewN|apply Kd.S_drew));exact(Kd.S_mono (Kd.S_far (p:=⟨gb263,2,none⟩) (Kd.S_far (p:=⟨gb263,1,none⟩) (Kd.S_far (p:=⟨gb263,0,none⟩) (Kd.S_types HO260.out BK263.out (by decide)) (fun _ hk=>hk.2) (.int .i64 t257)) (fun _ hk=>hk.2) (.slice Ao38 t258.length co38)) (fun _ hk=>hk.2) (.int .i64 t261)) (fun _ h_=>h_.1))) hb);have n4_:=Aside0.mk (blk_below (g:=gb237) (o:=.cells #[.int .i64 a0_0,.slice A0_1 l0_1.length c0_1,.int .i64 a0_2] 24 (0,0)) (by(with_reducible repeat (first|refine blk_drewN ?_ _|refine blk_drew ?_|refine blk_alloc ?_ _));refine blk_far ?_ NB237_263.out _;(with_reducible repeat (first|refine blk_drewN ?_ _|refine blk_drew ?_|refine blk_alloc ?_ _));refine blk_far ?_ NB237_263.out _;(with_reducible repeat (first|refine blk_drewN ?_ _|refine blk_drew ?_|refine blk_alloc ?_ _));refine blk_far ?_ NB237_263.out _;(with_reducible repeat (first|refine blk_drewN ?_ _|refine blk_drew ?_|refine blk_alloc ?_ _));exact BK237.out) hb);have n5_:=Aside0.mk (blk_below (g:=gb250) (o:=.cells #[.int .i64 t244,.slice Ao24 t245.length co24,.int .i64 t248] 28 (0,0)) (by(with_reducible repeat (first|refine blk_drewN ?_ _|refine blk_drew ?_|refine blk_alloc ?_ _));refine blk_far ?_ NB250_263.out _;(with_reducible repeat (first|refine blk_drewN ?_ _|refine blk_drew ?_|refine blk_alloc ?_ _));refine blk_far ?_ NB250_263.out _;(with_reducible repeat (first|refine blk_drewN ?_ _|refine blk_drew ?_|refine blk_alloc ?_ _));refine blk_far ?_ NB250_263.out _;(with_reducible repeat (first|refine blk_drewN ?_ _|refine blk_drew ?_|refine blk_alloc ?_ _));exact BK250.out) hb);have n6_:=Aside0.mk (blk_below (g:=gb256) (o:=.cells #[.int .i64 t251,.slice Ao31 t252.length co31,.int .i64 t255] 28 (0,0)) (by(with_reducible repeat (first|refine blk_drewN ?_ _|refine blk_drew ?_|refine blk_alloc ?_ _));refine blk_far ?_ NB256_263.out _;(with_reducible repeat (first|refine blk_drewN ?_ _|refine blk_drew ?_|refine blk_alloc ?_ _));refine blk_far ?_ NB256_263.out _;(with_reducible repeat (first|refine blk_drewN ?_ _|refine blk_drew ?_|refine blk_alloc ?_ _));refine blk_far ?_ NB256_263.out _;(with_reducible repeat (first|refine blk_drewN ?_ _|refine blk_drew ?_|refine blk_alloc ?_ _));exact BK256.out) hb);have n7_:=Aside0.mk (blk_below (g:=gb263) (o:=.cells #[.int .i64 t257,.slice Ao38 t258.length co38,.int .i64 t261] 28 (0,0)) (by(with_reducible repeat (first|refine blk_drewN ?_ _|refine blk_drew ?_|refine blk_alloc ?_ _));refine blk_put (cs:=#[.int .i64 t257,.slice Ao38 t258.length co38,.int .i64 0]) ?_ 2 _ rfl;(with_reducible repeat (first|refine blk_drewN ?_ _|refine blk_drew ?_|refine blk_alloc ?_ _));refine blk_put (cs:=#[.int .i64 t257,.slice none 0 0,.int .i64 0]) ?_ 1 _ rfl;(with_reducible repeat (first|refine blk_drewN ?_ _|refine blk_drew ?_|refine blk_alloc ?_ _));refine blk_put (cs:=#[.int .i64 0,.slice none 0 0,.int .i64 0]) ?_ 0 _ rfl;(with_reducible repeat (first|refine blk_drewN ?_ _|refine blk_drew ?_|refine blk_alloc ?_ _));exact BK263.out) hb);have n8_:=Aside0.mk (below_step (bS4 GE237.out GE250.out GE256.out GE263.out) hb);clear HO242 HO247 HO254 HO260 BK237 BK250 BK256 BK263 HB;have HO242:=n0_;have HO247:=n1_;have HO254:=n2_;have HO260:=n3_;have BK237:=n4_;have BK250:=n5_;have BK256:=n6_;have BK263:=n7_;have HB:=n8_;clear n0_ n1_ n2_ n3_ n4_ n5_ n6_ n7_ n8_;(try clear hb);(try clear hb2);(try clear hk);(try clear hi)))
    go_meet
    case rel=>exact⟨_,((t262 != t249)),(bR),H',⟨by first|omega|exact Nat.le_refl _⟩,⟨by(with_reducible repeat (first|apply Kd.S_alloc|apply Kd.S_drewN|apply Kd.S_drew));exact Kd.S_mono HO247.out (fun _ hk=>⟨hk.1.2,hk.2⟩)⟩,⟨by(with_reducible repeat (first|apply Kd.S_alloc|apply Kd.S_drewN|apply Kd.S_drew));exact Kd.S_mono HO254.out (fun _ hk=>⟨hk.1.2,hk.2⟩)⟩,⟨by(with_reducible repeat (first|apply Kd.S_alloc|apply Kd.S_drewN|apply Kd.S_drew));exact Kd.S_mono HO260.out (fun _ hk=>⟨hk.1.2,hk.2⟩)⟩,⟨by(with_reducible repeat (first|refine blk_drewN ?_ _|refine blk_drew ?_|refine blk_alloc ?_ _));exact BK237.out⟩,⟨by(with_reducible repeat (first|refine blk_drewN ?_ _|refine blk_drew ?_|refine blk_alloc ?_ _));exact BK250.out⟩,⟨by(with_reducible repeat (first|refine blk_drewN ?_ _|refine blk_drew ?_|refine blk_alloc ?_ _));exact BK256.out⟩,⟨by(with_reducible repeat (first|refine blk_drewN ?_ _|refine blk_drew ?_|refine blk_alloc ?_ _));exact BK263.out⟩,⟨bS4 GE237.out GE250.out GE256.out GE263.out⟩⟩
   ·replace c40:=Bool.eq_false_iff.mpr c40
    subst c40
    have H1:(laws_FnExactPutLong.j0 k a1 a2 t249 t262 true a0_0 l0_1 a0_2 t244 t245 t248 t251 t252 t255 t257 t258 t261)=some r:=by rw[if_neg (show ¬ (false=true) by decide)] at H;exact H
    clear H
    have H:=H1
    clear H1
    have H':=Aside0.mk H
    clear H
    have hnb49:=NB263_237.out
    have hnc49:=NB237_263.out
    have hnb50:=NB263_250.out
    have hnc50:=NB250_263.out
    have hnb51:=NB263_256.out
    have hnc51:=NB256_263.out
    obtain⟨hcz52_0,hcz52_1,hcz52_2⟩:=cC3 BK263.out
    obtain⟨hfz52_0,hfz52_1,hfz52_2⟩:=cF3 BK263.out
    have hnb53:=NB250_237.out
    have hnc53:=NB237_250.out
    have hnb54:=NB250_256.out
    have hnc54:=NB256_250.out
    obtain⟨hcz55_0,hcz55_1,hcz55_2⟩:=cC3 BK250.out
    obtain⟨hfz55_0,hfz55_1,hfz55_2⟩:=cF3 BK250.out
    go_wp2_with (first|((with_reducible refine gate_callee (f:=19) rfl ?_);refine goesA (some 42) rfl rfl Try.func19 #[.agg #[.int .i64 t257,.slice Ao38 t258.length co38,.int .i64 t261],.agg #[.int .i64 t244,.slice Ao24 t245.length co24,.int .i64 t248]] rfl ?_;(with_reducible refine(laws_eqTurns.calls k t257 _ _ t258 t261 t244 _ _ t245 t248 false _ ?side1 ?side2 ?side3 ?side4 A39.out).mono ?_);(case side1=>refine(Kd.S_reads' (e:=116) (base:=w.heap.size) (ok:=fun k_=>(((True∧N259_≤k_)∧N259_≤k_)∧N259_≤k_)) (n:=t258.length) (c:=co38) ?_).2.2;exact(by(with_reducible repeat (first|apply Kd.S_alloc|apply Kd.S_drewN|apply Kd.S_drew));exact(Kd.S_mono (Kd.S_far (p:=⟨gb263,2,none⟩) (Kd.S_far (p:=⟨gb263,1,none⟩) (Kd.S_far (p:=⟨gb263,0,none⟩) (Kd.S_types HO260.out BK263.out (by decide)) (fun _ hk=>hk.2) (.int .i64 t257)) (fun _ hk=>hk.2) (.slice Ao38 t258.length co38)) (fun _ hk=>hk.2) (.int .i64 t261)) (fun _ h_=>h_.1))));(case side2=>exact(Kd.S_reads' HO260.out).2.1);(case side3=>refine(Kd.S_reads' (e:=116) (base:=w.heap.size) (ok:=fun k_=>(((True∧N246_≤k_)∧k_ < N253_)∧k_ < N259_)) (n:=t245.length) (c:=co24) ?_).2.2;exact(by(with_reducible repeat (first|apply Kd.S_alloc|apply Kd.S_drewN|apply Kd.S_drew));exact(Kd.S_mono (Kd.S_far (p:=⟨gb263,2,none⟩) (Kd.S_far (p:=⟨gb263,1,none⟩) (Kd.S_far (p:=⟨gb263,0,none⟩) (Kd.S_types HO247.out BK263.out (by decide)) (fun _ hk=>hk.2) (.int .i64 t257)) (fun _ hk=>hk.2) (.slice Ao38 t258.length co38)) (fun _ hk=>hk.2) (.int .i64 t261)) (fun _ h_=>h_.1))));(case side4=>exact(Kd.S_reads' HO247.out).2.1);rintro e w56 ⟨rfl,hb⟩;refine⟨_,rfl,?_⟩;have n0_:=Aside0.mk (Kd.S_below (by(with_reducible repeat (first|apply Kd.S_alloc|apply Kd.S_drewN|apply Kd.S_drew));exact(Kd.S_mono (Kd.S_far (p:=⟨gb263,2,none⟩) (Kd.S_far (p:=⟨gb263,1,none⟩) (Kd.S_far (p:=⟨gb263,0,none⟩) (Kd.S_types HO242.out BK263.out (by decide)) (fun _ hk=>hk.2) (.int .i64 t257)) (fun _ hk=>hk.2) (.slice Ao38 t258.length co38)) (fun _ hk=>hk.2) (.int .i64 t261)) (fun _ h_=>h_.1))) hb);have n1_:=Aside0.mk (Kd.S_below (by(with_reducible repeat (first|apply Kd.S_alloc|apply Kd.S_drewN|apply Kd.S_drew));exact(Kd.S_mono (Kd.S_far (p:=⟨gb263,2,none⟩) (Kd.S_far (p:=⟨gb263,1,none⟩) (Kd.S_far (p:=⟨gb263,0,none⟩) (Kd.S_types HO247.out BK263.out (by decide)) (fun _ hk=>hk.2) (.int .i64 t257)) (fun _ hk=>hk.2) (.slice Ao38 t258.length co38)) (fun _ hk=>hk.2) (.int .i64 t261)) (fun _ h_=>h_.1))) hb);have n2_:=Aside0.mk (Kd.S_below (by(with_reducible repeat (first|apply Kd.S_alloc|apply Kd.S_drewN|apply Kd.S_drew));exact(Kd.S_mono (Kd.S_far (p:=⟨gb263,2,none⟩) (Kd.S_far (p:=⟨gb263,1,none⟩) (Kd.S_far (p:=⟨gb263,0,none⟩) (Kd.S_types HO254.out BK263.out (by decide)) (fun _ hk=>hk.2) (.int .i64 t257)) (fun _ hk=>hk.2) (.slice Ao38 t258.length co38)) (fun _ hk=>hk.2) (.int .i64 t261)) (fun _ h_=>h_.1))) hb);have n3_:=Aside0.mk (Kd.S_below (by(with_reducible repeat (first|apply Kd.S_alloc|apply Kd.S_drewN|apply Kd.S_drew));exact(Kd.S_mono (Kd.S_far (p:=⟨gb263,2,none⟩) (Kd.S_far (p:=⟨gb263,1,none⟩) (Kd.S_far (p:=⟨gb263,0,none⟩) (Kd.S_types HO260.out BK263.out (by decide)) (fun _ hk=>hk.2) (.int .i64 t257)) (fun _ hk=>hk.2) (.slice Ao38 t258.length co38)) (fun _ hk=>hk.2) (.int .i64 t261)) (fun _ h_=>h_.1))) hb);have n4_:=Aside0.mk (blk_below (g:=gb237) (o:=.cells #[.int .i64 a0_0,.slice A0_1 l0_1.length c0_1,.int .i64 a0_2] 24 (0,0)) (by(with_reducible repeat (first|refine blk_drewN ?_ _|refine blk_drew ?_|refine blk_alloc ?_ _));refine blk_far ?_ NB237_263.out _;(with_reducible repeat (first|refine blk_drewN ?_ _|refine blk_drew ?_|refine blk_alloc ?_ _));refine blk_far ?_ NB237_263.out _;(with_reducible repeat (first|refine blk_drewN ?_ _|refine blk_drew ?_|refine blk_alloc ?_ _));refine blk_far ?_ NB237_263.out _;(with_reducible repeat (first|refine blk_drewN ?_ _|refine blk_drew ?_|refine blk_alloc ?_ _));exact BK237.out) hb);have n5_:=Aside0.mk (blk_below (g:=gb250) (o:=.cells #[.int .i64 t244,.slice Ao24 t245.length co24,.int .i64 t248] 28 (0,0)) (by(with_reducible repeat (first|refine blk_drewN ?_ _|refine blk_drew ?_|refine blk_alloc ?_ _));refine blk_far ?_ NB250_263.out _;(with_reducible repeat (first|refine blk_drewN ?_ _|refine blk_drew ?_|refine blk_alloc ?_ _));refine blk_far ?_ NB250_263.out _;(with_reducible repeat (first|refine blk_drewN ?_ _|refine blk_drew ?_|refine blk_alloc ?_ _));refine blk_far ?_ NB250_263.out _;(with_reducible repeat (first|refine blk_drewN ?_ _|refine blk_drew ?_|refine blk_alloc ?_ _));exact BK250.out) hb);have n6_:=Aside0.mk (blk_below (g:=gb256) (o:=.cells #[.int .i64 t251,.slice Ao31 t252.length co31,.int .i64 t255] 28 (0,0)) (by(with_reducible repeat (first|refine blk_drewN ?_ _|refine blk_drew ?_|refine blk_alloc ?_ _));refine blk_far ?_ NB256_263.out _;(with_reducible repeat (first|refine blk_drewN ?_ _|refine blk_drew ?_|refine blk_alloc ?_ _));refine blk_far ?_ NB256_263.out _;(with_reducible repeat (first|refine blk_drewN ?_ _|refine blk_drew ?_|refine blk_alloc ?_ _));refine blk_far ?_ NB256_263.out _;(with_reducible repeat (first|refine blk_drewN ?_ _|refine blk_drew ?_|refine blk_alloc ?_ _));exact BK256.out) hb);have n7_:=Aside0.mk (blk_below (g:=gb263) (o:=.cells #[.int .i64 t257,.slice Ao38 t258.length co38,.int .i64 t261] 28 (0,0)) (by(with_reducible repeat (first|refine blk_drewN ?_ _|refine blk_drew ?_|refine blk_alloc ?_ _));refine blk_put (cs:=#[.int .i64 t257,.slice Ao38 t258.length co38,.int .i64 0]) ?_ 2 _ rfl;(with_reducible repeat (first|refine blk_drewN ?_ _|refine blk_drew ?_|refine blk_alloc ?_ _));refine blk_put (cs:=#[.int .i64 t257,.slice none 0 0,.int .i64 0]) ?_ 1 _ rfl;(with_reducible repeat (first|refine blk_drewN ?_ _|refine blk_drew ?_|refine blk_alloc ?_ _));refine blk_put (cs:=#[.int .i64 0,.slice none 0 0,.int .i64 0]) ?_ 0 _ rfl;(with_reducible repeat (first|refine blk_drewN ?_ _|refine blk_drew ?_|refine blk_alloc ?_ _));exact BK263.out) hb);have n8_:=Aside0.mk (below_step (bS4 GE237.out GE250.out GE256.out GE263.out) hb);clear HO242 HO247 HO254 HO260 BK237 BK250 BK256 BK263 HB;have HO242:=n0_;have HO247:=n1_;have HO254:=n2_;have HO260:=n3_;have BK237:=n4_;have BK250:=n5_;have BK256:=n6_;have BK263:=n7_;have HB:=n8_;clear n0_ n1_ n2_ n3_ n4_ n5_ n6_ n7_ n8_;(try clear hb);(try clear hb2);(try clear hk);(try clear hi)))
    go_meet
    case rel=>exact⟨_,(true),(bR),H',⟨by first|omega|exact Nat.le_refl _⟩,⟨by(with_reducible repeat (first|apply Kd.S_alloc|apply Kd.S_drewN|apply Kd.S_drew));exact Kd.S_mono HO247.out (fun _ hk=>⟨hk.1.2,hk.2⟩)⟩,⟨by(with_reducible repeat (first|apply Kd.S_alloc|apply Kd.S_drewN|apply Kd.S_drew));exact Kd.S_mono HO254.out (fun _ hk=>⟨hk.1.2,hk.2⟩)⟩,⟨by(with_reducible repeat (first|apply Kd.S_alloc|apply Kd.S_drewN|apply Kd.S_drew));exact Kd.S_mono HO260.out (fun _ hk=>⟨hk.1.2,hk.2⟩)⟩,⟨by(with_reducible repeat (first|refine blk_drewN ?_ _|refine blk_drew ?_|refine blk_alloc ?_ _));exact BK237.out⟩,⟨by(with_reducible repeat (first|refine blk_drewN ?_ _|refine blk_drew ?_|refine blk_alloc ?_ _));exact BK250.out⟩,⟨by(with_reducible repeat (first|refine blk_drewN ?_ _|refine blk_drew ?_|refine blk_alloc ?_ _));exact BK256.out⟩,⟨by(with_reducible repeat (first|refine blk_drewN ?_ _|refine blk_drew ?_|refine blk_alloc ?_ _));exact BK263.out⟩,⟨bS4 GE237.out GE250.out GE256.out GE263.out⟩⟩
  case rest =>
   clear HC13
   try clear c1
   try clear c2
   try clear p2
   try clear c3
   try clear c4
   try clear c5
   try clear c5b0
   try clear c15
   try clear c16
   try clear c17
   try clear c18
   try clear c19
   try clear c22
   try clear c28
   try clear c29
   try clear c34
   try clear c35
   try clear c36
   try clear c40
   try clear c41
   try clear c42
   try clear c43
   try clear c45
   try clear c46
   try clear c49
   try clear c50
   try clear c51
   try clear c53
   try clear c54
   try clear hcz15_0 hcz15_1 hcz15_2
   try clear hcz17_0 hcz17_1 hcz17_2
   try clear hcz23_0 hcz23_1 hcz23_2
   try clear hcz25_0 hcz25_1 hcz25_2
   try clear hcz30_0 hcz30_1 hcz30_2
   try clear hcz37_0 hcz37_1 hcz37_2
   try clear hcz44_0 hcz44_1 hcz44_2
   try clear hcz47_0 hcz47_1 hcz47_2
   try clear hcz52_0 hcz52_1 hcz52_2
   try clear hcz55_0 hcz55_1 hcz55_2
   try clear hcz7_0 hcz7_1 hcz7_2
   try clear hfz15_0 hfz15_1 hfz15_2
   try clear hfz17_0 hfz17_1 hfz17_2
   try clear hfz23_0 hfz23_1 hfz23_2
   try clear hfz25_0 hfz25_1 hfz25_2
   try clear hfz30_0 hfz30_1 hfz30_2
   try clear hfz37_0 hfz37_1 hfz37_2
   try clear hfz44_0 hfz44_1 hfz44_2
   try clear hfz47_0 hfz47_1 hfz47_2
   try clear hfz52_0 hfz52_1 hfz52_2
   try clear hfz55_0 hfz55_1 hfz55_2
   try clear hfz7_0 hfz7_1 hfz7_2
   obtain⟨kq,x48_12,rfl,HA,HJ12,HO_251001,HO_257001,HO_264001,BK237,BK250,BK256,BK263,HB⟩:=hcut
   cases kq with
   | zero=>exact absurd HA.out (by simp[laws_FnExactPutLong.j0])
   | succ kj12 =>
    have H:=HA.out
    clear HA
    simp only[laws_FnExactPutLong.j0] at H
    by_cases c57:x48_12=true
    ·subst c57
     have H1:(some false)=some r:=by rw[if_pos rfl] at H;exact H
     clear H
     have H:=H1
     clear H1
     obtain rfl:=Option.some.inj H
     go_wp2
     go_ret
     exact⟨bE,bS4 GE237.out GE250.out GE256.out GE263.out⟩
    ·replace c57:=Bool.eq_false_iff.mpr c57
     subst c57
     have H1:((laws_toTurns.f kj12 a0_0 l0_1 a0_2).bind fun bt265=>((laws_eqTurns.f kj12 t251 t252 t255 bt265.1 bt265.2.1 bt265.2.2).bind fun t270=>(if t270=true then ((laws_markTurns.f kj12 t251 t252 t255 1).bind fun bt271=>(if bt271.1 < 0 then (laws_FnExactPutLong.j1 kj12 a1 a2 t249 true a0_0 l0_1 a0_2 t244 t245 t248 t257 t258 t261) else ((laws_eqTurns.f kj12 t257 t258 t261 t244 t245 t248).bind fun t273=>(if t273=true then (laws_FnExactPutLong.j1 kj12 a1 a2 t249 (t262 != t249) a0_0 l0_1 a0_2 t244 t245 t248 t257 t258 t261) else (laws_FnExactPutLong.j1 kj12 a1 a2 t249 true a0_0 l0_1 a0_2 t244 t245 t248 t257 t258 t261))))) else (some false))))=some r:=by rw[if_neg (show ¬ (false=true) by decide)] at H;exact H
     clear H
     have H:=H1
     clear H1
     replace H:=Option.bind_eq_some_iff.mp H
     obtain⟨⟨t265,t266,t269⟩,A580,H⟩:=H
     replace H:((laws_eqTurns.f kj12 t251 t252 t255 t265 t266 t269).bind fun t270=>(if t270=true then ((laws_markTurns.f kj12 t251 t252 t255 1).bind fun bt271=>(if bt271.1 < 0 then (laws_FnExactPutLong.j1 kj12 a1 a2 t249 true a0_0 l0_1 a0_2 t244 t245 t248 t257 t258 t261) else ((laws_eqTurns.f kj12 t257 t258 t261 t244 t245 t248).bind fun t273=>(if t273=true then (laws_FnExactPutLong.j1 kj12 a1 a2 t249 (t262 != t249) a0_0 l0_1 a0_2 t244 t245 t248 t257 t258 t261) else (laws_FnExactPutLong.j1 kj12 a1 a2 t249 true a0_0 l0_1 a0_2 t244 t245 t248 t257 t258 t261))))) else (some false)))=some r:=H
     have A58:=Aside0.mk A580
     clear A580
     replace H:=Option.bind_eq_some_iff.mp H
     obtain⟨t270,A590,H⟩:=H
     replace H:(if t270=true then ((laws_markTurns.f kj12 t251 t252 t255 1).bind fun bt271=>(if bt271.1 < 0 then (laws_FnExactPutLong.j1 kj12 a1 a2 t249 true a0_0 l0_1 a0_2 t244 t245 t248 t257 t258 t261) else ((laws_eqTurns.f kj12 t257 t258 t261 t244 t245 t248).bind fun t273=>(if t273=true then (laws_FnExactPutLong.j1 kj12 a1 a2 t249 (t262 != t249) a0_0 l0_1 a0_2 t244 t245 t248 t257 t258 t261) else (laws_FnExactPutLong.j1 kj12 a1 a2 t249 true a0_0 l0_1 a0_2 t244 t245 t248 t257 t258 t261))))) else (some false))=some r:=H
     have A59:=Aside0.mk A590
     clear A590
     by_cases c60:t270=true
     ·subst c60
      have H1:((laws_markTurns.f kj12 t251 t252 t255 1).bind fun bt271=>(if bt271.1 < 0 then (laws_FnExactPutLong.j1 kj12 a1 a2 t249 true a0_0 l0_1 a0_2 t244 t245 t248 t257 t258 t261) else ((laws_eqTurns.f kj12 t257 t258 t261 t244 t245 t248).bind fun t273=>(if t273=true then (laws_FnExactPutLong.j1 kj12 a1 a2 t249 (t262 != t249) a0_0 l0_1 a0_2 t244 t245 t248 t257 t258 t261) else (laws_FnExactPutLong.j1 kj12 a1 a2 t249 true a0_0 l0_1 a0_2 t244 t245 t248 t257 t258 t261)))))=some r:=by rw[if_pos rfl] at H;exact H
      clear H
      have H:=H1
      clear H1
      replace H:=Option.bind_eq_some_iff.mp H
      obtain⟨⟨t271,t272⟩,A610,H⟩:=H
      replace H:(if t271 < 0 then (laws_FnExactPutLong.j1 kj12 a1 a2 t249 true a0_0 l0_1 a0_2 t244 t245 t248 t257 t258 t261) else ((laws_eqTurns.f kj12 t257 t258 t261 t244 t245 t248).bind fun t273=>(if t273=true then (laws_FnExactPutLong.j1 kj12 a1 a2 t249 (t262 != t249) a0_0 l0_1 a0_2 t244 t245 t248 t257 t258 t261) else (laws_FnExactPutLong.j1 kj12 a1 a2 t249 true a0_0 l0_1 a0_2 t244 t245 t248 t257 t258 t261))))=some r:=H
      have A61:=Aside0.mk A610
      clear A610
      have HC62:=Aside0.mk H
      clear H
      try go_wp2
      have n0_:=Aside0.mk (Kd.S_drew HO_251001.out)
      have n1_:=Aside0.mk (Kd.S_drew HO_257001.out)
      have n2_:=Aside0.mk (Kd.S_drew HO_264001.out)
      have n3_:=Aside0.mk (blk_drew BK237.out)
      have n4_:=Aside0.mk (blk_drew BK250.out)
      have n5_:=Aside0.mk (blk_drew BK256.out)
      have n6_:=Aside0.mk (blk_drew BK263.out)
      have n7_:=Aside0.mk (below_drew1 HB.out)
      clear HO_251001 HO_257001 HO_264001 BK237 BK250 BK256 BK263 HB
      have HO_251001:=n0_
      have HO_257001:=n1_
      have HO_264001:=n2_
      have BK237:=n3_
      have BK250:=n4_
      have BK256:=n5_
      have BK263:=n6_
      have HB:=n7_
      clear n0_ n1_ n2_ n3_ n4_ n5_ n6_ n7_
      refine start_ (n:=5) (S:=fun w'=>w'.cell? ⟨gb256,0,none⟩=some (.int .i64 t251)∧w'.cell? ⟨gb256,1,none⟩=some (.slice Ao31 t252.length co31)∧w'.cell? ⟨gb256,2,none⟩=some (.int .i64 t255)∧w'.cell? ⟨gb237,0,none⟩=some (.int .i64 a0_0)∧w'.cell? ⟨gb237,1,none⟩=some (.slice A0_1 l0_1.length c0_1)∧w'.cell? ⟨gb237,2,none⟩=some (.int .i64 a0_2)) (ds:=[]) #[false,false,false,false,false] (by kernel_rfl) rfl rfl ⟨(blk_cell BK256.out 0).trans rfl,(blk_cell BK256.out 1).trans rfl,(blk_cell BK256.out 2).trans rfl,(blk_cell BK237.out 0).trans rfl,(blk_cell BK237.out 1).trans rfl,(blk_cell BK237.out 2).trans rfl⟩ (fun hHeld => ?_)
      generalize wc.drew=w63 at HO_251001 HO_257001 HO_264001 BK237 BK250 BK256 BK263 HB hHeld ⊢
      refine take_ (i:=0) (N:=some 49) (v:=?_) (a':=?_) #[true,false,false,false,false] rfl rfl (by kernel_rfl) (fun _ _ _ h=>h) (Or.inl ⟨by rfl,?_⟩) hHeld ?_ ?_
      rotate_left
      ·rintro w' ⟨s0,s1,s2,s3,s4,s5⟩
       go_simp
       with_reducible rfl
      rotate_left
      ·simp only[Act.put,List.setIfInBounds_toArray,List.set_cons_zero,List.set_cons_succ,i64_w,i32_w]
       rfl
      refine take_ (i:=1) (N:=some 50) (v:=?_) (a':=?_) #[true,true,false,false,false] rfl rfl (by kernel_rfl) (fun _ _ _ h=>h) (Or.inl ⟨by rfl,?_⟩) hHeld ?_ ?_
      rotate_left
      ·rintro w' ⟨s0,s1,s2,s3,s4,s5⟩
       go_simp
       with_reducible rfl
      rotate_left
      ·simp only[Act.put,List.setIfInBounds_toArray,List.set_cons_zero,List.set_cons_succ,i64_w,i32_w]
       rfl
      refine one_ (i:=2) (N:=some 51) #[true,true,true,false,false] rfl rfl (by kernel_rfl) (by decide) (fun K hK => ?_)
      refine goes_ Try.func17 (by kernel_rfl) rfl #[.agg #[.int .i64 a0_0,.slice A0_1 l0_1.length c0_1,.int .i64 a0_2]] (by rfl) rfl rfl (by(try simp only[List.map_toArray,List.map_cons,List.map_nil]);first|done|rfl|(simp only[List.length_drop,List.length_take];rfl)) ?_
      with_reducible refine(laws_toTurns.calls kj12 a0_0 _ _ l0_1 a0_2 t265 t266 t269 _ ?side1 ?side2 A58.out).mono ?_
      (case side1=>exact bC HR0_1.out)
      (case side2=>exact HC0_1.out)
      rintro e w64 ⟨v267,rfl,ho0,hb⟩
      refine⟨_,rfl,?_⟩
      obtain⟨N267_,hN_⟩:=sizeof_ hb
      have n0_:=Aside0.mk (S_oldN (by(with_reducible repeat (first|apply Kd.S_alloc|apply Kd.S_drewN|apply Kd.S_drew));exact HO_251001.out) hb hN_)
      have n1_:=Aside0.mk (S_oldN (by(with_reducible repeat (first|apply Kd.S_alloc|apply Kd.S_drewN|apply Kd.S_drew));exact HO_257001.out) hb hN_)
      have n2_:=Aside0.mk (S_oldN (by(with_reducible repeat (first|apply Kd.S_alloc|apply Kd.S_drewN|apply Kd.S_drew));exact HO_264001.out) hb hN_)
      have n3_:=Aside0.mk (Kd.S_lower (S_newN (S_newN (S_newN ho0 hN_) hN_) hN_) (below_size (bS4 GE237.out GE250.out GE256.out GE263.out)))
      have n4_:=Aside0.mk (bM BK237.out hb)
      have n5_:=Aside0.mk (bM BK250.out hb)
      have n6_:=Aside0.mk (bM BK256.out hb)
      have n7_:=Aside0.mk (bM BK263.out hb)
      have n8_:=Aside0.mk (below_step (bS4 GE237.out GE250.out GE256.out GE263.out) hb)
      clear HO_251001 HO_257001 HO_264001 BK237 BK250 BK256 BK263 HB
      have HO_251001:=n0_
      have HO_257001:=n1_
      have HO_264001:=n2_
      have HO268:=n3_
      have BK237:=n4_
      have BK250:=n5_
      have BK256:=n6_
      have BK263:=n7_
      have HB:=n8_
      clear n0_ n1_ n2_ n3_ n4_ n5_ n6_ n7_ n8_
      (try clear hb)
      (try clear hb2)
      (try clear hk)
      (try clear hi)
      (try clear ho0)
      obtain⟨Ao65,co65,eo65⟩:=Kd.S_slice HO268.out
      (first|subst eo65|(injection eo65 with f1_ f2_ f3_;have f4_:=f1_.symm;have f5_:=f3_.symm;clear f1_ f2_ f3_;subst f4_;subst f5_))
      refine hK.out _ _ ⟨(blk_cell BK256.out 0).trans rfl,(blk_cell BK256.out 1).trans rfl,(blk_cell BK256.out 2).trans rfl,(blk_cell BK237.out 0).trans rfl,(blk_cell BK237.out 1).trans rfl,(blk_cell BK237.out 2).trans rfl⟩ (fun hHeld => ?_)
      clear hK K
      refine norm_ (a':=?_) ?_ ?_
      rotate_left
      ·show Act.put _ (some 51) _=_
       simp only[Act.put,List.setIfInBounds_toArray,List.set_cons_zero,List.set_cons_succ,i64_w,i32_w]
       rfl
      refine one_ (i:=3) (N:=some 52) #[true,true,true,true,false] rfl rfl (by kernel_rfl) (by decide) (fun K hK => ?_)
      refine goes_ Try.func19 (by kernel_rfl) rfl #[.agg #[.int .i64 t251,.slice Ao31 t252.length co31,.int .i64 t255],.agg #[.int .i64 t265,.slice Ao65 t266.length co65,.int .i64 t269]] (by rfl) rfl rfl (by(try simp only[List.map_toArray,List.map_cons,List.map_nil]);first|done|rfl|(simp only[List.length_drop,List.length_take];rfl)) ?_
      with_reducible refine(laws_eqTurns.calls kj12 t251 _ _ t252 t255 t265 _ _ t266 t269 true _ ?side1 ?side2 ?side3 ?side4 A59.out).mono ?_
      (case side1=>repeat (first|exact(Kd.S_reads' HO_257001.out).2.2|(with_reducible refine Kd.C_alloc ?_ _)|(with_reducible refine Kd.C_drewN ?_ _)|(with_reducible refine Kd.C_drew ?_)))
      (case side2=>exact(Kd.S_reads' HO_257001.out).2.1)
      (case side3=>repeat (first|exact(Kd.S_reads' HO268.out).2.2|(with_reducible refine Kd.C_alloc ?_ _)|(with_reducible refine Kd.C_drewN ?_ _)|(with_reducible refine Kd.C_drew ?_)))
      (case side4=>exact(Kd.S_reads' HO268.out).2.1)
      rintro e w66 ⟨rfl,hb⟩
      refine⟨_,rfl,?_⟩
      have n0_:=Aside0.mk (Kd.S_below (by(with_reducible repeat (first|apply Kd.S_alloc|apply Kd.S_drewN|apply Kd.S_drew));exact HO_251001.out) hb)
      have n1_:=Aside0.mk (Kd.S_below (by(with_reducible repeat (first|apply Kd.S_alloc|apply Kd.S_drewN|apply Kd.S_drew));exact HO_257001.out) hb)
      have n2_:=Aside0.mk (Kd.S_below (by(with_reducible repeat (first|apply Kd.S_alloc|apply Kd.S_drewN|apply Kd.S_drew));exact HO_264001.out) hb)
      have n3_:=Aside0.mk (Kd.S_below (by(with_reducible repeat (first|apply Kd.S_alloc|apply Kd.S_drewN|apply Kd.S_drew));exact HO268.out) hb)
      have n4_:=Aside0.mk (bM BK237.out hb)
      have n5_:=Aside0.mk (bM BK250.out hb)
      have n6_:=Aside0.mk (bM BK256.out hb)
      have n7_:=Aside0.mk (bM BK263.out hb)
      have n8_:=Aside0.mk (below_step (bS4 GE237.out GE250.out GE256.out GE263.out) hb)
      clear HO_251001 HO_257001 HO_264001 HO268 BK237 BK250 BK256 BK263 HB
      have HO_251001:=n0_
      have HO_257001:=n1_
      have HO_264001:=n2_
      have HO268:=n3_
      have BK237:=n4_
      have BK250:=n5_
      have BK256:=n6_
      have BK263:=n7_
      have HB:=n8_
      clear n0_ n1_ n2_ n3_ n4_ n5_ n6_ n7_ n8_
      (try clear hb)
      (try clear hb2)
      (try clear hk)
      (try clear hi)
      refine hK.out _ _ ⟨(blk_cell BK256.out 0).trans rfl,(blk_cell BK256.out 1).trans rfl,(blk_cell BK256.out 2).trans rfl,(blk_cell BK237.out 0).trans rfl,(blk_cell BK237.out 1).trans rfl,(blk_cell BK237.out 2).trans rfl⟩ (fun hHeld => ?_)
      clear hK K
      refine norm_ (a':=?_) ?_ ?_
      rotate_left
      ·show Act.put _ (some 52) _=_
       simp only[Act.put,List.setIfInBounds_toArray,List.set_cons_zero,List.set_cons_succ,i64_w,i32_w]
       rfl
      refine pure_ (i:=4) (N:=some 53) (v:=?_) (a':=?_) #[true,true,true,true,true] rfl rfl (by kernel_rfl) (fun _ _ _ h=>h) (Or.inl ⟨by rfl,?_⟩) ?_ ?_
      rotate_left
      ·intro w'
       go_simp
       with_reducible rfl
      rotate_left
      ·simp only[Act.put,List.setIfInBounds_toArray,List.set_cons_zero,List.set_cons_succ,i64_w,i32_w]
       rfl
      refine done_ (by kernel_rfl) ?_
      have hnb67:=NB256_237.out
      have hnc67:=NB237_256.out
      have hnb68:=NB256_250.out
      have hnc68:=NB250_256.out
      have hnb69:=NB256_263.out
      have hnc69:=NB263_256.out
      obtain⟨hcz70_0,hcz70_1,hcz70_2⟩:=cC3 BK256.out
      obtain⟨hfz70_0,hfz70_1,hfz70_2⟩:=cF3 BK256.out
      go_upto_region 14 with (first|((with_reducible refine gate_callee (f:=20) rfl ?_);refine goesA (some 56) rfl rfl Try.func20 #[.agg #[.int .i64 t251,.slice Ao31 t252.length co31,.int .i64 t255],.int .i64 1] rfl ?_;obtain⟨P0_,hPS_,hPO_,hPB_⟩:=markable_ HO_257001.out;(with_reducible refine(laws_markTurns.calls kj12 t251 P0_ (.slice Ao31 t252.length co31) t252 t255 1 t271 t272 w _ ?side1 ?side2 A61.out).mono ?_);(case side1=>repeat (first|(with_reducible first|exact HB.out|apply below_alloc|apply pw_below_drewN|apply below_drew1|refine below_set ?_ GE237.out|refine below_set ?_ GE250.out|refine below_set ?_ GE256.out|refine below_set ?_ GE263.out)|exact HB.out));(case side2=>exact hPS_);rintro e w71 ⟨rfl,hy0,hb,hkp⟩;refine⟨_,rfl,?_⟩;have n0_:=Aside0.mk (Kd.S_mono (ok':=fun k_=>k_ < N253_∧k_ < N259_∧k_ < N267_) (Kd.S_keptB (HO_251001.out) hkp (fun k_ hk_ hs_=>by have h1_:=hPO_ k_ hs_;(try dsimp only at h1_ hk_);omega)) (fun k_ hk_=>⟨hk_.1.1.1,hk_.1.1.2,hk_.1.2⟩));have n1_:=Aside0.mk (Kd.S_mono hy0 (fun k_ h_=>hPO_ k_ h_));have n2_:=Aside0.mk (Kd.S_mono (ok':=fun k_=>N259_≤k_∧N259_≤k_∧k_ < N267_) (Kd.S_keptB (HO_264001.out) hkp (fun k_ hk_ hs_=>by have h1_:=hPO_ k_ hs_;(try dsimp only at h1_ hk_);omega)) (fun k_ hk_=>⟨hk_.1.1.1,hk_.1.1.2,hk_.1.2⟩));have n3_:=Aside0.mk (blk_kept (bL BK237.out) hkp (hPB_ _ _ _ BK237.out (by decide)));have n4_:=Aside0.mk (blk_kept (bL BK250.out) hkp (hPB_ _ _ _ BK250.out (by decide)));have n5_:=Aside0.mk (blk_kept (bL BK256.out) hkp (hPB_ _ _ _ BK256.out (by decide)));have n6_:=Aside0.mk (blk_kept (bL BK263.out) hkp (hPB_ _ _ _ BK263.out (by decide)));have n7_:=Aside0.mk (Kd.S_mono (ok':=fun k_=>N267_≤k_∧N267_≤k_∧N267_≤k_) (Kd.S_keptB (HO268.out) hkp (fun k_ hk_ hs_=>by have h1_:=hPO_ k_ hs_;(try dsimp only at h1_ hk_);omega)) (fun k_ hk_=>⟨hk_.1.1.1.2,hk_.1.1.2,hk_.1.2⟩));have n8_:=Aside0.mk (hb);clear HO_251001 HO_257001 HO_264001 BK237 BK250 BK256 BK263 HO268 HB;have HO_251001:=n0_;have HO_257001:=n1_;have HO_264001:=n2_;have BK237:=n3_;have BK250:=n4_;have BK256:=n5_;have BK263:=n6_;have HO268:=n7_;have HB:=n8_;clear n0_ n1_ n2_ n3_ n4_ n5_ n6_ n7_ n8_;(try clear hb);(try clear hkp);(try clear hy0)))
      (try simp only[Act.put,List.setIfInBounds_toArray,List.set_cons_zero,List.set_cons_succ])
      go_cut [69] (fun v69 wc => ∃ (kq:Nat) (x69_61:Bool),v69=.bool x69_61∧Aside0 (laws_FnExactPutLong.j1 kq a1 a2 t249 x69_61 a0_0 l0_1 a0_2 t244 t245 t248 t257 t258 t261=some r)∧Aside0 (kq≤kj12)∧Aside0 (Kd.S k116 116 wc w.heap.size (fun k_=>k_ < N253_∧k_ < N259_) (.slice Ao24 t245.length co24) t245)∧Aside0 (Kd.S k116 116 wc w.heap.size (fun k_=>N253_≤k_∧k_ < N259_) (.slice Ao31 t252.length co31) t272)∧Aside0 (Kd.S k116 116 wc w.heap.size (fun k_=>N259_≤k_∧N259_≤k_) (.slice Ao38 t258.length co38) t258)∧Aside0 (wc.heap[gb237]?=some (.cells #[.int .i64 a0_0,(.slice A0_1 l0_1.length c0_1),.int .i64 a0_2] 24 (0,0)))∧Aside0 (wc.heap[gb250]?=some (.cells #[.int .i64 t244,(.slice Ao24 t245.length co24),.int .i64 t248] 28 (0,0)))∧Aside0 (wc.heap[gb256]?=some (.cells #[.int .i64 t251,(.slice Ao31 t252.length co31),.int .i64 t255] 28 (0,0)))∧Aside0 (wc.heap[gb263]?=some (.cells #[.int .i64 t257,(.slice Ao38 t258.length co38),.int .i64 t261] 28 (0,0)))∧Aside0 (Below w.heap.size w wc))
      case first =>
       have H:=HC62.out
       clear HC62
       by_cases c72:t271 < 0
       ·rw[if_pos c72] at H
        have c72b0:decide (t271 < 0)=true:=decide_eq_true c72
        clear c72
        (first|rw[c72b0]|(simp only[i64_w,i32_w];rw[c72b0])|skip)
        have H':=Aside0.mk H
        clear H
        go_wp2
        go_meet
        case rel=>exact⟨_,(true),(bR),H',⟨by have:=HJ12.out;first|omega|exact Nat.le_refl _⟩,⟨by(with_reducible repeat (first|apply Kd.S_alloc|apply Kd.S_drewN|apply Kd.S_drew));exact Kd.S_mono HO_251001.out (fun _ hk=>⟨hk.1,hk.2.1⟩)⟩,⟨by(with_reducible repeat (first|apply Kd.S_alloc|apply Kd.S_drewN|apply Kd.S_drew));exact Kd.S_mono HO_257001.out (fun _ hk=>⟨hk.1.1,hk.1.2⟩)⟩,⟨by(with_reducible repeat (first|apply Kd.S_alloc|apply Kd.S_drewN|apply Kd.S_drew));exact Kd.S_mono HO_264001.out (fun _ hk=>⟨hk.1,hk.2.1⟩)⟩,⟨by(with_reducible repeat (first|refine blk_drewN ?_ _|refine blk_drew ?_|refine blk_alloc ?_ _));exact BK237.out⟩,⟨by(with_reducible repeat (first|refine blk_drewN ?_ _|refine blk_drew ?_|refine blk_alloc ?_ _));exact BK250.out⟩,⟨by(with_reducible repeat (first|refine blk_drewN ?_ _|refine blk_drew ?_|refine blk_alloc ?_ _));exact BK256.out⟩,⟨by(with_reducible repeat (first|refine blk_drewN ?_ _|refine blk_drew ?_|refine blk_alloc ?_ _));exact BK263.out⟩,⟨bS4 GE237.out GE250.out GE256.out GE263.out⟩⟩
       ·rw[if_neg c72] at H
        have c72b0:decide (t271 < 0)=false:=decide_eq_false c72
        clear c72
        (first|rw[c72b0]|(simp only[i64_w,i32_w];rw[c72b0])|skip)
        replace H:=Option.bind_eq_some_iff.mp H
        obtain⟨t273,A730,H⟩:=H
        replace H:(if t273=true then (laws_FnExactPutLong.j1 kj12 a1 a2 t249 (t262 != t249) a0_0 l0_1 a0_2 t244 t245 t248 t257 t258 t261) else (laws_FnExactPutLong.j1 kj12 a1 a2 t249 true a0_0 l0_1 a0_2 t244 t245 t248 t257 t258 t261))=some r:=H
        have A73:=Aside0.mk A730
        clear A730
        by_cases c74:t273=true
        ·subst c74
         have H1:(laws_FnExactPutLong.j1 kj12 a1 a2 t249 (t262 != t249) a0_0 l0_1 a0_2 t244 t245 t248 t257 t258 t261)=some r:=by rw[if_pos rfl] at H;exact H
         clear H
         have H:=H1
         clear H1
         have H':=Aside0.mk H
         clear H
         have hnb75:=NB263_237.out
         have hnc75:=NB237_263.out
         have hnb76:=NB263_250.out
         have hnc76:=NB250_263.out
         have hnb77:=NB263_256.out
         have hnc77:=NB256_263.out
         obtain⟨hcz78_0,hcz78_1,hcz78_2⟩:=cC3 BK263.out
         obtain⟨hfz78_0,hfz78_1,hfz78_2⟩:=cF3 BK263.out
         have hnb79:=NB250_237.out
         have hnc79:=NB237_250.out
         have hnb80:=NB250_256.out
         have hnc80:=NB256_250.out
         obtain⟨hcz81_0,hcz81_1,hcz81_2⟩:=cC3 BK250.out
         obtain⟨hfz81_0,hfz81_1,hfz81_2⟩:=cF3 BK250.out
         go_wp2_with (first|(go_at_call 19;(with_reducible refine(laws_eqTurns.calls kj12 t257 _ _ t258 t261 t244 _ _ t245 t248 true _ ?side1 ?side2 ?side3 ?side4 A73.out).mono ?_);(case side1=>repeat (first|exact(Kd.S_reads' HO_264001.out).2.2|(with_reducible refine Kd.C_alloc ?_ _)|(with_reducible refine Kd.C_drewN ?_ _)|(with_reducible refine Kd.C_drew ?_)));(case side2=>exact(Kd.S_reads' HO_264001.out).2.1);(case side3=>repeat (first|exact(Kd.S_reads' HO_251001.out).2.2|(with_reducible refine Kd.C_alloc ?_ _)|(with_reducible refine Kd.C_drewN ?_ _)|(with_reducible refine Kd.C_drew ?_)));(case side4=>exact(Kd.S_reads' HO_251001.out).2.1);rintro e w82 ⟨rfl,hb⟩;have n0_:=Aside0.mk (Kd.S_below (by(with_reducible repeat (first|apply Kd.S_alloc|apply Kd.S_drewN|apply Kd.S_drew));exact HO_251001.out) hb);have n1_:=Aside0.mk (Kd.S_below (by(with_reducible repeat (first|apply Kd.S_alloc|apply Kd.S_drewN|apply Kd.S_drew));exact HO_257001.out) hb);have n2_:=Aside0.mk (Kd.S_below (by(with_reducible repeat (first|apply Kd.S_alloc|apply Kd.S_drewN|apply Kd.S_drew));exact HO_264001.out) hb);have n3_:=Aside0.mk (Kd.S_below (by(with_reducible repeat (first|apply Kd.S_alloc|apply Kd.S_drewN|apply Kd.S_drew));exact HO268.out) hb);have n4_:=Aside0.mk (bM BK237.out hb);have n5_:=Aside0.mk (bM BK250.out hb);have n6_:=Aside0.mk (bM BK256.out hb);have n7_:=Aside0.mk (bM BK263.out hb);have n8_:=Aside0.mk (below_step (bS4 GE237.out GE250.out GE256.out GE263.out) hb);clear HO_251001 HO_257001 HO_264001 HO268 BK237 BK250 BK256 BK263 HB;have HO_251001:=n0_;have HO_257001:=n1_;have HO_264001:=n2_;have HO268:=n3_;have BK237:=n4_;have BK250:=n5_;have BK256:=n6_;have BK263:=n7_;have HB:=n8_;clear n0_ n1_ n2_ n3_ n4_ n5_ n6_ n7_ n8_;(try clear hb);(try clear hb2);(try clear hk);(try clear hi)))
         go_meet
         case rel=>exact⟨_,((t262 != t249)),(bR),H',⟨by have:=HJ12.out;first|omega|exact Nat.le_refl _⟩,⟨by(with_reducible repeat (first|apply Kd.S_alloc|apply Kd.S_drewN|apply Kd.S_drew));exact Kd.S_mono HO_251001.out (fun _ hk=>⟨hk.1,hk.2.1⟩)⟩,⟨by(with_reducible repeat (first|apply Kd.S_alloc|apply Kd.S_drewN|apply Kd.S_drew));exact Kd.S_mono HO_257001.out (fun _ hk=>⟨hk.1.1,hk.1.2⟩)⟩,⟨by(with_reducible repeat (first|apply Kd.S_alloc|apply Kd.S_drewN|apply Kd.S_drew));exact Kd.S_mono HO_264001.out (fun _ hk=>⟨hk.1,hk.2.1⟩)⟩,⟨by(with_reducible repeat (first|refine blk_drewN ?_ _|refine blk_drew ?_|refine blk_alloc ?_ _));exact BK237.out⟩,⟨by(with_reducible repeat (first|refine blk_drewN ?_ _|refine blk_drew ?_|refine blk_alloc ?_ _));exact BK250.out⟩,⟨by(with_reducible repeat (first|refine blk_drewN ?_ _|refine blk_drew ?_|refine blk_alloc ?_ _));exact BK256.out⟩,⟨by(with_reducible repeat (first|refine blk_drewN ?_ _|refine blk_drew ?_|refine blk_alloc ?_ _));exact BK263.out⟩,⟨bS4 GE237.out GE250.out GE256.out GE263.out⟩⟩
        ·replace c74:=Bool.eq_false_iff.mpr c74
         subst c74
         have H1:(laws_FnExactPutLong.j1 kj12 a1 a2 t249 true a0_0 l0_1 a0_2 t244 t245 t248 t257 t258 t261)=some r:=by rw[if_neg (show ¬ (false=true) by decide)] at H;exact H
         clear H
         have H:=H1
         clear H1
         have H':=Aside0.mk H
         clear H
         have hnb83:=NB263_237.out
         have hnc83:=NB237_263.out
         have hnb84:=NB263_250.out
         have hnc84:=NB250_263.out
         have hnb85:=NB263_256.out
         have hnc85:=NB256_263.out
         obtain⟨hcz86_0,hcz86_1,hcz86_2⟩:=cC3 BK263.out
         obtain⟨hfz86_0,hfz86_1,hfz86_2⟩:=cF3 BK263.out
         have hnb87:=NB250_237.out
         have hnc87:=NB237_250.out
         have hnb88:=NB250_256.out
         have hnc88:=NB256_250.out
         obtain⟨hcz89_0,hcz89_1,hcz89_2⟩:=cC3 BK250.out
         obtain⟨hfz89_0,hfz89_1,hfz89_2⟩:=cF3 BK250.out
         go_wp2_with (first|(go_at_call 19;(with_reducible refine(laws_eqTurns.calls kj12 t257 _ _ t258 t261 t244 _ _ t245 t248 false _ ?side1 ?side2 ?side3 ?side4 A73.out).mono ?_);(case side1=>repeat (first|exact(Kd.S_reads' HO_264001.out).2.2|(with_reducible refine Kd.C_alloc ?_ _)|(with_reducible refine Kd.C_drewN ?_ _)|(with_reducible refine Kd.C_drew ?_)));(case side2=>exact(Kd.S_reads' HO_264001.out).2.1);(case side3=>repeat (first|exact(Kd.S_reads' HO_251001.out).2.2|(with_reducible refine Kd.C_alloc ?_ _)|(with_reducible refine Kd.C_drewN ?_ _)|(with_reducible refine Kd.C_drew ?_)));(case side4=>exact(Kd.S_reads' HO_251001.out).2.1);rintro e w90 ⟨rfl,hb⟩;have n0_:=Aside0.mk (Kd.S_below (by(with_reducible repeat (first|apply Kd.S_alloc|apply Kd.S_drewN|apply Kd.S_drew));exact HO_251001.out) hb);have n1_:=Aside0.mk (Kd.S_below (by(with_reducible repeat (first|apply Kd.S_alloc|apply Kd.S_drewN|apply Kd.S_drew));exact HO_257001.out) hb);have n2_:=Aside0.mk (Kd.S_below (by(with_reducible repeat (first|apply Kd.S_alloc|apply Kd.S_drewN|apply Kd.S_drew));exact HO_264001.out) hb);have n3_:=Aside0.mk (Kd.S_below (by(with_reducible repeat (first|apply Kd.S_alloc|apply Kd.S_drewN|apply Kd.S_drew));exact HO268.out) hb);have n4_:=Aside0.mk (bM BK237.out hb);have n5_:=Aside0.mk (bM BK250.out hb);have n6_:=Aside0.mk (bM BK256.out hb);have n7_:=Aside0.mk (bM BK263.out hb);have n8_:=Aside0.mk (below_step (bS4 GE237.out GE250.out GE256.out GE263.out) hb);clear HO_251001 HO_257001 HO_264001 HO268 BK237 BK250 BK256 BK263 HB;have HO_251001:=n0_;have HO_257001:=n1_;have HO_264001:=n2_;have HO268:=n3_;have BK237:=n4_;have BK250:=n5_;have BK256:=n6_;have BK263:=n7_;have HB:=n8_;clear n0_ n1_ n2_ n3_ n4_ n5_ n6_ n7_ n8_;(try clear hb);(try clear hb2);(try clear hk);(try clear hi)))
         go_meet
         case rel=>exact⟨_,(true),(bR),H',⟨by have:=HJ12.out;first|omega|exact Nat.le_refl _⟩,⟨by(with_reducible repeat (first|apply Kd.S_alloc|apply Kd.S_drewN|apply Kd.S_drew));exact Kd.S_mono HO_251001.out (fun _ hk=>⟨hk.1,hk.2.1⟩)⟩,⟨by(with_reducible repeat (first|apply Kd.S_alloc|apply Kd.S_drewN|apply Kd.S_drew));exact Kd.S_mono HO_257001.out (fun _ hk=>⟨hk.1.1,hk.1.2⟩)⟩,⟨by(with_reducible repeat (first|apply Kd.S_alloc|apply Kd.S_drewN|apply Kd.S_drew));exact Kd.S_mono HO_264001.out (fun _ hk=>⟨hk.1,hk.2.1⟩)⟩,⟨by(with_reducible repeat (first|refine blk_drewN ?_ _|refine blk_drew ?_|refine blk_alloc ?_ _));exact BK237.out⟩,⟨by(with_reducible repeat (first|refine blk_drewN ?_ _|refine blk_drew ?_|refine blk_alloc ?_ _));exact BK250.out⟩,⟨by(with_reducible repeat (first|refine blk_drewN ?_ _|refine blk_drew ?_|refine blk_alloc ?_ _));exact BK256.out⟩,⟨by(with_reducible repeat (first|refine blk_drewN ?_ _|refine blk_drew ?_|refine blk_alloc ?_ _));exact BK263.out⟩,⟨bS4 GE237.out GE250.out GE256.out GE263.out⟩⟩
      case rest =>
       clear HC62
       try clear c1
       try clear c2
       try clear p2
       try clear c3
       try clear c4
       try clear c5
       try clear c5b0
       try clear c6
       try clear c7
       try clear c8
       try clear c15
       try clear c16
       try clear c17
       try clear c18
       try clear c19
       try clear c20
       try clear c22
       try clear c28
       try clear c29
       try clear c34
       try clear c35
       try clear c36
       try clear c40
       try clear c41
       try clear c42
       try clear c43
       try clear c45
       try clear c46
       try clear c49
       try clear c50
       try clear c51
       try clear c53
       try clear c54
       try clear c57
       try clear c60
       try clear c67
       try clear c68
       try clear c69
       try clear c72
       try clear c72b0
       try clear c74
       try clear c75
       try clear c76
       try clear c77
       try clear c79
       try clear c80
       try clear c83
       try clear c84
       try clear c85
       try clear c87
       try clear c88
       try clear hcz15_0 hcz15_1 hcz15_2
       try clear hcz17_0 hcz17_1 hcz17_2
       try clear hcz23_0 hcz23_1 hcz23_2
       try clear hcz25_0 hcz25_1 hcz25_2
       try clear hcz30_0 hcz30_1 hcz30_2
       try clear hcz37_0 hcz37_1 hcz37_2
       try clear hcz44_0 hcz44_1 hcz44_2
       try clear hcz47_0 hcz47_1 hcz47_2
       try clear hcz52_0 hcz52_1 hcz52_2
       try clear hcz55_0 hcz55_1 hcz55_2
       try clear hcz70_0 hcz70_1 hcz70_2
       try clear hcz78_0 hcz78_1 hcz78_2
       try clear hcz7_0 hcz7_1 hcz7_2
       try clear hcz81_0 hcz81_1 hcz81_2
       try clear hcz86_0 hcz86_1 hcz86_2
       try clear hcz89_0 hcz89_1 hcz89_2
       try clear hfz15_0 hfz15_1 hfz15_2
       try clear hfz17_0 hfz17_1 hfz17_2
       try clear hfz23_0 hfz23_1 hfz23_2
       try clear hfz25_0 hfz25_1 hfz25_2
       try clear hfz30_0 hfz30_1 hfz30_2
       try clear hfz37_0 hfz37_1 hfz37_2
       try clear hfz44_0 hfz44_1 hfz44_2
       try clear hfz47_0 hfz47_1 hfz47_2
       try clear hfz52_0 hfz52_1 hfz52_2
       try clear hfz55_0 hfz55_1 hfz55_2
       try clear hfz70_0 hfz70_1 hfz70_2
       try clear hfz78_0 hfz78_1 hfz78_2
       try clear hfz7_0 hfz7_1 hfz7_2
       try clear hfz81_0 hfz81_1 hfz81_2
       try clear hfz86_0 hfz86_1 hfz86_2
       try clear hfz89_0 hfz89_1 hfz89_2
       try clear p2
       obtain⟨kq,x69_61,rfl,HA,HJ61,HO_251001,HO_257001,HO_264001,BK237,BK250,BK256,BK263,HB⟩:=hcut
       have hl257001_61:=(Kd.S_reads' HO_257001.out).1
       rw[hl257001_61] at HO_257001
       (try simp only[hl257001_61])
       (try simp only[hl257001_61] at BK237)
       (try simp only[hl257001_61] at BK250)
       (try simp only[hl257001_61] at BK256)
       (try simp only[hl257001_61] at BK263)
       (try simp only[hl257001_61] at HO_251001)
       (try simp only[hl257001_61] at HO_264001)
       cases kq with
       | zero=>exact absurd HA.out (by simp[laws_FnExactPutLong.j1])
       | succ kj61 =>
        have H:=HA.out
        clear HA
        simp only[laws_FnExactPutLong.j1] at H
        by_cases c91:x69_61=true
        ·subst c91
         have H1:(some false)=some r:=by rw[if_pos rfl] at H;exact H
         clear H
         have H:=H1
         clear H1
         obtain rfl:=Option.some.inj H
         go_wp2
         go_ret
         exact⟨bE,bS4 GE237.out GE250.out GE256.out GE263.out⟩
        ·replace c91:=Bool.eq_false_iff.mpr c91
         subst c91
         have H1:((laws_markTurns.f kj61 t257 t258 t261 1).bind fun bt274=>((laws_heldTurns.f kj61 t257 bt274.2 t261 1).bind fun t276=>(if t276 < 0 then (some false) else (if t276=bt274.1 then ((laws_toTurns.f kj61 a0_0 l0_1 a0_2).bind fun bt277=>((impl_PutLong.f kj61 bt277.1 bt277.2.1 bt277.2.2 a1 a2).bind fun bt282=>((laws_eqTurns.f kj61 bt282.1 bt282.2.1 bt282.2.2.1 t244 t245 t248).bind fun t289=>(if t289=true then (laws_FnExactPutLong.j2 kj61 bt274.1 (bt282.2.2.2 != t249) t257 bt274.2 t261) else (laws_FnExactPutLong.j2 kj61 bt274.1 true t257 bt274.2 t261))))) else (some false)))))=some r:=by rw[if_neg (show ¬ (false=true) by decide)] at H;exact H
         clear H
         have H:=H1
         clear H1
         replace H:=Option.bind_eq_some_iff.mp H
         obtain⟨⟨t274,t275⟩,A920,H⟩:=H
         replace H:((laws_heldTurns.f kj61 t257 t275 t261 1).bind fun t276=>(if t276 < 0 then (some false) else (if t276=t274 then ((laws_toTurns.f kj61 a0_0 l0_1 a0_2).bind fun bt277=>((impl_PutLong.f kj61 bt277.1 bt277.2.1 bt277.2.2 a1 a2).bind fun bt282=>((laws_eqTurns.f kj61 bt282.1 bt282.2.1 bt282.2.2.1 t244 t245 t248).bind fun t289=>(if t289=true then (laws_FnExactPutLong.j2 kj61 t274 (bt282.2.2.2 != t249) t257 t275 t261) else (laws_FnExactPutLong.j2 kj61 t274 true t257 t275 t261))))) else (some false))))=some r:=H
         have A92:=Aside0.mk A920
         clear A920
         replace H:=Option.bind_eq_some_iff.mp H
         obtain⟨t276,A930,H⟩:=H
         replace H:(if t276 < 0 then (some false) else (if t276=t274 then ((laws_toTurns.f kj61 a0_0 l0_1 a0_2).bind fun bt277=>((impl_PutLong.f kj61 bt277.1 bt277.2.1 bt277.2.2 a1 a2).bind fun bt282=>((laws_eqTurns.f kj61 bt282.1 bt282.2.1 bt282.2.2.1 t244 t245 t248).bind fun t289=>(if t289=true then (laws_FnExactPutLong.j2 kj61 t274 (bt282.2.2.2 != t249) t257 t275 t261) else (laws_FnExactPutLong.j2 kj61 t274 true t257 t275 t261))))) else (some false)))=some r:=H
         have A93:=Aside0.mk A930
         clear A930
         by_cases c94:t276 < 0
         ·rw[if_pos c94] at H
          have c94b0:decide (t276 < 0)=true:=decide_eq_true c94
          clear c94
          obtain rfl:=Option.some.inj H
          have hnb95:=NB263_237.out
          have hnc95:=NB237_263.out
          have hnb96:=NB263_250.out
          have hnc96:=NB250_263.out
          have hnb97:=NB263_256.out
          have hnc97:=NB256_263.out
          obtain⟨hcz98_0,hcz98_1,hcz98_2⟩:=cC3 BK263.out
          obtain⟨hfz98_0,hfz98_1,hfz98_2⟩:=cF3 BK263.out
          go_wp2_with (first|((with_reducible refine gate_callee (f:=20) rfl ?_);refine goesA (some 72) rfl rfl Try.func20 #[.agg #[.int .i64 t257,.slice Ao38 t258.length co38,.int .i64 t261],.int .i64 1] rfl ?_;obtain⟨P0_,hPS_,hPO_,hPB_⟩:=markable_ HO_264001.out;(with_reducible refine(laws_markTurns.calls kj61 t257 P0_ (.slice Ao38 t258.length co38) t258 t261 1 t274 t275 w _ ?side1 ?side2 A92.out).mono ?_);(case side1=>repeat (first|(with_reducible first|exact HB.out|apply below_alloc|apply pw_below_drewN|apply below_drew1|refine below_set ?_ GE237.out|refine below_set ?_ GE250.out|refine below_set ?_ GE256.out|refine below_set ?_ GE263.out)|exact HB.out));(case side2=>exact hPS_);rintro e w99 ⟨rfl,hy0,hb,hkp⟩;refine⟨_,rfl,?_⟩;have n0_:=Aside0.mk (Kd.S_mono (ok':=fun k_=>k_ < N253_∧k_ < N259_) (Kd.S_keptB (HO_251001.out) hkp (fun k_ hk_ hs_=>by have h1_:=hPO_ k_ hs_;(try dsimp only at h1_ hk_);omega)) (fun k_ hk_=>⟨hk_.1.1,hk_.1.2⟩));have n1_:=Aside0.mk (Kd.S_mono (ok':=fun k_=>N253_≤k_∧k_ < N259_) (Kd.S_keptB (HO_257001.out) hkp (fun k_ hk_ hs_=>by have h1_:=hPO_ k_ hs_;(try dsimp only at h1_ hk_);omega)) (fun k_ hk_=>⟨hk_.1.1,hk_.1.2⟩));have n2_:=Aside0.mk (Kd.S_mono hy0 (fun k_ h_=>hPO_ k_ h_));have n3_:=Aside0.mk (blk_kept (bL BK237.out) hkp (hPB_ _ _ _ BK237.out (by decide)));have n4_:=Aside0.mk (blk_kept (bL BK250.out) hkp (hPB_ _ _ _ BK250.out (by decide)));have n5_:=Aside0.mk (blk_kept (bL BK256.out) hkp (hPB_ _ _ _ BK256.out (by decide)));have n6_:=Aside0.mk (blk_kept (bL BK263.out) hkp (hPB_ _ _ _ BK263.out (by decide)));have n7_:=Aside0.mk (hb);clear HO_251001 HO_257001 HO_264001 BK237 BK250 BK256 BK263 HB;have HO_251001:=n0_;have HO_257001:=n1_;have HO_264001:=n2_;have BK237:=n3_;have BK250:=n4_;have BK256:=n5_;have BK263:=n6_;have HB:=n7_;clear n0_ n1_ n2_ n3_ n4_ n5_ n6_ n7_;(try clear hb);(try clear hkp);(try clear hy0);obtain⟨hcz100_0,hcz100_1,hcz100_2⟩:=cC3 BK263.out;obtain⟨hfz100_0,hfz100_1,hfz100_2⟩:=cF3 BK263.out)|((with_reducible refine gate_callee (f:=21) rfl ?_);refine goesL_ (some 75) rfl rfl Try.func21 (by kernel_rfl) rfl #[.agg #[.int .i64 t257,.slice Ao38 t275.length co38,.int .i64 t261],.int .i64 1] rfl (by(try simp only[List.map_toArray,List.map_cons,List.map_nil]);first|done|(rw[show t275.length=t258.length from (Kd.S_reads' HO_264001.out).1.symm]<;>rfl)|rfl|(simp only[List.length_drop,List.length_take];rfl)) ?_;(with_reducible refine(laws_heldTurns.calls kj61 t257 _ _ t275 t261 1 t276 _ ?side1 ?side2 A93.out).mono ?_);(case side1=>repeat (first|exact(Kd.S_reads' HO_264001.out).2.2|(with_reducible refine Kd.C_alloc ?_ _)|(with_reducible refine Kd.C_drewN ?_ _)|(with_reducible refine Kd.C_drew ?_)));(case side2=>rw[show t275.length=t258.length from (Kd.S_reads' HO_264001.out).1.symm];exact(Kd.S_reads' HO_264001.out).2.1);rintro e w101 ⟨rfl,hb⟩;refine⟨_,rfl,?_⟩;have n0_:=Aside0.mk (Kd.S_below (by(with_reducible repeat (first|apply Kd.S_alloc|apply Kd.S_drewN|apply Kd.S_drew));exact HO_251001.out) hb);have n1_:=Aside0.mk (Kd.S_below (by(with_reducible repeat (first|apply Kd.S_alloc|apply Kd.S_drewN|apply Kd.S_drew));exact HO_257001.out) hb);have n2_:=Aside0.mk (Kd.S_below (by(with_reducible repeat (first|apply Kd.S_alloc|apply Kd.S_drewN|apply Kd.S_drew));exact HO_264001.out) hb);have n3_:=Aside0.mk (bM BK237.out hb);have n4_:=Aside0.mk (bM BK250.out hb);have n5_:=Aside0.mk (bM BK256.out hb);have n6_:=Aside0.mk (bM BK263.out hb);have n7_:=Aside0.mk (below_step (bS4 GE237.out GE250.out GE256.out GE263.out) hb);clear HO_251001 HO_257001 HO_264001 BK237 BK250 BK256 BK263 HB;have HO_251001:=n0_;have HO_257001:=n1_;have HO_264001:=n2_;have BK237:=n3_;have BK250:=n4_;have BK256:=n5_;have BK263:=n6_;have HB:=n7_;clear n0_ n1_ n2_ n3_ n4_ n5_ n6_ n7_;(try clear hb);(try clear hb2);(try clear hk);(try clear hi)))
          go_ret
          exact⟨bE,bS4 GE237.out GE250.out GE256.out GE263.out⟩
         ·rw[if_neg c94] at H
          have c94b0:decide (t276 < 0)=false:=decide_eq_false c94
          clear c94
          by_cases c102:t276=t274
          ·rw[if_pos c102] at H
           have c102b0:(t276 == t274)=true:=beq_iff_eq.mpr c102
           have c102b1:(t276 != t274)=false:=bne_eq_false_iff_eq.mpr c102
           clear c102
           replace H:=Option.bind_eq_some_iff.mp H
           obtain⟨⟨t277,t278,t281⟩,A1030,H⟩:=H
           replace H:((impl_PutLong.f kj61 t277 t278 t281 a1 a2).bind fun bt282=>((laws_eqTurns.f kj61 bt282.1 bt282.2.1 bt282.2.2.1 t244 t245 t248).bind fun t289=>(if t289=true then (laws_FnExactPutLong.j2 kj61 t274 (bt282.2.2.2 != t249) t257 t275 t261) else (laws_FnExactPutLong.j2 kj61 t274 true t257 t275 t261))))=some r:=H
           have A103:=Aside0.mk A1030
           clear A1030
           replace H:=Option.bind_eq_some_iff.mp H
           obtain⟨⟨t282,t283,t286,t287⟩,A1040,H⟩:=H
           replace H:((laws_eqTurns.f kj61 t282 t283 t286 t244 t245 t248).bind fun t289=>(if t289=true then (laws_FnExactPutLong.j2 kj61 t274 (t287 != t249) t257 t275 t261) else (laws_FnExactPutLong.j2 kj61 t274 true t257 t275 t261)))=some r:=H
           have A104:=Aside0.mk A1040
           clear A1040
           have HC105:=Aside0.mk H
           clear H
           have hnb106:=NB263_237.out
           have hnc106:=NB237_263.out
           have hnb107:=NB263_250.out
           have hnc107:=NB250_263.out
           have hnb108:=NB263_256.out
           have hnc108:=NB256_263.out
           obtain⟨hcz109_0,hcz109_1,hcz109_2⟩:=cC3 BK263.out
           obtain⟨hfz109_0,hfz109_1,hfz109_2⟩:=cF3 BK263.out
           go_upto_region 25 with (first|((with_reducible refine gate_callee (f:=20) rfl ?_);refine goesA (some 72) rfl rfl Try.func20 #[.agg #[.int .i64 t257,.slice Ao38 t258.length co38,.int .i64 t261],.int .i64 1] rfl ?_;obtain⟨P0_,hPS_,hPO_,hPB_⟩:=markable_ HO_264001.out;(with_reducible refine(laws_markTurns.calls kj61 t257 P0_ (.slice Ao38 t258.length co38) t258 t261 1 t274 t275 w _ ?side1 ?side2 A92.out).mono ?_);(case side1=>repeat (first|(with_reducible first|exact HB.out|apply below_alloc|apply pw_below_drewN|apply below_drew1|refine below_set ?_ GE237.out|refine below_set ?_ GE250.out|refine below_set ?_ GE256.out|refine below_set ?_ GE263.out)|exact HB.out));(case side2=>exact hPS_);rintro e w110 ⟨rfl,hy0,hb,hkp⟩;refine⟨_,rfl,?_⟩;have n0_:=Aside0.mk (Kd.S_mono (ok':=fun k_=>k_ < N253_∧k_ < N259_) (Kd.S_keptB (HO_251001.out) hkp (fun k_ hk_ hs_=>by have h1_:=hPO_ k_ hs_;(try dsimp only at h1_ hk_);omega)) (fun k_ hk_=>⟨hk_.1.1,hk_.1.2⟩));have n1_:=Aside0.mk (Kd.S_mono (ok':=fun k_=>N253_≤k_∧k_ < N259_) (Kd.S_keptB (HO_257001.out) hkp (fun k_ hk_ hs_=>by have h1_:=hPO_ k_ hs_;(try dsimp only at h1_ hk_);omega)) (fun k_ hk_=>⟨hk_.1.1,hk_.1.2⟩));have n2_:=Aside0.mk (Kd.S_mono hy0 (fun k_ h_=>hPO_ k_ h_));have n3_:=Aside0.mk (blk_kept (bL BK237.out) hkp (hPB_ _ _ _ BK237.out (by decide)));have n4_:=Aside0.mk (blk_kept (bL BK250.out) hkp (hPB_ _ _ _ BK250.out (by decide)));have n5_:=Aside0.mk (blk_kept (bL BK256.out) hkp (hPB_ _ _ _ BK256.out (by decide)));have n6_:=Aside0.mk (blk_kept (bL BK263.out) hkp (hPB_ _ _ _ BK263.out (by decide)));have n7_:=Aside0.mk (hb);clear HO_251001 HO_257001 HO_264001 BK237 BK250 BK256 BK263 HB;have HO_251001:=n0_;have HO_257001:=n1_;have HO_264001:=n2_;have BK237:=n3_;have BK250:=n4_;have BK256:=n5_;have BK263:=n6_;have HB:=n7_;clear n0_ n1_ n2_ n3_ n4_ n5_ n6_ n7_;(try clear hb);(try clear hkp);(try clear hy0);obtain⟨hcz111_0,hcz111_1,hcz111_2⟩:=cC3 BK263.out;obtain⟨hfz111_0,hfz111_1,hfz111_2⟩:=cF3 BK263.out)|((with_reducible refine gate_callee (f:=21) rfl ?_);refine goesL_ (some 75) rfl rfl Try.func21 (by kernel_rfl) rfl #[.agg #[.int .i64 t257,.slice Ao38 t275.length co38,.int .i64 t261],.int .i64 1] rfl (by(try simp only[List.map_toArray,List.map_cons,List.map_nil]);first|done|(rw[show t275.length=t258.length from (Kd.S_reads' HO_264001.out).1.symm]<;>rfl)|rfl|(simp only[List.length_drop,List.length_take];rfl)) ?_;(with_reducible refine(laws_heldTurns.calls kj61 t257 _ _ t275 t261 1 t276 _ ?side1 ?side2 A93.out).mono ?_);(case side1=>repeat (first|exact(Kd.S_reads' HO_264001.out).2.2|(with_reducible refine Kd.C_alloc ?_ _)|(with_reducible refine Kd.C_drewN ?_ _)|(with_reducible refine Kd.C_drew ?_)));(case side2=>rw[show t275.length=t258.length from (Kd.S_reads' HO_264001.out).1.symm];exact(Kd.S_reads' HO_264001.out).2.1);rintro e w112 ⟨rfl,hb⟩;refine⟨_,rfl,?_⟩;have n0_:=Aside0.mk (Kd.S_below (by(with_reducible repeat (first|apply Kd.S_alloc|apply Kd.S_drewN|apply Kd.S_drew));exact HO_251001.out) hb);have n1_:=Aside0.mk (Kd.S_below (by(with_reducible repeat (first|apply Kd.S_alloc|apply Kd.S_drewN|apply Kd.S_drew));exact HO_257001.out) hb);have n2_:=Aside0.mk (Kd.S_below (by(with_reducible repeat (first|apply Kd.S_alloc|apply Kd.S_drewN|apply Kd.S_drew));exact HO_264001.out) hb);have n3_:=Aside0.mk (bM BK237.out hb);have n4_:=Aside0.mk (bM BK250.out hb);have n5_:=Aside0.mk (bM BK256.out hb);have n6_:=Aside0.mk (bM BK263.out hb);have n7_:=Aside0.mk (below_step (bS4 GE237.out GE250.out GE256.out GE263.out) hb);clear HO_251001 HO_257001 HO_264001 BK237 BK250 BK256 BK263 HB;have HO_251001:=n0_;have HO_257001:=n1_;have HO_264001:=n2_;have BK237:=n3_;have BK250:=n4_;have BK256:=n5_;have BK263:=n6_;have HB:=n7_;clear n0_ n1_ n2_ n3_ n4_ n5_ n6_ n7_;(try clear hb);(try clear hb2);(try clear hk);(try clear hi);have hnb113:=NB237_250.out;have hnc113:=NB250_237.out;have hnb114:=NB237_256.out;have hnc114:=NB256_237.out;obtain⟨hcz115_0,hcz115_1,hcz115_2⟩:=cC3 BK237.out;obtain⟨hfz115_0,hfz115_1,hfz115_2⟩:=cF3 BK237.out)|((with_reducible refine gate_callee (f:=17) rfl ?_);refine goesA (some 83) rfl rfl Try.func17 #[.agg #[.int .i64 a0_0,.slice A0_1 l0_1.length c0_1,.int .i64 a0_2]] rfl ?_;(with_reducible refine(laws_toTurns.calls kj61 a0_0 _ _ l0_1 a0_2 t277 t278 t281 _ ?side1 ?side2 A103.out).mono ?_);(case side1=>exact bC HR0_1.out);(case side2=>exact HC0_1.out);rintro e w116 ⟨v279,rfl,ho0,hb⟩;refine⟨_,rfl,?_⟩;obtain⟨N279_,hN_⟩:=sizeof_ hb;have n0_:=Aside0.mk (S_oldN (by(with_reducible repeat (first|apply Kd.S_alloc|apply Kd.S_drewN|apply Kd.S_drew));exact HO_251001.out) hb hN_);have n1_:=Aside0.mk (S_oldN (by(with_reducible repeat (first|apply Kd.S_alloc|apply Kd.S_drewN|apply Kd.S_drew));exact HO_257001.out) hb hN_);have n2_:=Aside0.mk (S_oldN (by(with_reducible repeat (first|apply Kd.S_alloc|apply Kd.S_drewN|apply Kd.S_drew));exact HO_264001.out) hb hN_);have n3_:=Aside0.mk (Kd.S_lower (S_newN (S_newN (S_newN ho0 hN_) hN_) hN_) (below_size (bS4 GE237.out GE250.out GE256.out GE263.out)));have n4_:=Aside0.mk (bM BK237.out hb);have n5_:=Aside0.mk (bM BK250.out hb);have n6_:=Aside0.mk (bM BK256.out hb);have n7_:=Aside0.mk (bM BK263.out hb);have n8_:=Aside0.mk (below_step (bS4 GE237.out GE250.out GE256.out GE263.out) hb);clear HO_251001 HO_257001 HO_264001 BK237 BK250 BK256 BK263 HB;have HO_251001:=n0_;have HO_257001:=n1_;have HO_264001:=n2_;have HO280:=n3_;have BK237:=n4_;have BK250:=n5_;have BK256:=n6_;have BK263:=n7_;have HB:=n8_;clear n0_ n1_ n2_ n3_ n4_ n5_ n6_ n7_ n8_;(try clear hb);(try clear hb2);(try clear hk);(try clear hi);(try clear ho0);obtain⟨Ao117,co117,eo117⟩:=Kd.S_slice HO280.out;subst eo117)|((with_reducible refine gate_callee (f:=18) rfl ?_);refine goesA (some 86) rfl rfl Try.func18 #[.agg #[.int .i64 t277,.slice Ao117 t278.length co117,.int .i64 t281],.int .i64 a1,.int .i64 a2] rfl ?_;(with_reducible refine(impl_PutLong.calls kj61 t277 _ _ t278 t281 a1 a2 t282 t283 t286 t287 _ ?side1 ?side2 A104.out).mono ?_);(case side1=>repeat (first|exact(Kd.S_reads' HO280.out).2.2|(with_reducible refine Kd.C_alloc ?_ _)|(with_reducible refine Kd.C_drewN ?_ _)|(with_reducible refine Kd.C_drew ?_)));(case side2=>exact(Kd.S_reads' HO280.out).2.1);rintro e w118 ⟨v284,rfl,ho0,hb⟩;refine⟨_,rfl,?_⟩;obtain⟨N284_,hN_⟩:=sizeof_ hb;have n0_:=Aside0.mk (S_oldN (by(with_reducible repeat (first|apply Kd.S_alloc|apply Kd.S_drewN|apply Kd.S_drew));exact HO_251001.out) hb hN_);have n1_:=Aside0.mk (S_oldN (by(with_reducible repeat (first|apply Kd.S_alloc|apply Kd.S_drewN|apply Kd.S_drew));exact HO_257001.out) hb hN_);have n2_:=Aside0.mk (S_oldN (by(with_reducible repeat (first|apply Kd.S_alloc|apply Kd.S_drewN|apply Kd.S_drew));exact HO_264001.out) hb hN_);have n3_:=Aside0.mk (S_oldN (by(with_reducible repeat (first|apply Kd.S_alloc|apply Kd.S_drewN|apply Kd.S_drew));exact HO280.out) hb hN_);have n4_:=Aside0.mk (Kd.S_lower (S_newN (S_newN (S_newN (S_newN ho0 hN_) hN_) hN_) hN_) (below_size (bS4 GE237.out GE250.out GE256.out GE263.out)));have n5_:=Aside0.mk (bM BK237.out hb);have n6_:=Aside0.mk (bM BK250.out hb);have n7_:=Aside0.mk (bM BK256.out hb);have n8_:=Aside0.mk (bM BK263.out hb);have n9_:=Aside0.mk (below_step (bS4 GE237.out GE250.out GE256.out GE263.out) hb);clear HO_251001 HO_257001 HO_264001 HO280 BK237 BK250 BK256 BK263 HB;have HO_251001:=n0_;have HO_257001:=n1_;have HO_264001:=n2_;have HO280:=n3_;have HO285:=n4_;have BK237:=n5_;have BK250:=n6_;have BK256:=n7_;have BK263:=n8_;have HB:=n9_;clear n0_ n1_ n2_ n3_ n4_ n5_ n6_ n7_ n8_ n9_;(try clear hb);(try clear hb2);(try clear hk);(try clear hi);(try clear ho0))|((with_reducible refine gate_dst (N:=16) rfl ?_);refine box_event ?hg (N:=16) ?hd (cs:=#[.int .i64 0,.slice none 0 0,.int .i64 0]) (t:=28) ?hr ?_;(case hd=>rfl);(case hg=>rfl);(case hr=>first|(go_simp;done)|(go_simp;rfl));intro gb288 hg w119 hbox hb;have n0_:=Aside0.mk (Kd.S_below (by(with_reducible repeat (first|apply Kd.S_alloc|apply Kd.S_drewN|apply Kd.S_drew));exact HO_251001.out) hb);have n1_:=Aside0.mk (Kd.S_below (by(with_reducible repeat (first|apply Kd.S_alloc|apply Kd.S_drewN|apply Kd.S_drew));exact HO_257001.out) hb);have n2_:=Aside0.mk (Kd.S_below (by(with_reducible repeat (first|apply Kd.S_alloc|apply Kd.S_drewN|apply Kd.S_drew));exact HO_264001.out) hb);have n3_:=Aside0.mk (Kd.S_below (by(with_reducible repeat (first|apply Kd.S_alloc|apply Kd.S_drewN|apply Kd.S_drew));exact HO280.out) hb);have n4_:=Aside0.mk (Kd.S_below (by(with_reducible repeat (first|apply Kd.S_alloc|apply Kd.S_drewN|apply Kd.S_drew));exact HO285.out) hb);have n5_:=Aside0.mk (bM BK237.out hb);have n6_:=Aside0.mk (bM BK250.out hb);have n7_:=Aside0.mk (bM BK256.out hb);have n8_:=Aside0.mk (bM BK263.out hb);have n9_:=Aside0.mk (below_step (bS4 GE237.out GE250.out GE256.out GE263.out) hb);have n10_:=Aside0.mk (hbox);have n11_:=Aside0.mk ((by rw[hg];exact(below_size (bS4 GE237.out GE250.out GE256.out GE263.out)):w.heap.size≤gb288));have n12_:=Aside0.mk ((by rw[hg];exact(below_size (bS4 GE237.out GE250.out GE256.out GE263.out)):w.heap.size≤gb288));have n13_:=Aside0.mk ((bN BK237.out hg:gb237≠gb288));have n14_:=Aside0.mk ((bO BK237.out hg:gb288≠gb237));have n15_:=Aside0.mk ((bN BK250.out hg:gb250≠gb288));have n16_:=Aside0.mk ((bO BK250.out hg:gb288≠gb250));have n17_:=Aside0.mk ((bN BK256.out hg:gb256≠gb288));have n18_:=Aside0.mk ((bO BK256.out hg:gb288≠gb256));have n19_:=Aside0.mk ((bN BK263.out hg:gb263≠gb288));have n20_:=Aside0.mk ((bO BK263.out hg:gb288≠gb263));clear HO_251001 HO_257001 HO_264001 HO280 HO285 BK237 BK250 BK256 BK263 HB;have HO_251001:=n0_;have HO_257001:=n1_;have HO_264001:=n2_;have HO280:=n3_;have HO285:=n4_;have BK237:=n5_;have BK250:=n6_;have BK256:=n7_;have BK263:=n8_;have HB:=n9_;have BK288:=n10_;have GW288:=n11_;have GE288:=n12_;have NB237_288:=n13_;have NB288_237:=n14_;have NB250_288:=n15_;have NB288_250:=n16_;have NB256_288:=n17_;have NB288_256:=n18_;have NB263_288:=n19_;have NB288_263:=n20_;clear n0_ n1_ n2_ n3_ n4_ n5_ n6_ n7_ n8_ n9_ n10_ n11_ n12_ n13_ n14_ n15_ n16_ n17_ n18_ n19_ n20_;clear hb hbox hg;have hnb120:=NB288_237.out;have hnc120:=NB237_288.out;have hnb121:=NB288_250.out;have hnc121:=NB250_288.out;have hnb122:=NB288_256.out;have hnc122:=NB256_288.out;have hnb123:=NB288_263.out;have hnc123:=NB263_288.out;obtain⟨hcz124_0,hcz124_1,hcz124_2⟩:=cC3 BK288.out;obtain⟨hfz124_0,hfz124_1,hfz124_2⟩:=cF3 BK288.out;obtain⟨Ao125,co125,eo125⟩:=Kd.S_slice HO285.out;subst eo125))
           (try simp only[Act.put,List.setIfInBounds_toArray,List.set_cons_zero,List.set_cons_succ])
           go_cut [97] (fun v97 wc => ∃ (kq:Nat) (x97_104:Bool),v97=.bool x97_104∧Aside0 (laws_FnExactPutLong.j2 kq t274 x97_104 t257 t275 t261=some r)∧Aside0 (kq≤kj61)∧Aside0 (Kd.S k116 116 wc w.heap.size (fun k_=>k_ < N253_∧k_ < N259_∧k_ < N284_) (.slice Ao24 t245.length co24) t245)∧Aside0 (Kd.S k116 116 wc w.heap.size (fun k_=>N253_≤k_∧k_ < N259_∧k_ < N284_) (.slice Ao31 t272.length co31) t272)∧Aside0 (Kd.S k116 116 wc w.heap.size (fun k_=>N259_≤k_∧N259_≤k_∧k_ < N284_) (.slice Ao38 t258.length co38) t275)∧Aside0 (Kd.S k116 116 wc w.heap.size (fun k_=>N284_≤k_∧N284_≤k_∧N284_≤k_) (.slice Ao125 t283.length co125) t283)∧Aside0 (wc.heap[gb237]?=some (.cells #[.int .i64 a0_0,(.slice A0_1 l0_1.length c0_1),.int .i64 a0_2] 24 (0,0)))∧Aside0 (wc.heap[gb250]?=some (.cells #[.int .i64 t244,(.slice Ao24 t245.length co24),.int .i64 t248] 28 (0,0)))∧Aside0 (wc.heap[gb256]?=some (.cells #[.int .i64 t251,(.slice Ao31 t272.length co31),.int .i64 t255] 28 (0,0)))∧Aside0 (wc.heap[gb263]?=some (.cells #[.int .i64 t257,(.slice Ao38 t258.length co38),.int .i64 t261] 28 (0,0)))∧Aside0 (wc.heap[gb288]?=some (.cells #[.int .i64 t282,(.slice Ao125 t283.length co125),.int .i64 t286] 28 (0,0)))∧Aside0 (Below w.heap.size w wc))
           case first =>
            have H:=HC105.out
            clear HC105
            replace H:=Option.bind_eq_some_iff.mp H
            obtain⟨t289,A1260,H⟩:=H
            replace H:(if t289=true then (laws_FnExactPutLong.j2 kj61 t274 (t287 != t249) t257 t275 t261) else (laws_FnExactPutLong.j2 kj61 t274 true t257 t275 t261))=some r:=H
            have A126:=Aside0.mk A1260
            clear A1260
            by_cases c127:t289=true
            ·subst c127
             have H1:(laws_FnExactPutLong.j2 kj61 t274 (t287 != t249) t257 t275 t261)=some r:=by rw[if_pos rfl] at H;exact H
             clear H
             have H:=H1
             clear H1
             have H':=Aside0.mk H
             clear H
             have hnb128:=NB288_237.out
             have hnc128:=NB237_288.out
             have hnb129:=NB288_250.out
             have hnc129:=NB250_288.out
             have hnb130:=NB288_256.out
             have hnc130:=NB256_288.out
             have hnb131:=NB288_263.out
             have hnc131:=NB263_288.out
             obtain⟨hcz132_0,hcz132_1,hcz132_2⟩:=cC3 BK288.out
             obtain⟨hfz132_0,hfz132_1,hfz132_2⟩:=cF3 BK288.out
             have hnb133:=NB250_237.out
             have hnc133:=NB237_250.out
             have hnb134:=NB250_256.out
             have hnc134:=NB256_250.out
             have hnb135:=NB250_263.out
             have hnc135:=NB263_250.out
             obtain⟨hcz136_0,hcz136_1,hcz136_2⟩:=cC3 BK250.out
             obtain⟨hfz136_0,hfz136_1,hfz136_2⟩:=cF3 BK250.out
             go_wp2_with (first|((with_reducible refine gate_callee (f:=19) rfl ?_);refine goesA (some 91) rfl rfl Try.func19 #[.agg #[.int .i64 t282,.slice Ao125 t283.length co125,.int .i64 t286],.agg #[.int .i64 t244,.slice Ao24 t245.length co24,.int .i64 t248]] rfl ?_;(with_reducible refine(laws_eqTurns.calls kj61 t282 _ _ t283 t286 t244 _ _ t245 t248 true _ ?side1 ?side2 ?side3 ?side4 A126.out).mono ?_);(case side1=>refine(Kd.S_reads' (e:=116) (base:=w.heap.size) (ok:=fun k_=>((((True∧N284_≤k_)∧N284_≤k_)∧N284_≤k_)∧N284_≤k_)) (n:=t283.length) (c:=co125) ?_).2.2;exact(by(with_reducible repeat (first|apply Kd.S_alloc|apply Kd.S_drewN|apply Kd.S_drew));exact(Kd.S_mono (Kd.S_far (p:=⟨gb288,2,none⟩) (Kd.S_far (p:=⟨gb288,1,none⟩) (Kd.S_far (p:=⟨gb288,0,none⟩) (Kd.S_types HO285.out BK288.out (by decide)) (fun _ hk=>hk.2) (.int .i64 t282)) (fun _ hk=>hk.2) (.slice Ao125 t283.length co125)) (fun _ hk=>hk.2) (.int .i64 t286)) (fun _ h_=>h_.1))));(case side2=>exact(Kd.S_reads' HO285.out).2.1);(case side3=>refine(Kd.S_reads' (e:=116) (base:=w.heap.size) (ok:=fun k_=>(((k_ < N253_∧k_ < N259_)∧k_ < N279_)∧k_ < N284_)) (n:=t245.length) (c:=co24) ?_).2.2;exact(by(with_reducible repeat (first|apply Kd.S_alloc|apply Kd.S_drewN|apply Kd.S_drew));exact(Kd.S_mono (Kd.S_far (p:=⟨gb288,2,none⟩) (Kd.S_far (p:=⟨gb288,1,none⟩) (Kd.S_far (p:=⟨gb288,0,none⟩) (Kd.S_types HO_251001.out BK288.out (by decide)) (fun _ hk=>hk.2) (.int .i64 t282)) (fun _ hk=>hk.2) (.slice Ao125 t283.length co125)) (fun _ hk=>hk.2) (.int .i64 t286)) (fun _ h_=>h_.1))));(case side4=>exact(Kd.S_reads' HO_251001.out).2.1);rintro e w137 ⟨rfl,hb⟩;refine⟨_,rfl,?_⟩;have n0_:=Aside0.mk (Kd.S_below (by(with_reducible repeat (first|apply Kd.S_alloc|apply Kd.S_drewN|apply Kd.S_drew));exact(Kd.S_mono (Kd.S_far (p:=⟨gb288,2,none⟩) (Kd.S_far (p:=⟨gb288,1,none⟩) (Kd.S_far (p:=⟨gb288,0,none⟩) (Kd.S_types HO_251001.out BK288.out (by decide)) (fun _ hk=>hk.2) (.int .i64 t282)) (fun _ hk=>hk.2) (.slice Ao125 t283.length co125)) (fun _ hk=>hk.2) (.int .i64 t286)) (fun _ h_=>h_.1))) hb);have n1_:=Aside0.mk (Kd.S_below (by(with_reducible repeat (first|apply Kd.S_alloc|apply Kd.S_drewN|apply Kd.S_drew));exact(Kd.S_mono (Kd.S_far (p:=⟨gb288,2,none⟩) (Kd.S_far (p:=⟨gb288,1,none⟩) (Kd.S_far (p:=⟨gb288,0,none⟩) (Kd.S_types HO_257001.out BK288.out (by decide)) (fun _ hk=>hk.2) (.int .i64 t282)) (fun _ hk=>hk.2) (.slice Ao125 t283.length co125)) (fun _ hk=>hk.2) (.int .i64 t286)) (fun _ h_=>h_.1))) hb);have n2_:=Aside0.mk (Kd.S_below (by(with_reducible repeat (first|apply Kd.S_alloc|apply Kd.S_drewN|apply Kd.S_drew));exact(Kd.S_mono (Kd.S_far (p:=⟨gb288,2,none⟩) (Kd.S_far (p:=⟨gb288,1,none⟩) (Kd.S_far (p:=⟨gb288,0,none⟩) (Kd.S_types HO_264001.out BK288.out (by decide)) (fun _ hk=>hk.2) (.int .i64 t282)) (fun _ hk=>hk.2) (.slice Ao125 t283.length co125)) (fun _ hk=>hk.2) (.int .i64 t286)) (fun _ h_=>h_.1))) hb);have n3_:=Aside0.mk (Kd.S_below (by(with_reducible repeat (first|apply Kd.S_alloc|apply Kd.S_drewN|apply Kd.S_drew));exact(Kd.S_mono (Kd.S_far (p:=⟨gb288,2,none⟩) (Kd.S_far (p:=⟨gb288,1,none⟩) (Kd.S_far (p:=⟨gb288,0,none⟩) (Kd.S_types HO280.out BK288.out (by decide)) (fun _ hk=>hk.2) (.int .i64 t282)) (fun _ hk=>hk.2) (.slice Ao125 t283.length co125)) (fun _ hk=>hk.2) (.int .i64 t286)) (fun _ h_=>h_.1))) hb);have n4_:=Aside0.mk (Kd.S_below (by(with_reducible repeat (first|apply Kd.S_alloc|apply Kd.S_drewN|apply Kd.S_drew));exact(Kd.S_mono (Kd.S_far (p:=⟨gb288,2,none⟩) (Kd.S_far (p:=⟨gb288,1,none⟩) (Kd.S_far (p:=⟨gb288,0,none⟩) (Kd.S_types HO285.out BK288.out (by decide)) (fun _ hk=>hk.2) (.int .i64 t282)) (fun _ hk=>hk.2) (.slice Ao125 t283.length co125)) (fun _ hk=>hk.2) (.int .i64 t286)) (fun _ h_=>h_.1))) hb);have n5_:=Aside0.mk (blk_below (g:=gb237) (o:=.cells #[.int .i64 a0_0,.slice A0_1 l0_1.length c0_1,.int .i64 a0_2] 24 (0,0)) (by(with_reducible repeat (first|refine blk_drewN ?_ _|refine blk_drew ?_|refine blk_alloc ?_ _));refine blk_far ?_ NB237_288.out _;(with_reducible repeat (first|refine blk_drewN ?_ _|refine blk_drew ?_|refine blk_alloc ?_ _));refine blk_far ?_ NB237_288.out _;(with_reducible repeat (first|refine blk_drewN ?_ _|refine blk_drew ?_|refine blk_alloc ?_ _));refine blk_far ?_ NB237_288.out _;(with_reducible repeat (first|refine blk_drewN ?_ _|refine blk_drew ?_|refine blk_alloc ?_ _));exact BK237.out) hb);have n6_:=Aside0.mk (blk_below (g:=gb250) (o:=.cells #[.int .i64 t244,.slice Ao24 t245.length co24,.int .i64 t248] 28 (0,0)) (by(with_reducible repeat (first|refine blk_drewN ?_ _|refine blk_drew ?_|refine blk_alloc ?_ _));refine blk_far ?_ NB250_288.out _;(with_reducible repeat (first|refine blk_drewN ?_ _|refine blk_drew ?_|refine blk_alloc ?_ _));refine blk_far ?_ NB250_288.out _;(with_reducible repeat (first|refine blk_drewN ?_ _|refine blk_drew ?_|refine blk_alloc ?_ _));refine blk_far ?_ NB250_288.out _;(with_reducible repeat (first|refine blk_drewN ?_ _|refine blk_drew ?_|refine blk_alloc ?_ _));exact BK250.out) hb);have n7_:=Aside0.mk (blk_below (g:=gb256) (o:=.cells #[.int .i64 t251,.slice Ao31 t272.length co31,.int .i64 t255] 28 (0,0)) (by(with_reducible repeat (first|refine blk_drewN ?_ _|refine blk_drew ?_|refine blk_alloc ?_ _));refine blk_far ?_ NB256_288.out _;(with_reducible repeat (first|refine blk_drewN ?_ _|refine blk_drew ?_|refine blk_alloc ?_ _));refine blk_far ?_ NB256_288.out _;(with_reducible repeat (first|refine blk_drewN ?_ _|refine blk_drew ?_|refine blk_alloc ?_ _));refine blk_far ?_ NB256_288.out _;(with_reducible repeat (first|refine blk_drewN ?_ _|refine blk_drew ?_|refine blk_alloc ?_ _));exact BK256.out) hb);have n8_:=Aside0.mk (blk_below (g:=gb263) (o:=.cells #[.int .i64 t257,.slice Ao38 t258.length co38,.int .i64 t261] 28 (0,0)) (by(with_reducible repeat (first|refine blk_drewN ?_ _|refine blk_drew ?_|refine blk_alloc ?_ _));refine blk_far ?_ NB263_288.out _;(with_reducible repeat (first|refine blk_drewN ?_ _|refine blk_drew ?_|refine blk_alloc ?_ _));refine blk_far ?_ NB263_288.out _;(with_reducible repeat (first|refine blk_drewN ?_ _|refine blk_drew ?_|refine blk_alloc ?_ _));refine blk_far ?_ NB263_288.out _;(with_reducible repeat (first|refine blk_drewN ?_ _|refine blk_drew ?_|refine blk_alloc ?_ _));exact BK263.out) hb);have n9_:=Aside0.mk (blk_below (g:=gb288) (o:=.cells #[.int .i64 t282,.slice Ao125 t283.length co125,.int .i64 t286] 28 (0,0)) (by(with_reducible repeat (first|refine blk_drewN ?_ _|refine blk_drew ?_|refine blk_alloc ?_ _));refine blk_put (cs:=#[.int .i64 t282,.slice Ao125 t283.length co125,.int .i64 0]) ?_ 2 _ rfl;(with_reducible repeat (first|refine blk_drewN ?_ _|refine blk_drew ?_|refine blk_alloc ?_ _));refine blk_put (cs:=#[.int .i64 t282,.slice none 0 0,.int .i64 0]) ?_ 1 _ rfl;(with_reducible repeat (first|refine blk_drewN ?_ _|refine blk_drew ?_|refine blk_alloc ?_ _));refine blk_put (cs:=#[.int .i64 0,.slice none 0 0,.int .i64 0]) ?_ 0 _ rfl;(with_reducible repeat (first|refine blk_drewN ?_ _|refine blk_drew ?_|refine blk_alloc ?_ _));exact BK288.out) hb);have n10_:=Aside0.mk (below_step (bS5 GE237.out GE250.out GE256.out GE263.out GE288.out) hb);clear HO_251001 HO_257001 HO_264001 HO280 HO285 BK237 BK250 BK256 BK263 BK288 HB;have HO_251001:=n0_;have HO_257001:=n1_;have HO_264001:=n2_;have HO280:=n3_;have HO285:=n4_;have BK237:=n5_;have BK250:=n6_;have BK256:=n7_;have BK263:=n8_;have BK288:=n9_;have HB:=n10_;clear n0_ n1_ n2_ n3_ n4_ n5_ n6_ n7_ n8_ n9_ n10_;(try clear hb);(try clear hb2);(try clear hk);(try clear hi)))
             go_meet
             case rel=>exact⟨_,((t287 != t249)),(bR),H',⟨by have:=HJ12.out;have:=HJ61.out;first|omega|exact Nat.le_refl _⟩,⟨by(try simp only[hl257001_61]);(with_reducible repeat (first|apply Kd.S_alloc|apply Kd.S_drewN|apply Kd.S_drew));exact Kd.S_mono HO_251001.out (fun _ hk=>⟨hk.1.1.1,⟨hk.1.1.2,hk.2⟩⟩)⟩,⟨by(try simp only[hl257001_61]);(with_reducible repeat (first|apply Kd.S_alloc|apply Kd.S_drewN|apply Kd.S_drew));exact Kd.S_mono HO_257001.out (fun _ hk=>⟨hk.1.1.1,⟨hk.1.1.2,hk.2⟩⟩)⟩,⟨by(try simp only[hl257001_61]);(with_reducible repeat (first|apply Kd.S_alloc|apply Kd.S_drewN|apply Kd.S_drew));exact Kd.S_mono HO_264001.out (fun _ hk=>⟨hk.1.1.1,⟨hk.1.1.2,hk.2⟩⟩)⟩,⟨by(try simp only[hl257001_61]);(with_reducible repeat (first|apply Kd.S_alloc|apply Kd.S_drewN|apply Kd.S_drew));exact Kd.S_mono HO285.out (fun _ hk=>⟨hk.1.1.1.2,⟨hk.1.1.2,hk.1.2⟩⟩)⟩,⟨by(try simp only[hl257001_61]);(with_reducible repeat (first|refine blk_drewN ?_ _|refine blk_drew ?_|refine blk_alloc ?_ _));exact BK237.out⟩,⟨by(try simp only[hl257001_61]);(with_reducible repeat (first|refine blk_drewN ?_ _|refine blk_drew ?_|refine blk_alloc ?_ _));exact BK250.out⟩,⟨by(try simp only[hl257001_61]);(with_reducible repeat (first|refine blk_drewN ?_ _|refine blk_drew ?_|refine blk_alloc ?_ _));exact BK256.out⟩,⟨by(try simp only[hl257001_61]);(with_reducible repeat (first|refine blk_drewN ?_ _|refine blk_drew ?_|refine blk_alloc ?_ _));exact BK263.out⟩,⟨by(try simp only[hl257001_61]);(with_reducible repeat (first|refine blk_drewN ?_ _|refine blk_drew ?_|refine blk_alloc ?_ _));exact BK288.out⟩,⟨bS5 GE237.out GE250.out GE256.out GE263.out GE288.out⟩⟩
            ·replace c127:=Bool.eq_false_iff.mpr c127
             subst c127
             have H1:(laws_FnExactPutLong.j2 kj61 t274 true t257 t275 t261)=some r:=by rw[if_neg (show ¬ (false=true) by decide)] at H;exact H
             clear H
             have H:=H1
             clear H1
             have H':=Aside0.mk H
             clear H
             have hnb138:=NB288_237.out
             have hnc138:=NB237_288.out
             have hnb139:=NB288_250.out
             have hnc139:=NB250_288.out
             have hnb140:=NB288_256.out
             have hnc140:=NB256_288.out
             have hnb141:=NB288_263.out
             have hnc141:=NB263_288.out
             obtain⟨hcz142_0,hcz142_1,hcz142_2⟩:=cC3 BK288.out
             obtain⟨hfz142_0,hfz142_1,hfz142_2⟩:=cF3 BK288.out
             have hnb143:=NB250_237.out
             have hnc143:=NB237_250.out
             have hnb144:=NB250_256.out
             have hnc144:=NB256_250.out
             have hnb145:=NB250_263.out
             have hnc145:=NB263_250.out
             obtain⟨hcz146_0,hcz146_1,hcz146_2⟩:=cC3 BK250.out
             obtain⟨hfz146_0,hfz146_1,hfz146_2⟩:=cF3 BK250.out
             go_wp2_with (first|((with_reducible refine gate_callee (f:=19) rfl ?_);refine goesA (some 91) rfl rfl Try.func19 #[.agg #[.int .i64 t282,.slice Ao125 t283.length co125,.int .i64 t286],.agg #[.int .i64 t244,.slice Ao24 t245.length co24,.int .i64 t248]] rfl ?_;(with_reducible refine(laws_eqTurns.calls kj61 t282 _ _ t283 t286 t244 _ _ t245 t248 false _ ?side1 ?side2 ?side3 ?side4 A126.out).mono ?_);(case side1=>refine(Kd.S_reads' (e:=116) (base:=w.heap.size) (ok:=fun k_=>((((True∧N284_≤k_)∧N284_≤k_)∧N284_≤k_)∧N284_≤k_)) (n:=t283.length) (c:=co125) ?_).2.2;exact(by(with_reducible repeat (first|apply Kd.S_alloc|apply Kd.S_drewN|apply Kd.S_drew));exact(Kd.S_mono (Kd.S_far (p:=⟨gb288,2,none⟩) (Kd.S_far (p:=⟨gb288,1,none⟩) (Kd.S_far (p:=⟨gb288,0,none⟩) (Kd.S_types HO285.out BK288.out (by decide)) (fun _ hk=>hk.2) (.int .i64 t282)) (fun _ hk=>hk.2) (.slice Ao125 t283.length co125)) (fun _ hk=>hk.2) (.int .i64 t286)) (fun _ h_=>h_.1))));(case side2=>exact(Kd.S_reads' HO285.out).2.1);(case side3=>refine(Kd.S_reads' (e:=116) (base:=w.heap.size) (ok:=fun k_=>(((k_ < N253_∧k_ < N259_)∧k_ < N279_)∧k_ < N284_)) (n:=t245.length) (c:=co24) ?_).2.2;exact(by(with_reducible repeat (first|apply Kd.S_alloc|apply Kd.S_drewN|apply Kd.S_drew));exact(Kd.S_mono (Kd.S_far (p:=⟨gb288,2,none⟩) (Kd.S_far (p:=⟨gb288,1,none⟩) (Kd.S_far (p:=⟨gb288,0,none⟩) (Kd.S_types HO_251001.out BK288.out (by decide)) (fun _ hk=>hk.2) (.int .i64 t282)) (fun _ hk=>hk.2) (.slice Ao125 t283.length co125)) (fun _ hk=>hk.2) (.int .i64 t286)) (fun _ h_=>h_.1))));(case side4=>exact(Kd.S_reads' HO_251001.out).2.1);rintro e w147 ⟨rfl,hb⟩;refine⟨_,rfl,?_⟩;have n0_:=Aside0.mk (Kd.S_below (by(with_reducible repeat (first|apply Kd.S_alloc|apply Kd.S_drewN|apply Kd.S_drew));exact(Kd.S_mono (Kd.S_far (p:=⟨gb288,2,none⟩) (Kd.S_far (p:=⟨gb288,1,none⟩) (Kd.S_far (p:=⟨gb288,0,none⟩) (Kd.S_types HO_251001.out BK288.out (by decide)) (fun _ hk=>hk.2) (.int .i64 t282)) (fun _ hk=>hk.2) (.slice Ao125 t283.length co125)) (fun _ hk=>hk.2) (.int .i64 t286)) (fun _ h_=>h_.1))) hb);have n1_:=Aside0.mk (Kd.S_below (by(with_reducible repeat (first|apply Kd.S_alloc|apply Kd.S_drewN|apply Kd.S_drew));exact(Kd.S_mono (Kd.S_far (p:=⟨gb288,2,none⟩) (Kd.S_far (p:=⟨gb288,1,none⟩) (Kd.S_far (p:=⟨gb288,0,none⟩) (Kd.S_types HO_257001.out BK288.out (by decide)) (fun _ hk=>hk.2) (.int .i64 t282)) (fun _ hk=>hk.2) (.slice Ao125 t283.length co125)) (fun _ hk=>hk.2) (.int .i64 t286)) (fun _ h_=>h_.1))) hb);have n2_:=Aside0.mk (Kd.S_below (by(with_reducible repeat (first|apply Kd.S_alloc|apply Kd.S_drewN|apply Kd.S_drew));exact(Kd.S_mono (Kd.S_far (p:=⟨gb288,2,none⟩) (Kd.S_far (p:=⟨gb288,1,none⟩) (Kd.S_far (p:=⟨gb288,0,none⟩) (Kd.S_types HO_264001.out BK288.out (by decide)) (fun _ hk=>hk.2) (.int .i64 t282)) (fun _ hk=>hk.2) (.slice Ao125 t283.length co125)) (fun _ hk=>hk.2) (.int .i64 t286)) (fun _ h_=>h_.1))) hb);have n3_:=Aside0.mk (Kd.S_below (by(with_reducible repeat (first|apply Kd.S_alloc|apply Kd.S_drewN|apply Kd.S_drew));exact(Kd.S_mono (Kd.S_far (p:=⟨gb288,2,none⟩) (Kd.S_far (p:=⟨gb288,1,none⟩) (Kd.S_far (p:=⟨gb288,0,none⟩) (Kd.S_types HO280.out BK288.out (by decide)) (fun _ hk=>hk.2) (.int .i64 t282)) (fun _ hk=>hk.2) (.slice Ao125 t283.length co125)) (fun _ hk=>hk.2) (.int .i64 t286)) (fun _ h_=>h_.1))) hb);have n4_:=Aside0.mk (Kd.S_below (by(with_reducible repeat (first|apply Kd.S_alloc|apply Kd.S_drewN|apply Kd.S_drew));exact(Kd.S_mono (Kd.S_far (p:=⟨gb288,2,none⟩) (Kd.S_far (p:=⟨gb288,1,none⟩) (Kd.S_far (p:=⟨gb288,0,none⟩) (Kd.S_types HO285.out BK288.out (by decide)) (fun _ hk=>hk.2) (.int .i64 t282)) (fun _ hk=>hk.2) (.slice Ao125 t283.length co125)) (fun _ hk=>hk.2) (.int .i64 t286)) (fun _ h_=>h_.1))) hb);have n5_:=Aside0.mk (blk_below (g:=gb237) (o:=.cells #[.int .i64 a0_0,.slice A0_1 l0_1.length c0_1,.int .i64 a0_2] 24 (0,0)) (by(with_reducible repeat (first|refine blk_drewN ?_ _|refine blk_drew ?_|refine blk_alloc ?_ _));refine blk_far ?_ NB237_288.out _;(with_reducible repeat (first|refine blk_drewN ?_ _|refine blk_drew ?_|refine blk_alloc ?_ _));refine blk_far ?_ NB237_288.out _;(with_reducible repeat (first|refine blk_drewN ?_ _|refine blk_drew ?_|refine blk_alloc ?_ _));refine blk_far ?_ NB237_288.out _;(with_reducible repeat (first|refine blk_drewN ?_ _|refine blk_drew ?_|refine blk_alloc ?_ _));exact BK237.out) hb);have n6_:=Aside0.mk (blk_below (g:=gb250) (o:=.cells #[.int .i64 t244,.slice Ao24 t245.length co24,.int .i64 t248] 28 (0,0)) (by(with_reducible repeat (first|refine blk_drewN ?_ _|refine blk_drew ?_|refine blk_alloc ?_ _));refine blk_far ?_ NB250_288.out _;(with_reducible repeat (first|refine blk_drewN ?_ _|refine blk_drew ?_|refine blk_alloc ?_ _));refine blk_far ?_ NB250_288.out _;(with_reducible repeat (first|refine blk_drewN ?_ _|refine blk_drew ?_|refine blk_alloc ?_ _));refine blk_far ?_ NB250_288.out _;(with_reducible repeat (first|refine blk_drewN ?_ _|refine blk_drew ?_|refine blk_alloc ?_ _));exact BK250.out) hb);have n7_:=Aside0.mk (blk_below (g:=gb256) (o:=.cells #[.int .i64 t251,.slice Ao31 t272.length co31,.int .i64 t255] 28 (0,0)) (by(with_reducible repeat (first|refine blk_drewN ?_ _|refine blk_drew ?_|refine blk_alloc ?_ _));refine blk_far ?_ NB256_288.out _;(with_reducible repeat (first|refine blk_drewN ?_ _|refine blk_drew ?_|refine blk_alloc ?_ _));refine blk_far ?_ NB256_288.out _;(with_reducible repeat (first|refine blk_drewN ?_ _|refine blk_drew ?_|refine blk_alloc ?_ _));refine blk_far ?_ NB256_288.out _;(with_reducible repeat (first|refine blk_drewN ?_ _|refine blk_drew ?_|refine blk_alloc ?_ _));exact BK256.out) hb);have n8_:=Aside0.mk (blk_below (g:=gb263) (o:=.cells #[.int .i64 t257,.slice Ao38 t258.length co38,.int .i64 t261] 28 (0,0)) (by(with_reducible repeat (first|refine blk_drewN ?_ _|refine blk_drew ?_|refine blk_alloc ?_ _));refine blk_far ?_ NB263_288.out _;(with_reducible repeat (first|refine blk_drewN ?_ _|refine blk_drew ?_|refine blk_alloc ?_ _));refine blk_far ?_ NB263_288.out _;(with_reducible repeat (first|refine blk_drewN ?_ _|refine blk_drew ?_|refine blk_alloc ?_ _));refine blk_far ?_ NB263_288.out _;(with_reducible repeat (first|refine blk_drewN ?_ _|refine blk_drew ?_|refine blk_alloc ?_ _));exact BK263.out) hb);have n9_:=Aside0.mk (blk_below (g:=gb288) (o:=.cells #[.int .i64 t282,.slice Ao125 t283.length co125,.int .i64 t286] 28 (0,0)) (by(with_reducible repeat (first|refine blk_drewN ?_ _|refine blk_drew ?_|refine blk_alloc ?_ _));refine blk_put (cs:=#[.int .i64 t282,.slice Ao125 t283.length co125,.int .i64 0]) ?_ 2 _ rfl;(with_reducible repeat (first|refine blk_drewN ?_ _|refine blk_drew ?_|refine blk_alloc ?_ _));refine blk_put (cs:=#[.int .i64 t282,.slice none 0 0,.int .i64 0]) ?_ 1 _ rfl;(with_reducible repeat (first|refine blk_drewN ?_ _|refine blk_drew ?_|refine blk_alloc ?_ _));refine blk_put (cs:=#[.int .i64 0,.slice none 0 0,.int .i64 0]) ?_ 0 _ rfl;(with_reducible repeat (first|refine blk_drewN ?_ _|refine blk_drew ?_|refine blk_alloc ?_ _));exact BK288.out) hb);have n10_:=Aside0.mk (below_step (bS5 GE237.out GE250.out GE256.out GE263.out GE288.out) hb);clear HO_251001 HO_257001 HO_264001 HO280 HO285 BK237 BK250 BK256 BK263 BK288 HB;have HO_251001:=n0_;have HO_257001:=n1_;have HO_264001:=n2_;have HO280:=n3_;have HO285:=n4_;have BK237:=n5_;have BK250:=n6_;have BK256:=n7_;have BK263:=n8_;have BK288:=n9_;have HB:=n10_;clear n0_ n1_ n2_ n3_ n4_ n5_ n6_ n7_ n8_ n9_ n10_;(try clear hb);(try clear hb2);(try clear hk);(try clear hi)))
             go_meet
             case rel=>exact⟨_,(true),(bR),H',⟨by have:=HJ12.out;have:=HJ61.out;first|omega|exact Nat.le_refl _⟩,⟨by(try simp only[hl257001_61]);(with_reducible repeat (first|apply Kd.S_alloc|apply Kd.S_drewN|apply Kd.S_drew));exact Kd.S_mono HO_251001.out (fun _ hk=>⟨hk.1.1.1,⟨hk.1.1.2,hk.2⟩⟩)⟩,⟨by(try simp only[hl257001_61]);(with_reducible repeat (first|apply Kd.S_alloc|apply Kd.S_drewN|apply Kd.S_drew));exact Kd.S_mono HO_257001.out (fun _ hk=>⟨hk.1.1.1,⟨hk.1.1.2,hk.2⟩⟩)⟩,⟨by(try simp only[hl257001_61]);(with_reducible repeat (first|apply Kd.S_alloc|apply Kd.S_drewN|apply Kd.S_drew));exact Kd.S_mono HO_264001.out (fun _ hk=>⟨hk.1.1.1,⟨hk.1.1.2,hk.2⟩⟩)⟩,⟨by(try simp only[hl257001_61]);(with_reducible repeat (first|apply Kd.S_alloc|apply Kd.S_drewN|apply Kd.S_drew));exact Kd.S_mono HO285.out (fun _ hk=>⟨hk.1.1.1.2,⟨hk.1.1.2,hk.1.2⟩⟩)⟩,⟨by(try simp only[hl257001_61]);(with_reducible repeat (first|refine blk_drewN ?_ _|refine blk_drew ?_|refine blk_alloc ?_ _));exact BK237.out⟩,⟨by(try simp only[hl257001_61]);(with_reducible repeat (first|refine blk_drewN ?_ _|refine blk_drew ?_|refine blk_alloc ?_ _));exact BK250.out⟩,⟨by(try simp only[hl257001_61]);(with_reducible repeat (first|refine blk_drewN ?_ _|refine blk_drew ?_|refine blk_alloc ?_ _));exact BK256.out⟩,⟨by(try simp only[hl257001_61]);(with_reducible repeat (first|refine blk_drewN ?_ _|refine blk_drew ?_|refine blk_alloc ?_ _));exact BK263.out⟩,⟨by(try simp only[hl257001_61]);(with_reducible repeat (first|refine blk_drewN ?_ _|refine blk_drew ?_|refine blk_alloc ?_ _));exact BK288.out⟩,⟨bS5 GE237.out GE250.out GE256.out GE263.out GE288.out⟩⟩
           case rest =>
            clear HC105
            try clear c1
            try clear c2
            try clear p2
            try clear c3
            try clear c4
            try clear c5
            try clear c5b0
            try clear c6
            try clear c7
            try clear c8
            try clear c9
            try clear c10
            try clear c11
            try clear c12
            try clear c13
            try clear c14
            try clear c15
            try clear c16
            try clear c17
            try clear c18
            try clear c19
            try clear c20
            try clear c21
            try clear c22
            try clear c28
            try clear c29
            try clear c34
            try clear c35
            try clear c36
            try clear c40
            try clear c41
            try clear c42
            try clear c43
            try clear c45
            try clear c46
            try clear c49
            try clear c50
            try clear c51
            try clear c53
            try clear c54
            try clear c57
            try clear c60
            try clear c67
            try clear c68
            try clear c69
            try clear c72
            try clear c72b0
            try clear c74
            try clear c75
            try clear c76
            try clear c77
            try clear c79
            try clear c80
            try clear c83
            try clear c84
            try clear c85
            try clear c87
            try clear c88
            try clear c91
            try clear c94
            try clear c94b0
            try clear c95
            try clear c96
            try clear c97
            try clear c102
            try clear c102b0
            try clear c102b1
            try clear c106
            try clear c107
            try clear c108
            try clear c113
            try clear c114
            try clear c120
            try clear c121
            try clear c122
            try clear c123
            try clear c127
            try clear c128
            try clear c129
            try clear c130
            try clear c131
            try clear c133
            try clear c134
            try clear c135
            try clear c138
            try clear c139
            try clear c140
            try clear c141
            try clear c143
            try clear c144
            try clear c145
            try clear hcz100_0 hcz100_1 hcz100_2
            try clear hcz109_0 hcz109_1 hcz109_2
            try clear hcz111_0 hcz111_1 hcz111_2
            try clear hcz115_0 hcz115_1 hcz115_2
            try clear hcz124_0 hcz124_1 hcz124_2
            try clear hcz132_0 hcz132_1 hcz132_2
            try clear hcz136_0 hcz136_1 hcz136_2
            try clear hcz142_0 hcz142_1 hcz142_2
            try clear hcz146_0 hcz146_1 hcz146_2
            try clear hcz15_0 hcz15_1 hcz15_2
            try clear hcz17_0 hcz17_1 hcz17_2
            try clear hcz23_0 hcz23_1 hcz23_2
            try clear hcz25_0 hcz25_1 hcz25_2
            try clear hcz30_0 hcz30_1 hcz30_2
            try clear hcz37_0 hcz37_1 hcz37_2
            try clear hcz44_0 hcz44_1 hcz44_2
            try clear hcz47_0 hcz47_1 hcz47_2
            try clear hcz52_0 hcz52_1 hcz52_2
            try clear hcz55_0 hcz55_1 hcz55_2
            try clear hcz70_0 hcz70_1 hcz70_2
            try clear hcz78_0 hcz78_1 hcz78_2
            try clear hcz7_0 hcz7_1 hcz7_2
            try clear hcz81_0 hcz81_1 hcz81_2
            try clear hcz86_0 hcz86_1 hcz86_2
            try clear hcz89_0 hcz89_1 hcz89_2
            try clear hcz98_0 hcz98_1 hcz98_2
            try clear hfz100_0 hfz100_1 hfz100_2
            try clear hfz109_0 hfz109_1 hfz109_2
            try clear hfz111_0 hfz111_1 hfz111_2
            try clear hfz115_0 hfz115_1 hfz115_2
            try clear hfz124_0 hfz124_1 hfz124_2
            try clear hfz132_0 hfz132_1 hfz132_2
            try clear hfz136_0 hfz136_1 hfz136_2
            try clear hfz142_0 hfz142_1 hfz142_2
            try clear hfz146_0 hfz146_1 hfz146_2
            try clear hfz15_0 hfz15_1 hfz15_2
            try clear hfz17_0 hfz17_1 hfz17_2
            try clear hfz23_0 hfz23_1 hfz23_2
            try clear hfz25_0 hfz25_1 hfz25_2
            try clear hfz30_0 hfz30_1 hfz30_2
            try clear hfz37_0 hfz37_1 hfz37_2
            try clear hfz44_0 hfz44_1 hfz44_2
            try clear hfz47_0 hfz47_1 hfz47_2
            try clear hfz52_0 hfz52_1 hfz52_2
            try clear hfz55_0 hfz55_1 hfz55_2
            try clear hfz70_0 hfz70_1 hfz70_2
            try clear hfz78_0 hfz78_1 hfz78_2
            try clear hfz7_0 hfz7_1 hfz7_2
            try clear hfz81_0 hfz81_1 hfz81_2
            try clear hfz86_0 hfz86_1 hfz86_2
            try clear hfz89_0 hfz89_1 hfz89_2
            try clear hfz98_0 hfz98_1 hfz98_2
            try clear p2
            obtain⟨kq,x97_104,rfl,HA,HJ104,HO_251001,HO_257001,HO_264001,HO_289001,BK237,BK250,BK256,BK263,BK288,HB⟩:=hcut
            have hl264001_104:=(Kd.S_reads' HO_264001.out).1
            rw[hl264001_104] at HO_264001
            (try simp only[hl264001_104])
            (try simp only[hl264001_104] at BK237)
            (try simp only[hl264001_104] at BK250)
            (try simp only[hl264001_104] at BK256)
            (try simp only[hl264001_104] at BK263)
            (try simp only[hl264001_104] at BK288)
            (try simp only[hl264001_104] at HO_251001)
            (try simp only[hl264001_104] at HO_257001)
            (try simp only[hl264001_104] at HO_289001)
            cases kq with
            | zero=>exact absurd HA.out (by simp[laws_FnExactPutLong.j2])
            | succ kj104 =>
             have H:=HA.out
             clear HA
             simp only[laws_FnExactPutLong.j2] at H
             by_cases c148:x97_104=true
             ·subst c148
              have H1:(some false)=some r:=by rw[if_pos rfl] at H;exact H
              clear H
              have H:=H1
              clear H1
              obtain rfl:=Option.some.inj H
              go_wp2
              go_ret
              exact⟨bE,bS5 GE237.out GE250.out GE256.out GE263.out GE288.out⟩
             ·replace c148:=Bool.eq_false_iff.mpr c148
              subst c148
              have H1:((laws_heldTurns.f kj104 t257 t275 t261 1).bind fun t290=>(if t290 < 0 then (some false) else (if t290=t274 then (some true) else (some false))))=some r:=by rw[if_neg (show ¬ (false=true) by decide)] at H;exact H
              clear H
              have H:=H1
              clear H1
              replace H:=Option.bind_eq_some_iff.mp H
              obtain⟨t290,A1490,H⟩:=H
              replace H:(if t290 < 0 then (some false) else (if t290=t274 then (some true) else (some false)))=some r:=H
              have A149:=Aside0.mk A1490
              clear A1490
              by_cases c150:t290 < 0
              ·rw[if_pos c150] at H
               have c150b0:decide (t290 < 0)=true:=decide_eq_true c150
               clear c150
               obtain rfl:=Option.some.inj H
               have hnb151:=NB263_237.out
               have hnc151:=NB237_263.out
               have hnb152:=NB263_250.out
               have hnc152:=NB250_263.out
               have hnb153:=NB263_256.out
               have hnc153:=NB256_263.out
               have hnb154:=NB263_288.out
               have hnc154:=NB288_263.out
               obtain⟨hcz155_0,hcz155_1,hcz155_2⟩:=cC3 BK263.out
               obtain⟨hfz155_0,hfz155_1,hfz155_2⟩:=cF3 BK263.out
               go_wp2_with (first|((with_reducible refine gate_callee (f:=21) rfl ?_);refine goesA (some 100) rfl rfl Try.func21 #[.agg #[.int .i64 t257,.slice Ao38 t275.length co38,.int .i64 t261],.int .i64 1] rfl ?_;(with_reducible refine(laws_heldTurns.calls kj104 t257 _ _ t275 t261 1 t290 _ ?side1 ?side2 A149.out).mono ?_);(case side1=>repeat (first|exact(Kd.S_reads' HO_264001.out).2.2|(with_reducible refine Kd.C_alloc ?_ _)|(with_reducible refine Kd.C_drewN ?_ _)|(with_reducible refine Kd.C_drew ?_)));(case side2=>exact(Kd.S_reads' HO_264001.out).2.1);rintro e w156 ⟨rfl,hb⟩;refine⟨_,rfl,?_⟩;have n0_:=Aside0.mk (Kd.S_below (by(with_reducible repeat (first|apply Kd.S_alloc|apply Kd.S_drewN|apply Kd.S_drew));exact HO_251001.out) hb);have n1_:=Aside0.mk (Kd.S_below (by(with_reducible repeat (first|apply Kd.S_alloc|apply Kd.S_drewN|apply Kd.S_drew));exact HO_257001.out) hb);have n2_:=Aside0.mk (Kd.S_below (by(with_reducible repeat (first|apply Kd.S_alloc|apply Kd.S_drewN|apply Kd.S_drew));exact HO_264001.out) hb);have n3_:=Aside0.mk (Kd.S_below (by(with_reducible repeat (first|apply Kd.S_alloc|apply Kd.S_drewN|apply Kd.S_drew));exact HO_289001.out) hb);have n4_:=Aside0.mk (bM BK237.out hb);have n5_:=Aside0.mk (bM BK250.out hb);have n6_:=Aside0.mk (bM BK256.out hb);have n7_:=Aside0.mk (bM BK263.out hb);have n8_:=Aside0.mk (bM BK288.out hb);have n9_:=Aside0.mk (below_step (bS5 GE237.out GE250.out GE256.out GE263.out GE288.out) hb);clear HO_251001 HO_257001 HO_264001 HO_289001 BK237 BK250 BK256 BK263 BK288 HB;have HO_251001:=n0_;have HO_257001:=n1_;have HO_264001:=n2_;have HO_289001:=n3_;have BK237:=n4_;have BK250:=n5_;have BK256:=n6_;have BK263:=n7_;have BK288:=n8_;have HB:=n9_;clear n0_ n1_ n2_ n3_ n4_ n5_ n6_ n7_ n8_ n9_;(try clear hb);(try clear hb2);(try clear hk);(try clear hi)))
               go_ret
               exact⟨bE,bS5 GE237.out GE250.out GE256.out GE263.out GE288.out⟩
              ·rw[if_neg c150] at H
               have c150b0:decide (t290 < 0)=false:=decide_eq_false c150
               clear c150
               by_cases c157:t290=t274
               ·rw[if_pos c157] at H
                have c157b0:(t290 == t274)=true:=beq_iff_eq.mpr c157
                have c157b1:(t290 != t274)=false:=bne_eq_false_iff_eq.mpr c157
                clear c157
                obtain rfl:=Option.some.inj H
                have hnb158:=NB263_237.out
                have hnc158:=NB237_263.out
                have hnb159:=NB263_250.out
                have hnc159:=NB250_263.out
                have hnb160:=NB263_256.out
                have hnc160:=NB256_263.out
                have hnb161:=NB263_288.out
                have hnc161:=NB288_263.out
                obtain⟨hcz162_0,hcz162_1,hcz162_2⟩:=cC3 BK263.out
                obtain⟨hfz162_0,hfz162_1,hfz162_2⟩:=cF3 BK263.out
                go_wp2_with (first|((with_reducible refine gate_callee (f:=21) rfl ?_);refine goesA (some 100) rfl rfl Try.func21 #[.agg #[.int .i64 t257,.slice Ao38 t275.length co38,.int .i64 t261],.int .i64 1] rfl ?_;(with_reducible refine(laws_heldTurns.calls kj104 t257 _ _ t275 t261 1 t290 _ ?side1 ?side2 A149.out).mono ?_);(case side1=>repeat (first|exact(Kd.S_reads' HO_264001.out).2.2|(with_reducible refine Kd.C_alloc ?_ _)|(with_reducible refine Kd.C_drewN ?_ _)|(with_reducible refine Kd.C_drew ?_)));(case side2=>exact(Kd.S_reads' HO_264001.out).2.1);rintro e w163 ⟨rfl,hb⟩;refine⟨_,rfl,?_⟩;have n0_:=Aside0.mk (Kd.S_below (by(with_reducible repeat (first|apply Kd.S_alloc|apply Kd.S_drewN|apply Kd.S_drew));exact HO_251001.out) hb);have n1_:=Aside0.mk (Kd.S_below (by(with_reducible repeat (first|apply Kd.S_alloc|apply Kd.S_drewN|apply Kd.S_drew));exact HO_257001.out) hb);have n2_:=Aside0.mk (Kd.S_below (by(with_reducible repeat (first|apply Kd.S_alloc|apply Kd.S_drewN|apply Kd.S_drew));exact HO_264001.out) hb);have n3_:=Aside0.mk (Kd.S_below (by(with_reducible repeat (first|apply Kd.S_alloc|apply Kd.S_drewN|apply Kd.S_drew));exact HO_289001.out) hb);have n4_:=Aside0.mk (bM BK237.out hb);have n5_:=Aside0.mk (bM BK250.out hb);have n6_:=Aside0.mk (bM BK256.out hb);have n7_:=Aside0.mk (bM BK263.out hb);have n8_:=Aside0.mk (bM BK288.out hb);have n9_:=Aside0.mk (below_step (bS5 GE237.out GE250.out GE256.out GE263.out GE288.out) hb);clear HO_251001 HO_257001 HO_264001 HO_289001 BK237 BK250 BK256 BK263 BK288 HB;have HO_251001:=n0_;have HO_257001:=n1_;have HO_264001:=n2_;have HO_289001:=n3_;have BK237:=n4_;have BK250:=n5_;have BK256:=n6_;have BK263:=n7_;have BK288:=n8_;have HB:=n9_;clear n0_ n1_ n2_ n3_ n4_ n5_ n6_ n7_ n8_ n9_;(try clear hb);(try clear hb2);(try clear hk);(try clear hi)))
                go_ret
                exact⟨bE,bS5 GE237.out GE250.out GE256.out GE263.out GE288.out⟩
               ·rw[if_neg c157] at H
                have c157b0:(t290 == t274)=false:=beq_eq_false_iff_ne.mpr c157
                have c157b1:(t290 != t274)=true:=bne_iff_ne.mpr c157
                obtain rfl:=Option.some.inj H
                have hnb164:=NB263_237.out
                have hnc164:=NB237_263.out
                have hnb165:=NB263_250.out
                have hnc165:=NB250_263.out
                have hnb166:=NB263_256.out
                have hnc166:=NB256_263.out
                have hnb167:=NB263_288.out
                have hnc167:=NB288_263.out
                obtain⟨hcz168_0,hcz168_1,hcz168_2⟩:=cC3 BK263.out
                obtain⟨hfz168_0,hfz168_1,hfz168_2⟩:=cF3 BK263.out
                go_wp2_with (first|((with_reducible refine gate_callee (f:=21) rfl ?_);refine goesA (some 100) rfl rfl Try.func21 #[.agg #[.int .i64 t257,.slice Ao38 t275.length co38,.int .i64 t261],.int .i64 1] rfl ?_;(with_reducible refine(laws_heldTurns.calls kj104 t257 _ _ t275 t261 1 t290 _ ?side1 ?side2 A149.out).mono ?_);(case side1=>repeat (first|exact(Kd.S_reads' HO_264001.out).2.2|(with_reducible refine Kd.C_alloc ?_ _)|(with_reducible refine Kd.C_drewN ?_ _)|(with_reducible refine Kd.C_drew ?_)));(case side2=>exact(Kd.S_reads' HO_264001.out).2.1);rintro e w169 ⟨rfl,hb⟩;refine⟨_,rfl,?_⟩;have n0_:=Aside0.mk (Kd.S_below (by(with_reducible repeat (first|apply Kd.S_alloc|apply Kd.S_drewN|apply Kd.S_drew));exact HO_251001.out) hb);have n1_:=Aside0.mk (Kd.S_below (by(with_reducible repeat (first|apply Kd.S_alloc|apply Kd.S_drewN|apply Kd.S_drew));exact HO_257001.out) hb);have n2_:=Aside0.mk (Kd.S_below (by(with_reducible repeat (first|apply Kd.S_alloc|apply Kd.S_drewN|apply Kd.S_drew));exact HO_264001.out) hb);have n3_:=Aside0.mk (Kd.S_below (by(with_reducible repeat (first|apply Kd.S_alloc|apply Kd.S_drewN|apply Kd.S_drew));exact HO_289001.out) hb);have n4_:=Aside0.mk (bM BK237.out hb);have n5_:=Aside0.mk (bM BK250.out hb);have n6_:=Aside0.mk (bM BK256.out hb);have n7_:=Aside0.mk (bM BK263.out hb);have n8_:=Aside0.mk (bM BK288.out hb);have n9_:=Aside0.mk (below_step (bS5 GE237.out GE250.out GE256.out GE263.out GE288.out) hb);clear HO_251001 HO_257001 HO_264001 HO_289001 BK237 BK250 BK256 BK263 BK288 HB;have HO_251001:=n0_;have HO_257001:=n1_;have HO_264001:=n2_;have HO_289001:=n3_;have BK237:=n4_;have BK250:=n5_;have BK256:=n6_;have BK263:=n7_;have BK288:=n8_;have HB:=n9_;clear n0_ n1_ n2_ n3_ n4_ n5_ n6_ n7_ n8_ n9_;(try clear hb);(try clear hb2);(try clear hk);(try clear hi)))
                go_ret
                exact⟨bE,bS5 GE237.out GE250.out GE256.out GE263.out GE288.out⟩
          ·rw[if_neg c102] at H
           have c102b0:(t276 == t274)=false:=beq_eq_false_iff_ne.mpr c102
           have c102b1:(t276 != t274)=true:=bne_iff_ne.mpr c102
           obtain rfl:=Option.some.inj H
           have hnb170:=NB263_237.out
           have hnc170:=NB237_263.out
           have hnb171:=NB263_250.out
           have hnc171:=NB250_263.out
           have hnb172:=NB263_256.out
           have hnc172:=NB256_263.out
           obtain⟨hcz173_0,hcz173_1,hcz173_2⟩:=cC3 BK263.out
           obtain⟨hfz173_0,hfz173_1,hfz173_2⟩:=cF3 BK263.out
           go_wp2_with (first|((with_reducible refine gate_callee (f:=20) rfl ?_);refine goesA (some 72) rfl rfl Try.func20 #[.agg #[.int .i64 t257,.slice Ao38 t258.length co38,.int .i64 t261],.int .i64 1] rfl ?_;obtain⟨P0_,hPS_,hPO_,hPB_⟩:=markable_ HO_264001.out;(with_reducible refine(laws_markTurns.calls kj61 t257 P0_ (.slice Ao38 t258.length co38) t258 t261 1 t274 t275 w _ ?side1 ?side2 A92.out).mono ?_);(case side1=>repeat (first|(with_reducible first|exact HB.out|apply below_alloc|apply pw_below_drewN|apply below_drew1|refine below_set ?_ GE237.out|refine below_set ?_ GE250.out|refine below_set ?_ GE256.out|refine below_set ?_ GE263.out)|exact HB.out));(case side2=>exact hPS_);rintro e w174 ⟨rfl,hy0,hb,hkp⟩;refine⟨_,rfl,?_⟩;have n0_:=Aside0.mk (Kd.S_mono (ok':=fun k_=>k_ < N253_∧k_ < N259_) (Kd.S_keptB (HO_251001.out) hkp (fun k_ hk_ hs_=>by have h1_:=hPO_ k_ hs_;(try dsimp only at h1_ hk_);omega)) (fun k_ hk_=>⟨hk_.1.1,hk_.1.2⟩));have n1_:=Aside0.mk (Kd.S_mono (ok':=fun k_=>N253_≤k_∧k_ < N259_) (Kd.S_keptB (HO_257001.out) hkp (fun k_ hk_ hs_=>by have h1_:=hPO_ k_ hs_;(try dsimp only at h1_ hk_);omega)) (fun k_ hk_=>⟨hk_.1.1,hk_.1.2⟩));have n2_:=Aside0.mk (Kd.S_mono hy0 (fun k_ h_=>hPO_ k_ h_));have n3_:=Aside0.mk (blk_kept (bL BK237.out) hkp (hPB_ _ _ _ BK237.out (by decide)));have n4_:=Aside0.mk (blk_kept (bL BK250.out) hkp (hPB_ _ _ _ BK250.out (by decide)));have n5_:=Aside0.mk (blk_kept (bL BK256.out) hkp (hPB_ _ _ _ BK256.out (by decide)));have n6_:=Aside0.mk (blk_kept (bL BK263.out) hkp (hPB_ _ _ _ BK263.out (by decide)));have n7_:=Aside0.mk (hb);clear HO_251001 HO_257001 HO_264001 BK237 BK250 BK256 BK263 HB;have HO_251001:=n0_;have HO_257001:=n1_;have HO_264001:=n2_;have BK237:=n3_;have BK250:=n4_;have BK256:=n5_;have BK263:=n6_;have HB:=n7_;clear n0_ n1_ n2_ n3_ n4_ n5_ n6_ n7_;(try clear hb);(try clear hkp);(try clear hy0);obtain⟨hcz175_0,hcz175_1,hcz175_2⟩:=cC3 BK263.out;obtain⟨hfz175_0,hfz175_1,hfz175_2⟩:=cF3 BK263.out)|((with_reducible refine gate_callee (f:=21) rfl ?_);refine goesL_ (some 75) rfl rfl Try.func21 (by kernel_rfl) rfl #[.agg #[.int .i64 t257,.slice Ao38 t275.length co38,.int .i64 t261],.int .i64 1] rfl (by(try simp only[List.map_toArray,List.map_cons,List.map_nil]);first|done|(rw[show t275.length=t258.length from (Kd.S_reads' HO_264001.out).1.symm]<;>rfl)|rfl|(simp only[List.length_drop,List.length_take];rfl)) ?_;(with_reducible refine(laws_heldTurns.calls kj61 t257 _ _ t275 t261 1 t276 _ ?side1 ?side2 A93.out).mono ?_);(case side1=>repeat (first|exact(Kd.S_reads' HO_264001.out).2.2|(with_reducible refine Kd.C_alloc ?_ _)|(with_reducible refine Kd.C_drewN ?_ _)|(with_reducible refine Kd.C_drew ?_)));(case side2=>rw[show t275.length=t258.length from (Kd.S_reads' HO_264001.out).1.symm];exact(Kd.S_reads' HO_264001.out).2.1);rintro e w176 ⟨rfl,hb⟩;refine⟨_,rfl,?_⟩;have n0_:=Aside0.mk (Kd.S_below (by(with_reducible repeat (first|apply Kd.S_alloc|apply Kd.S_drewN|apply Kd.S_drew));exact HO_251001.out) hb);have n1_:=Aside0.mk (Kd.S_below (by(with_reducible repeat (first|apply Kd.S_alloc|apply Kd.S_drewN|apply Kd.S_drew));exact HO_257001.out) hb);have n2_:=Aside0.mk (Kd.S_below (by(with_reducible repeat (first|apply Kd.S_alloc|apply Kd.S_drewN|apply Kd.S_drew));exact HO_264001.out) hb);have n3_:=Aside0.mk (bM BK237.out hb);have n4_:=Aside0.mk (bM BK250.out hb);have n5_:=Aside0.mk (bM BK256.out hb);have n6_:=Aside0.mk (bM BK263.out hb);have n7_:=Aside0.mk (below_step (bS4 GE237.out GE250.out GE256.out GE263.out) hb);clear HO_251001 HO_257001 HO_264001 BK237 BK250 BK256 BK263 HB;have HO_251001:=n0_;have HO_257001:=n1_;have HO_264001:=n2_;have BK237:=n3_;have BK250:=n4_;have BK256:=n5_;have BK263:=n6_;have HB:=n7_;clear n0_ n1_ n2_ n3_ n4_ n5_ n6_ n7_;(try clear hb);(try clear hb2);(try clear hk);(try clear hi)))
           go_ret
           exact⟨bE,bS4 GE237.out GE250.out GE256.out GE263.out⟩
     ·replace c60:=Bool.eq_false_iff.mpr c60
      subst c60
      have H1:(some false)=some r:=by rw[if_neg (show ¬ (false=true) by decide)] at H;exact H
      clear H
      have H:=H1
      clear H1
      obtain rfl:=Option.some.inj H
      try go_wp2
      have n0_:=Aside0.mk (Kd.S_drew HO_251001.out)
      have n1_:=Aside0.mk (Kd.S_drew HO_257001.out)
      have n2_:=Aside0.mk (Kd.S_drew HO_264001.out)
      have n3_:=Aside0.mk (blk_drew BK237.out)
      have n4_:=Aside0.mk (blk_drew BK250.out)
      have n5_:=Aside0.mk (blk_drew BK256.out)
      have n6_:=Aside0.mk (blk_drew BK263.out)
      have n7_:=Aside0.mk (below_drew1 HB.out)
      clear HO_251001 HO_257001 HO_264001 BK237 BK250 BK256 BK263 HB
      have HO_251001:=n0_
      have HO_257001:=n1_
      have HO_264001:=n2_
      have BK237:=n3_
      have BK250:=n4_
      have BK256:=n5_
      have BK263:=n6_
      have HB:=n7_
      clear n0_ n1_ n2_ n3_ n4_ n5_ n6_ n7_
      refine start_ (n:=5) (S:=fun w'=>w'.cell? ⟨gb256,0,none⟩=some (.int .i64 t251)∧w'.cell? ⟨gb256,1,none⟩=some (.slice Ao31 t252.length co31)∧w'.cell? ⟨gb256,2,none⟩=some (.int .i64 t255)∧w'.cell? ⟨gb237,0,none⟩=some (.int .i64 a0_0)∧w'.cell? ⟨gb237,1,none⟩=some (.slice A0_1 l0_1.length c0_1)∧w'.cell? ⟨gb237,2,none⟩=some (.int .i64 a0_2)) (ds:=[]) #[false,false,false,false,false] (by kernel_rfl) rfl rfl ⟨(blk_cell BK256.out 0).trans rfl,(blk_cell BK256.out 1).trans rfl,(blk_cell BK256.out 2).trans rfl,(blk_cell BK237.out 0).trans rfl,(blk_cell BK237.out 1).trans rfl,(blk_cell BK237.out 2).trans rfl⟩ (fun hHeld => ?_)
      generalize wc.drew=w177 at HO_251001 HO_257001 HO_264001 BK237 BK250 BK256 BK263 HB hHeld ⊢
      refine take_ (i:=0) (N:=some 49) (v:=?_) (a':=?_) #[true,false,false,false,false] rfl rfl (by kernel_rfl) (fun _ _ _ h=>h) (Or.inl ⟨by rfl,?_⟩) hHeld ?_ ?_
      rotate_left
      ·rintro w' ⟨s0,s1,s2,s3,s4,s5⟩
       go_simp
       with_reducible rfl
      rotate_left
      ·simp only[Act.put,List.setIfInBounds_toArray,List.set_cons_zero,List.set_cons_succ,i64_w,i32_w]
       rfl
      refine take_ (i:=1) (N:=some 50) (v:=?_) (a':=?_) #[true,true,false,false,false] rfl rfl (by kernel_rfl) (fun _ _ _ h=>h) (Or.inl ⟨by rfl,?_⟩) hHeld ?_ ?_
      rotate_left
      ·rintro w' ⟨s0,s1,s2,s3,s4,s5⟩
       go_simp
       with_reducible rfl
      rotate_left
      ·simp only[Act.put,List.setIfInBounds_toArray,List.set_cons_zero,List.set_cons_succ,i64_w,i32_w]
       rfl
      refine one_ (i:=2) (N:=some 51) #[true,true,true,false,false] rfl rfl (by kernel_rfl) (by decide) (fun K hK => ?_)
      refine goes_ Try.func17 (by kernel_rfl) rfl #[.agg #[.int .i64 a0_0,.slice A0_1 l0_1.length c0_1,.int .i64 a0_2]] (by rfl) rfl rfl (by(try simp only[List.map_toArray,List.map_cons,List.map_nil]);first|done|rfl|(simp only[List.length_drop,List.length_take];rfl)) ?_
      with_reducible refine(laws_toTurns.calls kj12 a0_0 _ _ l0_1 a0_2 t265 t266 t269 _ ?side1 ?side2 A58.out).mono ?_
      (case side1=>exact bC HR0_1.out)
      (case side2=>exact HC0_1.out)
      rintro e w178 ⟨v267,rfl,ho0,hb⟩
      refine⟨_,rfl,?_⟩
      obtain⟨N267_,hN_⟩:=sizeof_ hb
      have n0_:=Aside0.mk (S_oldN (by(with_reducible repeat (first|apply Kd.S_alloc|apply Kd.S_drewN|apply Kd.S_drew));exact HO_251001.out) hb hN_)
      have n1_:=Aside0.mk (S_oldN (by(with_reducible repeat (first|apply Kd.S_alloc|apply Kd.S_drewN|apply Kd.S_drew));exact HO_257001.out) hb hN_)
      have n2_:=Aside0.mk (S_oldN (by(with_reducible repeat (first|apply Kd.S_alloc|apply Kd.S_drewN|apply Kd.S_drew));exact HO_264001.out) hb hN_)
      have n3_:=Aside0.mk (Kd.S_lower (S_newN (S_newN (S_newN ho0 hN_) hN_) hN_) (below_size (bS4 GE237.out GE250.out GE256.out GE263.out)))
      have n4_:=Aside0.mk (bM BK237.out hb)
      have n5_:=Aside0.mk (bM BK250.out hb)
      have n6_:=Aside0.mk (bM BK256.out hb)
      have n7_:=Aside0.mk (bM BK263.out hb)
      have n8_:=Aside0.mk (below_step (bS4 GE237.out GE250.out GE256.out GE263.out) hb)
      clear HO_251001 HO_257001 HO_264001 BK237 BK250 BK256 BK263 HB
      have HO_251001:=n0_
      have HO_257001:=n1_
      have HO_264001:=n2_
      have HO268:=n3_
      have BK237:=n4_
      have BK250:=n5_
      have BK256:=n6_
      have BK263:=n7_
      have HB:=n8_
      clear n0_ n1_ n2_ n3_ n4_ n5_ n6_ n7_ n8_
      (try clear hb)
      (try clear hb2)
      (try clear hk)
      (try clear hi)
      (try clear ho0)
      obtain⟨Ao179,co179,eo179⟩:=Kd.S_slice HO268.out
      (first|subst eo179|(injection eo179 with f1_ f2_ f3_;have f4_:=f1_.symm;have f5_:=f3_.symm;clear f1_ f2_ f3_;subst f4_;subst f5_))
      refine hK.out _ _ ⟨(blk_cell BK256.out 0).trans rfl,(blk_cell BK256.out 1).trans rfl,(blk_cell BK256.out 2).trans rfl,(blk_cell BK237.out 0).trans rfl,(blk_cell BK237.out 1).trans rfl,(blk_cell BK237.out 2).trans rfl⟩ (fun hHeld => ?_)
      clear hK K
      refine norm_ (a':=?_) ?_ ?_
      rotate_left
      ·show Act.put _ (some 51) _=_
       simp only[Act.put,List.setIfInBounds_toArray,List.set_cons_zero,List.set_cons_succ,i64_w,i32_w]
       rfl
      refine one_ (i:=3) (N:=some 52) #[true,true,true,true,false] rfl rfl (by kernel_rfl) (by decide) (fun K hK => ?_)
      refine goes_ Try.func19 (by kernel_rfl) rfl #[.agg #[.int .i64 t251,.slice Ao31 t252.length co31,.int .i64 t255],.agg #[.int .i64 t265,.slice Ao179 t266.length co179,.int .i64 t269]] (by rfl) rfl rfl (by(try simp only[List.map_toArray,List.map_cons,List.map_nil]);first|done|rfl|(simp only[List.length_drop,List.length_take];rfl)) ?_
      with_reducible refine(laws_eqTurns.calls kj12 t251 _ _ t252 t255 t265 _ _ t266 t269 false _ ?side1 ?side2 ?side3 ?side4 A59.out).mono ?_
      (case side1=>repeat (first|exact(Kd.S_reads' HO_257001.out).2.2|(with_reducible refine Kd.C_alloc ?_ _)|(with_reducible refine Kd.C_drewN ?_ _)|(with_reducible refine Kd.C_drew ?_)))
      (case side2=>exact(Kd.S_reads' HO_257001.out).2.1)
      (case side3=>repeat (first|exact(Kd.S_reads' HO268.out).2.2|(with_reducible refine Kd.C_alloc ?_ _)|(with_reducible refine Kd.C_drewN ?_ _)|(with_reducible refine Kd.C_drew ?_)))
      (case side4=>exact(Kd.S_reads' HO268.out).2.1)
      rintro e w180 ⟨rfl,hb⟩
      refine⟨_,rfl,?_⟩
      have n0_:=Aside0.mk (Kd.S_below (by(with_reducible repeat (first|apply Kd.S_alloc|apply Kd.S_drewN|apply Kd.S_drew));exact HO_251001.out) hb)
      have n1_:=Aside0.mk (Kd.S_below (by(with_reducible repeat (first|apply Kd.S_alloc|apply Kd.S_drewN|apply Kd.S_drew));exact HO_257001.out) hb)
      have n2_:=Aside0.mk (Kd.S_below (by(with_reducible repeat (first|apply Kd.S_alloc|apply Kd.S_drewN|apply Kd.S_drew));exact HO_264001.out) hb)
      have n3_:=Aside0.mk (Kd.S_below (by(with_reducible repeat (first|apply Kd.S_alloc|apply Kd.S_drewN|apply Kd.S_drew));exact HO268.out) hb)
      have n4_:=Aside0.mk (bM BK237.out hb)
      have n5_:=Aside0.mk (bM BK250.out hb)
      have n6_:=Aside0.mk (bM BK256.out hb)
      have n7_:=Aside0.mk (bM BK263.out hb)
      have n8_:=Aside0.mk (below_step (bS4 GE237.out GE250.out GE256.out GE263.out) hb)
      clear HO_251001 HO_257001 HO_264001 HO268 BK237 BK250 BK256 BK263 HB
      have HO_251001:=n0_
      have HO_257001:=n1_
      have HO_264001:=n2_
      have HO268:=n3_
      have BK237:=n4_
      have BK250:=n5_
      have BK256:=n6_
      have BK263:=n7_
      have HB:=n8_
      clear n0_ n1_ n2_ n3_ n4_ n5_ n6_ n7_ n8_
      (try clear hb)
      (try clear hb2)
      (try clear hk)
      (try clear hi)
      refine hK.out _ _ ⟨(blk_cell BK256.out 0).trans rfl,(blk_cell BK256.out 1).trans rfl,(blk_cell BK256.out 2).trans rfl,(blk_cell BK237.out 0).trans rfl,(blk_cell BK237.out 1).trans rfl,(blk_cell BK237.out 2).trans rfl⟩ (fun hHeld => ?_)
      clear hK K
      refine norm_ (a':=?_) ?_ ?_
      rotate_left
      ·show Act.put _ (some 52) _=_
       simp only[Act.put,List.setIfInBounds_toArray,List.set_cons_zero,List.set_cons_succ,i64_w,i32_w]
       rfl
      refine pure_ (i:=4) (N:=some 53) (v:=?_) (a':=?_) #[true,true,true,true,true] rfl rfl (by kernel_rfl) (fun _ _ _ h=>h) (Or.inl ⟨by rfl,?_⟩) ?_ ?_
      rotate_left
      ·intro w'
       go_simp
       with_reducible rfl
      rotate_left
      ·simp only[Act.put,List.setIfInBounds_toArray,List.set_cons_zero,List.set_cons_succ,i64_w,i32_w]
       rfl
      refine done_ (by kernel_rfl) ?_
      try go_wp2
      go_ret
      exact⟨bE,bS4 GE237.out GE250.out GE256.out GE263.out⟩

end Go.Proofs.Yteneeohaoplpbaa.XFnExactPutLong
