-- Written by this session's own program (wip/xprint.py) out of the translation; Lean checks it.
import Derived.Test.YteneeohaoplpbaaXFnExactReachAllx0
import Derived.Test.YteneeohaoplpbaaXFnExactReachAllx1
import Derived.Test.YteneeohaoplpbaaXFnExactReachAllx2
import Derived.Test.YteneeohaoplpbaaXFnExactReachAllx5
import Derived.Test.YteneeohaoplpbaaXFnExactReachAllx10
import Derived.Test.YteneeohaoplpbaaXFnExactReachAllx11
namespace Go.Proofs.Yteneeohaoplpbaa.XFnExactReachAll
open Go.RowKit Go.Proofs.YteneeohaoplpbaaW.PrintWords Go.Proofs.YteneeohaoplpbaaW.PrintLast Go.Proofs.YteneeohaoplpbaaW.PrintMore
attribute [local go_sem] max2_int min2_int max_two min_two max_three min_three max_four min_four   -- for this text's walks alone
set_option linter.unusedVariables false
set_option linter.unusedSimpArgs false

/-! ### laws_FnExactReachAll: function 13 -/
mutual
def laws_FnExactReachAll.j0:Nat→List (S125)→List Int→List (S157)→Bool→List (S104)→List Int→List (S157)→Bool→Bool→Int→Int→Bool→Int→Int→Int→Int→Int→Int→ByteArray→Option (Bool)
 | 0,_,_,_,_,_,_,_,_,_,_,_,_,_,_,_,_,_,_,_=>none
 | k+1,x0,x2,x8,x9,x10,x11,x12,x13,x62,x328000,x328001,x328002,x328003,x328004,x328005,x328006,x328007,x328008,x328009=>if x62=true then (some false) else ((laws_toContactS.f k x0).bind fun t371=>((laws_eqContactS.f k x10 t371).bind fun t374=>(if t374=true then ((laws_toIntS.f k x2).bind fun t375=>((laws_eqIntS.f k x11 t375).bind fun t378=>(if t378=true then ((laws_markContactS.f k x10 1).bind fun bt379=>((laws_markIntS.f k x11 bt379.1).bind fun bt381=>(if bt381.1 < 0 then (laws_FnExactReachAll.j1 k x0 x2 x8 x9 x12 true x328000 x328001 x328002 x328003 x328004 x328005 x328006 x328007 x328008 x328009) else ((laws_eqReachS.f k x12 x8).bind fun t383=>(if t383=true then (laws_FnExactReachAll.j1 k x0 x2 x8 x9 x12 (x13 != x9) x328000 x328001 x328002 x328003 x328004 x328005 x328006 x328007 x328008 x328009) else (laws_FnExactReachAll.j1 k x0 x2 x8 x9 x12 true x328000 x328001 x328002 x328003 x328004 x328005 x328006 x328007 x328008 x328009)))))) else (some false)))) else (some false))))
def laws_FnExactReachAll.j1:Nat→List (S125)→List Int→List (S157)→Bool→List (S157)→Bool→Int→Int→Bool→Int→Int→Int→Int→Int→Int→ByteArray→Option (Bool)
 | 0,_,_,_,_,_,_,_,_,_,_,_,_,_,_,_,_=>none
 | k+1,x0,x2,x8,x9,x12,x91,x328000,x328001,x328002,x328003,x328004,x328005,x328006,x328007,x328008,x328009=>if x91=true then (some false) else ((laws_markReachS.f k x12 1).bind fun bt384=>((laws_heldReachS.f k bt384.2 1).bind fun t386=>(if t386 < 0 then (some false) else (if t386=bt384.1 then ((laws_toContactS.f k x0).bind fun t387=>((laws_toBundle.f x328000 x328001 x328002 x328003 x328004 x328005 x328006 x328007 x328008 x328009).bind fun bt390=>((laws_toIntS.f k x2).bind fun t400=>((impl_ReachAll.f k t387 bt390.1 bt390.2.1 bt390.2.2.1 bt390.2.2.2.1 bt390.2.2.2.2.1 bt390.2.2.2.2.2.1 bt390.2.2.2.2.2.2.1 bt390.2.2.2.2.2.2.2.1 bt390.2.2.2.2.2.2.2.2.1 bt390.2.2.2.2.2.2.2.2.2 t400).bind fun bt403=>((laws_eqReachS.f k bt403.1 x8).bind fun t407=>(if t407=true then (laws_FnExactReachAll.j2 k bt384.2 bt384.1 (bt403.2 != x9)) else (laws_FnExactReachAll.j2 k bt384.2 bt384.1 true))))))) else (some false)))))
def laws_FnExactReachAll.j2:Nat→List (S157)→Int→Bool→Option (Bool)
 | 0,_,_,_=>none
 | k+1,x12,x15,x121=>if x121=true then (some false) else ((laws_heldReachS.f k x12 1).bind fun t408=>(if t408 < 0 then (some false) else (if t408=x15 then (some true) else (some false))))
end
def laws_FnExactReachAll.f (k:Nat) (l0:List (S125)) (a1_0:Int) (a1_1:Int) (a1_2:Bool) (a1_3:Int) (a1_4:Int) (a1_5:Int) (a1_6:Int) (a1_7:Int) (a1_8:Int) (a1_9:ByteArray) (l2:List Int):Option (Bool):=if (l2.length:Int) > 1048576 then (some true) else ((laws_szContactS.f l0 1048576).bind fun t328=>(if t328 < 0 then (some true) else ((laws_szBundle.f a1_0 a1_1 a1_2 a1_3 a1_4 a1_5 a1_6 a1_7 a1_8 a1_9 t328).bind fun t329=>(if t329 < 0 then (some true) else ((laws_toContactS.f k l0).bind fun t330=>((laws_toBundle.f a1_0 a1_1 a1_2 a1_3 a1_4 a1_5 a1_6 a1_7 a1_8 a1_9).bind fun bt333=>((laws_toIntS.f k l2).bind fun t343=>((spec_ReachAll.f k t330 bt333.1 bt333.2.1 bt333.2.2.1 bt333.2.2.2.1 bt333.2.2.2.2.1 bt333.2.2.2.2.2.1 bt333.2.2.2.2.2.2.1 bt333.2.2.2.2.2.2.2.1 bt333.2.2.2.2.2.2.2.2.1 bt333.2.2.2.2.2.2.2.2.2 t343).bind fun bt346=>((laws_toContactS.f k l0).bind fun t350=>((laws_toIntS.f k l2).bind fun t353=>((laws_toBundle.f a1_0 a1_1 a1_2 a1_3 a1_4 a1_5 a1_6 a1_7 a1_8 a1_9).bind fun bt356=>((impl_ReachAll.f k t350 bt356.1 bt356.2.1 bt356.2.2.1 bt356.2.2.2.1 bt356.2.2.2.2.1 bt356.2.2.2.2.2.1 bt356.2.2.2.2.2.2.1 bt356.2.2.2.2.2.2.2.1 bt356.2.2.2.2.2.2.2.2.1 bt356.2.2.2.2.2.2.2.2.2 t353).bind fun bt366=>((laws_eqReachS.f k bt366.1 bt346.1).bind fun t370=>(if t370=true then (laws_FnExactReachAll.j0 k l0 l2 bt346.1 bt346.2 t350 t353 bt366.1 bt366.2 (bt366.2 != bt346.2) a1_0 a1_1 a1_2 a1_3 a1_4 a1_5 a1_6 a1_7 a1_8 a1_9) else (laws_FnExactReachAll.j0 k l0 l2 bt346.1 bt346.2 t350 t353 bt366.1 bt366.2 true a1_0 a1_1 a1_2 a1_3 a1_4 a1_5 a1_6 a1_7 a1_8 a1_9)))))))))))))))
theorem laws_FnExactReachAll.mono_l : ∀ k,(∀ y0 y1 y2 y3 y4 y5 y6 y7 y8 y9 y10 y11 y12 y13 y14 y15 y16 y17 y18,LeO (laws_FnExactReachAll.j0 k y0 y1 y2 y3 y4 y5 y6 y7 y8 y9 y10 y11 y12 y13 y14 y15 y16 y17 y18) (laws_FnExactReachAll.j0 (k+1) y0 y1 y2 y3 y4 y5 y6 y7 y8 y9 y10 y11 y12 y13 y14 y15 y16 y17 y18))∧(∀ y0 y1 y2 y3 y4 y5 y6 y7 y8 y9 y10 y11 y12 y13 y14 y15,LeO (laws_FnExactReachAll.j1 k y0 y1 y2 y3 y4 y5 y6 y7 y8 y9 y10 y11 y12 y13 y14 y15) (laws_FnExactReachAll.j1 (k+1) y0 y1 y2 y3 y4 y5 y6 y7 y8 y9 y10 y11 y12 y13 y14 y15))∧(∀ y0 y1 y2,LeO (laws_FnExactReachAll.j2 k y0 y1 y2) (laws_FnExactReachAll.j2 (k+1) y0 y1 y2))
 | 0=>⟨fun _ _ _ _ _ _ _ _ _ _ _ _ _ _ _ _ _ _ _ r h=>by simp[laws_FnExactReachAll.j0] at h,fun _ _ _ _ _ _ _ _ _ _ _ _ _ _ _ _ r h=>by simp[laws_FnExactReachAll.j1] at h,fun _ _ _ r h=>by simp[laws_FnExactReachAll.j2] at h⟩
 | k+1=>by
  obtain⟨ih0,ih1,ih2⟩:=laws_FnExactReachAll.mono_l k
  refine⟨?_,?_,?_⟩
  ·intro y0 y1 y2 y3 y4 y5 y6 y7 y8 y9 y10 y11 y12 y13 y14 y15 y16 y17 y18
   unfold laws_FnExactReachAll.j0
   repeat' first
   | (with_reducible exact ih0 _ _ _ _ _ _ _ _ _ _ _ _ _ _ _ _ _ _ _)
   | (with_reducible exact ih1 _ _ _ _ _ _ _ _ _ _ _ _ _ _ _ _)
   | (with_reducible exact ih2 _ _ _)
   | (with_reducible exact impl_ReachAll.mono _ _ _ _ _ _ _ _ _ _ _ _ _)
   | (with_reducible exact laws_eqContactS.mono _ _ _)
   | (with_reducible exact laws_eqIntS.mono _ _ _)
   | (with_reducible exact laws_eqReachS.mono _ _ _)
   | (with_reducible exact laws_heldReachS.mono _ _ _)
   | (with_reducible exact laws_markContactS.mono _ _ _)
   | (with_reducible exact laws_markIntS.mono _ _ _)
   | (with_reducible exact laws_markReachS.mono _ _ _)
   | (with_reducible exact laws_toContactS.mono _ _)
   | (with_reducible exact laws_toIntS.mono _ _)
   | (with_reducible exact spec_ReachAll.mono _ _ _ _ _ _ _ _ _ _ _ _ _)
   | (with_reducible exact LeO.refl _)
   | (with_reducible exact LeO.none _)
   | (with_reducible refine LeO.ite ?_ ?_)
   | (with_reducible refine LeO.bind ?_ (fun _ => ?_))
   | exact ih0 _ _ _ _ _ _ _ _ _ _ _ _ _ _ _ _ _ _ _
   | exact ih1 _ _ _ _ _ _ _ _ _ _ _ _ _ _ _ _
   | exact ih2 _ _ _
   | exact impl_ReachAll.mono _ _ _ _ _ _ _ _ _ _ _ _ _
   | exact laws_eqContactS.mono _ _ _
   | exact laws_eqIntS.mono _ _ _
   | exact laws_eqReachS.mono _ _ _
   | exact laws_heldReachS.mono _ _ _
   | exact laws_markContactS.mono _ _ _
   | exact laws_markIntS.mono _ _ _
   | exact laws_markReachS.mono _ _ _
   | exact laws_toContactS.mono _ _
   | exact laws_toIntS.mono _ _
   | exact spec_ReachAll.mono _ _ _ _ _ _ _ _ _ _ _ _ _
   | exact LeO.none _
   | refine LeO.ite ?_ ?_
   | refine LeO.bind ?_ (fun _ => ?_)
  ·intro y0 y1 y2 y3 y4 y5 y6 y7 y8 y9 y10 y11 y12 y13 y14 y15
   unfold laws_FnExactReachAll.j1
   repeat' first
   | (with_reducible exact ih0 _ _ _ _ _ _ _ _ _ _ _ _ _ _ _ _ _ _ _)
   | (with_reducible exact ih1 _ _ _ _ _ _ _ _ _ _ _ _ _ _ _ _)
   | (with_reducible exact ih2 _ _ _)
   | (with_reducible exact impl_ReachAll.mono _ _ _ _ _ _ _ _ _ _ _ _ _)
   | (with_reducible exact laws_eqContactS.mono _ _ _)
   | (with_reducible exact laws_eqIntS.mono _ _ _)
   | (with_reducible exact laws_eqReachS.mono _ _ _)
   | (with_reducible exact laws_heldReachS.mono _ _ _)
   | (with_reducible exact laws_markContactS.mono _ _ _)
   | (with_reducible exact laws_markIntS.mono _ _ _)
   | (with_reducible exact laws_markReachS.mono _ _ _)
   | (with_reducible exact laws_toContactS.mono _ _)
   | (with_reducible exact laws_toIntS.mono _ _)
   | (with_reducible exact spec_ReachAll.mono _ _ _ _ _ _ _ _ _ _ _ _ _)
   | (with_reducible exact LeO.refl _)
   | (with_reducible exact LeO.none _)
   | (with_reducible refine LeO.ite ?_ ?_)
   | (with_reducible refine LeO.bind ?_ (fun _ => ?_))
   | exact ih0 _ _ _ _ _ _ _ _ _ _ _ _ _ _ _ _ _ _ _
   | exact ih1 _ _ _ _ _ _ _ _ _ _ _ _ _ _ _ _
   | exact ih2 _ _ _
   | exact impl_ReachAll.mono _ _ _ _ _ _ _ _ _ _ _ _ _
   | exact laws_eqContactS.mono _ _ _
   | exact laws_eqIntS.mono _ _ _
   | exact laws_eqReachS.mono _ _ _
   | exact laws_heldReachS.mono _ _ _
   | exact laws_markContactS.mono _ _ _
   | exact laws_markIntS.mono _ _ _
   | exact laws_markReachS.mono _ _ _
   | exact laws_toContactS.mono _ _
   | exact laws_toIntS.mono _ _
   | exact spec_ReachAll.mono _ _ _ _ _ _ _ _ _ _ _ _ _
   | exact LeO.none _
   | refine LeO.ite ?_ ?_
   | refine LeO.bind ?_ (fun _ => ?_)
  ·intro y0 y1 y2
   unfold laws_FnExactReachAll.j2
   repeat' first
   | (with_reducible exact ih0 _ _ _ _ _ _ _ _ _ _ _ _ _ _ _ _ _ _ _)
   | (with_reducible exact ih1 _ _ _ _ _ _ _ _ _ _ _ _ _ _ _ _)
   | (with_reducible exact ih2 _ _ _)
   | (with_reducible exact impl_ReachAll.mono _ _ _ _ _ _ _ _ _ _ _ _ _)
   | (with_reducible exact laws_eqContactS.mono _ _ _)
   | (with_reducible exact laws_eqIntS.mono _ _ _)
   | (with_reducible exact laws_eqReachS.mono _ _ _)
   | (with_reducible exact laws_heldReachS.mono _ _ _)
   | (with_reducible exact laws_markContactS.mono _ _ _)
   | (with_reducible exact laws_markIntS.mono _ _ _)
   | (with_reducible exact laws_markReachS.mono _ _ _)
   | (with_reducible exact laws_toContactS.mono _ _)
   | (with_reducible exact laws_toIntS.mono _ _)
   | (with_reducible exact spec_ReachAll.mono _ _ _ _ _ _ _ _ _ _ _ _ _)
   | (with_reducible exact LeO.refl _)
   | (with_reducible exact LeO.none _)
   | (with_reducible refine LeO.ite ?_ ?_)
   | (with_reducible refine LeO.bind ?_ (fun _ => ?_))
   | exact ih0 _ _ _ _ _ _ _ _ _ _ _ _ _ _ _ _ _ _ _
   | exact ih1 _ _ _ _ _ _ _ _ _ _ _ _ _ _ _ _
   | exact ih2 _ _ _
   | exact impl_ReachAll.mono _ _ _ _ _ _ _ _ _ _ _ _ _
   | exact laws_eqContactS.mono _ _ _
   | exact laws_eqIntS.mono _ _ _
   | exact laws_eqReachS.mono _ _ _
   | exact laws_heldReachS.mono _ _ _
   | exact laws_markContactS.mono _ _ _
   | exact laws_markIntS.mono _ _ _
   | exact laws_markReachS.mono _ _ _
   | exact laws_toContactS.mono _ _
   | exact laws_toIntS.mono _ _
   | exact spec_ReachAll.mono _ _ _ _ _ _ _ _ _ _ _ _ _
   | exact LeO.none _
   | refine LeO.ite ?_ ?_
   | refine LeO.bind ?_ (fun _ => ?_)
theorem laws_FnExactReachAll.mono : ∀ a0 a1 a2 a3 a4 a5 a6 a7 a8 a9 a10 a11 k,LeO (laws_FnExactReachAll.f k a0 a1 a2 a3 a4 a5 a6 a7 a8 a9 a10 a11) (laws_FnExactReachAll.f (k+1) a0 a1 a2 a3 a4 a5 a6 a7 a8 a9 a10 a11):=by
 intro a0 a1 a2 a3 a4 a5 a6 a7 a8 a9 a10 a11 k
 obtain⟨ih0,ih1,ih2⟩:=laws_FnExactReachAll.mono_l k
 unfold laws_FnExactReachAll.f
 repeat' first
  | (with_reducible exact ih0 _ _ _ _ _ _ _ _ _ _ _ _ _ _ _ _ _ _ _)
  | (with_reducible exact ih1 _ _ _ _ _ _ _ _ _ _ _ _ _ _ _ _)
  | (with_reducible exact ih2 _ _ _)
  | (with_reducible exact impl_ReachAll.mono _ _ _ _ _ _ _ _ _ _ _ _ _)
  | (with_reducible exact laws_eqContactS.mono _ _ _)
  | (with_reducible exact laws_eqIntS.mono _ _ _)
  | (with_reducible exact laws_eqReachS.mono _ _ _)
  | (with_reducible exact laws_heldReachS.mono _ _ _)
  | (with_reducible exact laws_markContactS.mono _ _ _)
  | (with_reducible exact laws_markIntS.mono _ _ _)
  | (with_reducible exact laws_markReachS.mono _ _ _)
  | (with_reducible exact laws_toContactS.mono _ _)
  | (with_reducible exact laws_toIntS.mono _ _)
  | (with_reducible exact spec_ReachAll.mono _ _ _ _ _ _ _ _ _ _ _ _ _)
  | (with_reducible exact LeO.refl _)
  | (with_reducible exact LeO.none _)
  | (with_reducible refine LeO.ite ?_ ?_)
  | (with_reducible refine LeO.bind ?_ (fun _ => ?_))
  | exact ih0 _ _ _ _ _ _ _ _ _ _ _ _ _ _ _ _ _ _ _
  | exact ih1 _ _ _ _ _ _ _ _ _ _ _ _ _ _ _ _
  | exact ih2 _ _ _
  | exact impl_ReachAll.mono _ _ _ _ _ _ _ _ _ _ _ _ _
  | exact laws_eqContactS.mono _ _ _
  | exact laws_eqIntS.mono _ _ _
  | exact laws_eqReachS.mono _ _ _
  | exact laws_heldReachS.mono _ _ _
  | exact laws_markContactS.mono _ _ _
  | exact laws_markIntS.mono _ _ _
  | exact laws_markReachS.mono _ _ _
  | exact laws_toContactS.mono _ _
  | exact laws_toIntS.mono _ _
  | exact spec_ReachAll.mono _ _ _ _ _ _ _ _ _ _ _ _ _
  | exact LeO.none _
  | refine LeO.ite ?_ ?_
  | refine LeO.bind ?_ (fun _ => ?_)
def laws_FnExactReachAll.T10:Bool × List (List Nat × List Nat):=(true,[([],[]),([0],[0]),([],[]),([2,1],[2]),([],[]),([4,3],[4]),([1,3,5,5],[1,3,5]),([6],[6]),([7],[7]),([7],[7]),([8,6,0,1,2,3,4,5,6,7,8],[8]),([9,10,0,1,2,3,4,5,6,7,8,9,10],[9])])
def laws_FnExactReachAll.B10:List Nat:=[0,1,0,7,0,31,63,127,255,255,511,2047]
theorem laws_FnExactReachAll.tab10:rtab .any (opsOf Try.f13 10)=laws_FnExactReachAll.T10:=by kernel_rfl
theorem laws_FnExactReachAll.bits10:waitsOk laws_FnExactReachAll.T10.2 laws_FnExactReachAll.B10=true:=by kernel_rfl
def laws_FnExactReachAll.T33:Bool × List (List Nat × List Nat):=(true,[([],[]),([0],[0]),([],[]),([2,1],[2]),([],[]),([4,3],[4]),([1,3,5,5],[1,3,5]),([6],[6]),([7],[7]),([7],[7]),([8,6,0,1,2,3,4,5,6,7,8],[8]),([9,10,0,1,2,3,4,5,6,7,8,9,10],[9])])
def laws_FnExactReachAll.B33:List Nat:=[0,1,0,7,0,31,63,127,255,255,511,2047]
theorem laws_FnExactReachAll.tab33:rtab .any (opsOf Try.f13 33)=laws_FnExactReachAll.T33:=by kernel_rfl
theorem laws_FnExactReachAll.bits33:waitsOk laws_FnExactReachAll.T33.2 laws_FnExactReachAll.B33=true:=by kernel_rfl
set_option maxHeartbeats 8000000 in
set_option maxRecDepth 100000 in
theorem laws_FnExactReachAll.calls (k:Nat) (A0:Option Addr) (c0:Nat) (l0:List (S125)) (a1_0:Int) (a1_1:Int) (a1_2:Bool) (a1_3:Int) (a1_4:Int) (a1_5:Int) (a1_6:Int) (a1_7:Int) (a1_8:Int) (a1_9:ByteArray) (A2:Option Addr) (c2:Nat) (l2:List Int) (r:Bool) (w:World) (hr0:Kd.C k125 w A0 l0.length l0) (hc0:l0.length≤c0) (hr2:Kd.C (Kd.int .i64) w A2 l2.length l2) (hc2:l2.length≤c2) (h:laws_FnExactReachAll.f k l0 a1_0 a1_1 a1_2 a1_3 a1_4 a1_5 a1_6 a1_7 a1_8 a1_9 l2=some r) :
  Calls Try.prog 13 #[.slice A0 l0.length c0,.agg #[.int .i64 a1_0,.int .i64 a1_1,.bool a1_2,.int .i64 a1_3,.int .i64 a1_4,.int .i64 a1_5,.int .i64 a1_6,.int .i64 a1_7,.int .i64 a1_8,.string a1_9],.slice A2 l2.length c2] w fun e w'=>e=.returned (.bool r)∧Below w.heap.size w w':=by
 have hu82:=Try.underlying82
 have HR0:=Aside0.mk hr0
 have HC0:=Aside0.mk hc0
 clear hr0 hc0
 have HR2:=Aside0.mk hr2
 have HC2:=Aside0.mk hc2
 clear hr2 hc2
 have HB:=Aside0.mk (Below.refl w.heap.size w)
 have H:(if (l2.length:Int) > 1048576 then (some true) else ((laws_szContactS.f l0 1048576).bind fun t328=>(if t328 < 0 then (some true) else ((laws_szBundle.f a1_0 a1_1 a1_2 a1_3 a1_4 a1_5 a1_6 a1_7 a1_8 a1_9 t328).bind fun t329=>(if t329 < 0 then (some true) else ((laws_toContactS.f k l0).bind fun t330=>((laws_toBundle.f a1_0 a1_1 a1_2 a1_3 a1_4 a1_5 a1_6 a1_7 a1_8 a1_9).bind fun bt333=>((laws_toIntS.f k l2).bind fun t343=>((spec_ReachAll.f k t330 bt333.1 bt333.2.1 bt333.2.2.1 bt333.2.2.2.1 bt333.2.2.2.2.1 bt333.2.2.2.2.2.1 bt333.2.2.2.2.2.2.1 bt333.2.2.2.2.2.2.2.1 bt333.2.2.2.2.2.2.2.2.1 bt333.2.2.2.2.2.2.2.2.2 t343).bind fun bt346=>((laws_toContactS.f k l0).bind fun t350=>((laws_toIntS.f k l2).bind fun t353=>((laws_toBundle.f a1_0 a1_1 a1_2 a1_3 a1_4 a1_5 a1_6 a1_7 a1_8 a1_9).bind fun bt356=>((impl_ReachAll.f k t350 bt356.1 bt356.2.1 bt356.2.2.1 bt356.2.2.2.1 bt356.2.2.2.2.1 bt356.2.2.2.2.2.1 bt356.2.2.2.2.2.2.1 bt356.2.2.2.2.2.2.2.1 bt356.2.2.2.2.2.2.2.2.1 bt356.2.2.2.2.2.2.2.2.2 t353).bind fun bt366=>((laws_eqReachS.f k bt366.1 bt346.1).bind fun t370=>(if t370=true then (laws_FnExactReachAll.j0 k l0 l2 bt346.1 bt346.2 t350 t353 bt366.1 bt366.2 (bt366.2 != bt346.2) a1_0 a1_1 a1_2 a1_3 a1_4 a1_5 a1_6 a1_7 a1_8 a1_9) else (laws_FnExactReachAll.j0 k l0 l2 bt346.1 bt346.2 t350 t353 bt366.1 bt366.2 true a1_0 a1_1 a1_2 a1_3 a1_4 a1_5 a1_6 a1_7 a1_8 a1_9))))))))))))))))=some r:=h
 clear h
 by_cases c4:(l2.length:Int) > 1048576
 ·rw[if_pos c4] at H
  have c4b0:decide (1048576 < (l2.length:Int))=true:=decide_eq_true c4
  have c4b1:decide (1048576 < l2.length)=true:=decide_eq_true (by omega)
  clear c4
  obtain rfl:=Option.some.inj H
  go_enter Try.func13,Try.ntmps13
  go_wp2_with (first|((with_reducible refine gate_dst (N:=4) rfl ?_);refine box_event ?hg (N:=4) ?hd (cs:=#[.int .i64 a1_0,.int .i64 a1_1,.bool a1_2,.int .i64 a1_3,.int .i64 a1_4,.int .i64 a1_5,.int .i64 a1_6,.int .i64 a1_7,.int .i64 a1_8,.string a1_9]) (t:=82) ?hr ?_;(case hd=>rfl);(case hg=>rfl);(case hr=>first|(go_simp;done)|(go_simp;rfl));intro gb327 hg w5 hbox hb;have n0_:=Aside0.mk (below_step (bB) hb);have n1_:=Aside0.mk (hbox);have n2_:=Aside0.mk ((bG:w.heap.size≤gb327));have n3_:=Aside0.mk ((bG:w.heap.size≤gb327));clear HB;have HB:=n0_;have BK327:=n1_;have GW327:=n2_;have GE327:=n3_;clear n0_ n1_ n2_ n3_;clear hb hbox hg))
  go_ret
  exact⟨bE,bS GE327.out⟩
 ·rw[if_neg c4] at H
  have c4b0:decide (1048576 < (l2.length:Int))=false:=decide_eq_false c4
  have c4b1:decide (1048576 < l2.length)=false:=decide_eq_false (by omega)
  clear c4
  replace H:=Option.bind_eq_some_iff.mp H
  obtain⟨t328,A60,H⟩:=H
  have A6:=Aside0.mk A60
  clear A60
  by_cases c7:t328 < 0
  ·rw[if_pos c7] at H
   have c7b0:decide (t328 < 0)=true:=decide_eq_true c7
   clear c7
   obtain rfl:=Option.some.inj H
   go_enter Try.func13,Try.ntmps13
   go_wp2_with (first|((with_reducible refine gate_dst (N:=4) rfl ?_);refine box_event ?hg (N:=4) ?hd (cs:=#[.int .i64 a1_0,.int .i64 a1_1,.bool a1_2,.int .i64 a1_3,.int .i64 a1_4,.int .i64 a1_5,.int .i64 a1_6,.int .i64 a1_7,.int .i64 a1_8,.string a1_9]) (t:=82) ?hr ?_;(case hd=>rfl);(case hg=>rfl);(case hr=>first|(go_simp;done)|(go_simp;rfl));intro gb327 hg w8 hbox hb;have n0_:=Aside0.mk (below_step (bB) hb);have n1_:=Aside0.mk (hbox);have n2_:=Aside0.mk ((bG:w.heap.size≤gb327));have n3_:=Aside0.mk ((bG:w.heap.size≤gb327));clear HB;have HB:=n0_;have BK327:=n1_;have GW327:=n2_;have GE327:=n3_;clear n0_ n1_ n2_ n3_;clear hb hbox hg)|((with_reducible refine gate_callee (f:=22) rfl ?_);refine goesA (some 24) rfl rfl Try.func22 #[.slice A0 l0.length c0,.int .i64 1048576] rfl ?_;(with_reducible refine(laws_szContactS.calls _ _ l0 1048576 t328 _ ?side1 ?side2 A6.out).mono ?_);(case side1=>exact bC HR0.out);(case side2=>exact HC0.out);rintro e w' ⟨rfl,⟨nd,rfl⟩⟩;refine⟨_,rfl,?_⟩))
   go_ret
   exact⟨bE,bS GE327.out⟩
  ·rw[if_neg c7] at H
   have c7b0:decide (t328 < 0)=false:=decide_eq_false c7
   clear c7
   replace H:=Option.bind_eq_some_iff.mp H
   obtain⟨t329,A90,H⟩:=H
   have A9:=Aside0.mk A90
   clear A90
   by_cases c10:t329 < 0
   ·rw[if_pos c10] at H
    have c10b0:decide (t329 < 0)=true:=decide_eq_true c10
    clear c10
    obtain rfl:=Option.some.inj H
    go_enter Try.func13,Try.ntmps13
    go_wp2_with (first|((with_reducible refine gate_dst (N:=4) rfl ?_);refine box_event ?hg (N:=4) ?hd (cs:=#[.int .i64 a1_0,.int .i64 a1_1,.bool a1_2,.int .i64 a1_3,.int .i64 a1_4,.int .i64 a1_5,.int .i64 a1_6,.int .i64 a1_7,.int .i64 a1_8,.string a1_9]) (t:=82) ?hr ?_;(case hd=>rfl);(case hg=>rfl);(case hr=>first|(go_simp;done)|(go_simp;rfl));intro gb327 hg w11 hbox hb;have n0_:=Aside0.mk (below_step (bB) hb);have n1_:=Aside0.mk (hbox);have n2_:=Aside0.mk ((bG:w.heap.size≤gb327));have n3_:=Aside0.mk ((bG:w.heap.size≤gb327));clear HB;have HB:=n0_;have BK327:=n1_;have GW327:=n2_;have GE327:=n3_;clear n0_ n1_ n2_ n3_;clear hb hbox hg)|((with_reducible refine gate_callee (f:=22) rfl ?_);refine goesA (some 24) rfl rfl Try.func22 #[.slice A0 l0.length c0,.int .i64 1048576] rfl ?_;(with_reducible refine(laws_szContactS.calls _ _ l0 1048576 t328 _ ?side1 ?side2 A6.out).mono ?_);(case side1=>exact bC HR0.out);(case side2=>exact HC0.out);rintro e w' ⟨rfl,⟨nd,rfl⟩⟩;refine⟨_,rfl,?_⟩;obtain⟨hcz12_0,hcz12_1,hcz12_2,hcz12_3,hcz12_4,hcz12_5,hcz12_6,hcz12_7,hcz12_8,hcz12_9⟩:=cC10 BK327.out;obtain⟨hfz12_0,hfz12_1,hfz12_2,hfz12_3,hfz12_4,hfz12_5,hfz12_6,hfz12_7,hfz12_8,hfz12_9⟩:=cF10 BK327.out)|((with_reducible refine gate_callee (f:=51) rfl ?_);refine goesA (some 29) rfl rfl Try.func51 #[.agg #[.int .i64 a1_0,.int .i64 a1_1,.bool a1_2,.int .i64 a1_3,.int .i64 a1_4,.int .i64 a1_5,.int .i64 a1_6,.int .i64 a1_7,.int .i64 a1_8,.string a1_9],.int .i64 t328] rfl ?_;(with_reducible refine(laws_szBundle.calls a1_0 a1_1 a1_2 a1_3 a1_4 a1_5 a1_6 a1_7 a1_8 a1_9 t328 t329 _ A9.out).mono ?_);rintro e w13 ⟨rfl,hb⟩;refine⟨_,rfl,?_⟩;have n0_:=Aside0.mk (bM BK327.out hb);have n1_:=Aside0.mk (below_step (bS GE327.out) hb);clear BK327 HB;have BK327:=n0_;have HB:=n1_;clear n0_ n1_;(try clear hb);(try clear hb2);(try clear hk);(try clear hi)))
    go_ret
    exact⟨bE,bS GE327.out⟩
   ·rw[if_neg c10] at H
    have c10b0:decide (t329 < 0)=false:=decide_eq_false c10
    clear c10
    replace H:=Option.bind_eq_some_iff.mp H
    obtain⟨t330,A140,H⟩:=H
    have A14:=Aside0.mk A140
    clear A140
    replace H:=Option.bind_eq_some_iff.mp H
    obtain⟨⟨t333,t334,t335,t336,t337,t338,t339,t340,t341,t342⟩,A150,H⟩:=H
    have A15:=Aside0.mk A150
    clear A150
    replace H:=Option.bind_eq_some_iff.mp H
    obtain⟨t343,A160,H⟩:=H
    have A16:=Aside0.mk A160
    clear A160
    replace H:=Option.bind_eq_some_iff.mp H
    obtain⟨⟨t346,t349⟩,A170,H⟩:=H
    have A17:=Aside0.mk A170
    clear A170
    replace H:=Option.bind_eq_some_iff.mp H
    obtain⟨t350,A180,H⟩:=H
    have A18:=Aside0.mk A180
    clear A180
    replace H:=Option.bind_eq_some_iff.mp H
    obtain⟨t353,A190,H⟩:=H
    have A19:=Aside0.mk A190
    clear A190
    replace H:=Option.bind_eq_some_iff.mp H
    obtain⟨⟨t356,t357,t358,t359,t360,t361,t362,t363,t364,t365⟩,A200,H⟩:=H
    have A20:=Aside0.mk A200
    clear A200
    replace H:=Option.bind_eq_some_iff.mp H
    obtain⟨⟨t366,t369⟩,A210,H⟩:=H
    have A21:=Aside0.mk A210
    clear A210
    have HC22:=Aside0.mk H
    clear H
    go_enter Try.func13,Try.ntmps13
    try go_wp2_with (first|((with_reducible refine gate_dst (N:=4) rfl ?_);refine box_event ?hg (N:=4) ?hd (cs:=#[.int .i64 a1_0,.int .i64 a1_1,.bool a1_2,.int .i64 a1_3,.int .i64 a1_4,.int .i64 a1_5,.int .i64 a1_6,.int .i64 a1_7,.int .i64 a1_8,.string a1_9]) (t:=82) ?hr ?_;(case hd=>rfl);(case hg=>rfl);(case hr=>first|(go_simp;done)|(go_simp;rfl));intro gb327 hg w23 hbox hb;have n0_:=Aside0.mk (below_step (bB) hb);have n1_:=Aside0.mk (hbox);have n2_:=Aside0.mk ((bG:w.heap.size≤gb327));have n3_:=Aside0.mk ((bG:w.heap.size≤gb327));clear HB;have HB:=n0_;have BK327:=n1_;have GW327:=n2_;have GE327:=n3_;clear n0_ n1_ n2_ n3_;clear hb hbox hg)|((with_reducible refine gate_callee (f:=22) rfl ?_);refine goesA (some 24) rfl rfl Try.func22 #[.slice A0 l0.length c0,.int .i64 1048576] rfl ?_;(with_reducible refine(laws_szContactS.calls _ _ l0 1048576 t328 _ ?side1 ?side2 A6.out).mono ?_);(case side1=>exact bC HR0.out);(case side2=>exact HC0.out);rintro e w' ⟨rfl,⟨nd,rfl⟩⟩;refine⟨_,rfl,?_⟩;obtain⟨hcz24_0,hcz24_1,hcz24_2,hcz24_3,hcz24_4,hcz24_5,hcz24_6,hcz24_7,hcz24_8,hcz24_9⟩:=cC10 BK327.out;obtain⟨hfz24_0,hfz24_1,hfz24_2,hfz24_3,hfz24_4,hfz24_5,hfz24_6,hfz24_7,hfz24_8,hfz24_9⟩:=cF10 BK327.out)|((with_reducible refine gate_callee (f:=51) rfl ?_);refine goesA (some 29) rfl rfl Try.func51 #[.agg #[.int .i64 a1_0,.int .i64 a1_1,.bool a1_2,.int .i64 a1_3,.int .i64 a1_4,.int .i64 a1_5,.int .i64 a1_6,.int .i64 a1_7,.int .i64 a1_8,.string a1_9],.int .i64 t328] rfl ?_;(with_reducible refine(laws_szBundle.calls a1_0 a1_1 a1_2 a1_3 a1_4 a1_5 a1_6 a1_7 a1_8 a1_9 t328 t329 _ A9.out).mono ?_);rintro e w25 ⟨rfl,hb⟩;refine⟨_,rfl,?_⟩;have n0_:=Aside0.mk (bM BK327.out hb);have n1_:=Aside0.mk (below_step (bS GE327.out) hb);clear BK327 HB;have BK327:=n0_;have HB:=n1_;clear n0_ n1_;(try clear hb);(try clear hb2);(try clear hk);(try clear hi)))
    (try (rw[drewN_self w25];generalize hq_:World.drewN w25 _=w25;have n0_:=Aside0.mk (blk_at hq_ BK327.out);have n1_:=Aside0.mk (below_at hq_ HB.out);clear hq_ BK327 HB;have BK327:=n0_;have HB:=n1_;clear n0_ n1_))
    have n0_:=Aside0.mk (blk_drew BK327.out)
    have n1_:=Aside0.mk (below_drew1 HB.out)
    clear BK327 HB
    have BK327:=n0_
    have HB:=n1_
    clear n0_ n1_
    refine start_ (n:=12) (S:=fun w'=>w'.cell? ⟨gb327,0,none⟩=some (.int .i64 a1_0)∧w'.cell? ⟨gb327,1,none⟩=some (.int .i64 a1_1)∧w'.cell? ⟨gb327,2,none⟩=some (.bool a1_2)∧w'.cell? ⟨gb327,3,none⟩=some (.int .i64 a1_3)∧w'.cell? ⟨gb327,4,none⟩=some (.int .i64 a1_4)∧w'.cell? ⟨gb327,5,none⟩=some (.int .i64 a1_5)∧w'.cell? ⟨gb327,6,none⟩=some (.int .i64 a1_6)∧w'.cell? ⟨gb327,7,none⟩=some (.int .i64 a1_7)∧w'.cell? ⟨gb327,8,none⟩=some (.int .i64 a1_8)∧w'.cell? ⟨gb327,9,none⟩=some (.string a1_9)) (ds:=[]) #[false,false,false,false,false,false,false,false,false,false,false,false] (by kernel_rfl) rfl rfl (cC10 BK327.out) (fun hHeld => ?_);refine with_tabW laws_FnExactReachAll.tab10 laws_FnExactReachAll.bits10 (fun HT_ HW_ => ?_)
    generalize w25.drew=w26 at BK327 HB hHeld ⊢
    refine pure_ (i:=0) (N:=some 33) (v:=?_) (a':=?_) #[true,false,false,false,false,false,false,false,false,false,false,false] rfl rfl (any_of HT_.out (by kernel_rfl)) (fun _ _ _ h=>h) (Or.inl ⟨by rfl,?_⟩) ?_ ?_
    rotate_left
    ·intro w'
     go_simp
     with_reducible rfl
    rotate_left
    ·simp only[Act.put,List.setIfInBounds_toArray,List.set_cons_zero,List.set_cons_succ,i64_w,i32_w]
     rfl
    refine pure_ (i:=4) (N:=some 37) (v:=?_) (a':=?_) #[true,false,false,false,true,false,false,false,false,false,false,false] rfl rfl (any_of HT_.out (by kernel_rfl)) (fun _ _ _ h=>h) (Or.inl ⟨by rfl,?_⟩) ?_ ?_
    rotate_left
    ·intro w'
     go_simp
     with_reducible rfl
    rotate_left
    ·simp only[Act.put,List.setIfInBounds_toArray,List.set_cons_zero,List.set_cons_succ,i64_w,i32_w]
     rfl
    refine take_ (i:=2) (N:=some 35) (v:=?_) (a':=?_) #[true,false,true,false,true,false,false,false,false,false,false,false] rfl rfl (take_ofW HT_.out HW_.out (by kernel_rfl)) (fun _ _ _ h=>h) (Or.inl ⟨by rfl,?_⟩) hHeld ?_ ?_
    rotate_left
    ·rintro w' ⟨s0,s1,s2,s3,s4,s5,s6,s7,s8,s9⟩
     go_simp
     with_reducible rfl
    rotate_left
    ·simp only[Act.put,List.setIfInBounds_toArray,List.set_cons_zero,List.set_cons_succ,i64_w,i32_w]
     rfl
    refine one_ (i:=1) (N:=some 34) #[true,true,true,false,true,false,false,false,false,false,false,false] rfl rfl (one_of HT_.out (by kernel_rfl)) (by decide) (fun K hK => ?_)
    refine goes_ Try.func24 (by kernel_rfl) rfl #[.slice A0 l0.length c0] (by rfl) rfl rfl (by(try simp only[List.map_toArray,List.map_cons,List.map_nil]);first|done|rfl|(simp only[List.length_drop,List.length_take];rfl)) ?_
    with_reducible refine(laws_toContactS.calls k _ _ l0 t330 _ ?side1 ?side2 A14.out).mono ?_
    (case side1=>exact bC HR0.out)
    (case side2=>exact HC0.out)
    rintro e w27 ⟨v331,rfl,ho0,hb⟩
    refine⟨_,rfl,?_⟩
    have n0_:=Aside0.mk (Kd.R_lower ho0 (below_size (bS GE327.out)))
    have n1_:=Aside0.mk (bM BK327.out hb)
    have n2_:=Aside0.mk (below_step (bS GE327.out) hb)
    clear BK327 HB
    have HO332:=n0_
    have BK327:=n1_
    have HB:=n2_
    clear n0_ n1_ n2_
    (try clear hb)
    (try clear hb2)
    (try clear hk)
    (try clear hi)
    (try clear ho0)
    refine hK.out _ _ (cC10 BK327.out) (fun hHeld => ?_)
    clear hK K
    refine norm_ (a':=?_) ?_ ?_
    rotate_left
    ·show Act.put _ (some 34) _=_
     simp only[Act.put,List.setIfInBounds_toArray,List.set_cons_zero,List.set_cons_succ,i64_w,i32_w]
     rfl
    refine one_ (i:=3) (N:=some 36) #[true,true,true,true,true,false,false,false,false,false,false,false] rfl rfl (one_of HT_.out (by kernel_rfl)) (by decide) (fun K hK => ?_)
    refine goes_ Try.func53 (by kernel_rfl) rfl #[.agg #[.int .i64 a1_0,.int .i64 a1_1,.bool a1_2,.int .i64 a1_3,.int .i64 a1_4,.int .i64 a1_5,.int .i64 a1_6,.int .i64 a1_7,.int .i64 a1_8,.string a1_9]] (by rfl) rfl rfl (by(try simp only[List.map_toArray,List.map_cons,List.map_nil]);first|done|rfl|(simp only[List.length_drop,List.length_take];rfl)) ?_
    with_reducible refine(laws_toBundle.calls a1_0 a1_1 a1_2 a1_3 a1_4 a1_5 a1_6 a1_7 a1_8 a1_9 t333 t334 t335 t336 t337 t338 t339 t340 t341 t342 _ A15.out).mono ?_
    rintro e w28 ⟨rfl,hb⟩
    refine⟨_,rfl,?_⟩
    have n0_:=Aside0.mk (Kd.R_below (bK HO332.out) hb)
    have n1_:=Aside0.mk (bM BK327.out hb)
    have n2_:=Aside0.mk (below_step (bS GE327.out) hb)
    clear HO332 BK327 HB
    have HO332:=n0_
    have BK327:=n1_
    have HB:=n2_
    clear n0_ n1_ n2_
    (try clear hb)
    (try clear hb2)
    (try clear hk)
    (try clear hi)
    refine hK.out _ _ (cC10 BK327.out) (fun hHeld => ?_)
    clear hK K
    refine norm_ (a':=?_) ?_ ?_
    rotate_left
    ·show Act.put _ (some 36) _=_
     simp only[Act.put,List.setIfInBounds_toArray,List.set_cons_zero,List.set_cons_succ,i64_w,i32_w]
     rfl
    refine one_ (i:=5) (N:=some 38) #[true,true,true,true,true,true,false,false,false,false,false,false] rfl rfl (one_of HT_.out (by kernel_rfl)) (by decide) (fun K hK => ?_)
    refine goes_ Try.func32 (by kernel_rfl) rfl #[.slice A2 l2.length c2] (by rfl) rfl rfl (by(try simp only[List.map_toArray,List.map_cons,List.map_nil]);first|done|rfl|(simp only[List.length_drop,List.length_take];rfl)) ?_
    with_reducible refine(laws_toIntS.calls k _ _ l2 t343 _ ?side1 ?side2 A16.out).mono ?_
    (case side1=>exact bC HR2.out)
    (case side2=>exact HC2.out)
    rintro e w29 ⟨v344,rfl,ho0,hb⟩
    refine⟨_,rfl,?_⟩
    have n0_:=Aside0.mk (Kd.R_below (bK HO332.out) hb)
    have n1_:=Aside0.mk (Kd.R_lower ho0 (below_size (bS GE327.out)))
    have n2_:=Aside0.mk (bM BK327.out hb)
    have n3_:=Aside0.mk (below_step (bS GE327.out) hb)
    clear HO332 BK327 HB
    have HO332:=n0_
    have HO345:=n1_
    have BK327:=n2_
    have HB:=n3_
    clear n0_ n1_ n2_ n3_
    (try clear hb)
    (try clear hb2)
    (try clear hk)
    (try clear hi)
    (try clear ho0)
    obtain⟨Ao30,co30,eo30⟩:=Kd.R_slice HO332.out
    (first|subst eo30|(injection eo30 with f1_ f2_ f3_;have f4_:=f1_.symm;have f5_:=f3_.symm;clear f1_ f2_ f3_;subst f4_;subst f5_))
    obtain⟨Ao31,co31,eo31⟩:=Kd.R_slice HO345.out
    (first|subst eo31|(injection eo31 with f1_ f2_ f3_;have f4_:=f1_.symm;have f5_:=f3_.symm;clear f1_ f2_ f3_;subst f4_;subst f5_))
    refine hK.out _ _ (cC10 BK327.out) (fun hHeld => ?_)
    clear hK K
    refine norm_ (a':=?_) ?_ ?_
    rotate_left
    ·show Act.put _ (some 38) _=_
     simp only[Act.put,List.setIfInBounds_toArray,List.set_cons_zero,List.set_cons_succ,i64_w,i32_w]
     rfl
    refine one_ (i:=6) (N:=some 39) #[true,true,true,true,true,true,true,false,false,false,false,false] rfl rfl (one_of HT_.out (by kernel_rfl)) (by decide) (fun K hK => ?_)
    refine goes_ Try.func66 (by kernel_rfl) rfl #[.slice Ao30 t330.length co30,.agg #[.int .i64 t333,.int .i64 t334,.bool t335,.int .i64 t336,.int .i64 t337,.int .i64 t338,.int .i64 t339,.int .i64 t340,.int .i64 t341,.string t342],.slice Ao31 t343.length co31] (by rfl) rfl rfl (by(try simp only[List.map_toArray,List.map_cons,List.map_nil]);first|done|rfl|(simp only[List.length_drop,List.length_take];rfl)) ?_
    with_reducible refine(spec_ReachAll.calls k _ _ t330 t333 t334 t335 t336 t337 t338 t339 t340 t341 t342 _ _ t343 t346 t349 _ ?side1 ?side2 ?side3 ?side4 A17.out).mono ?_
    (case side1=>exact bT HO332.out)
    (case side2=>exact(Kd.R_reads' HO332.out).2.1)
    (case side3=>exact bT HO345.out)
    (case side4=>exact(Kd.R_reads' HO345.out).2.1)
    rintro e w32 ⟨v347,rfl,ho0,hb⟩
    refine⟨_,rfl,?_⟩
    have n0_:=Aside0.mk (Kd.R_below (bK HO332.out) hb)
    have n1_:=Aside0.mk (Kd.R_below (bK HO345.out) hb)
    have n2_:=Aside0.mk (Kd.S_lower (Kd.S_new' ho0 (Kd.R_lt (bK HO345.out))) (below_size (bS GE327.out)))
    have n3_:=Aside0.mk (bM BK327.out hb)
    have n4_:=Aside0.mk (below_step (bS GE327.out) hb)
    clear HO332 HO345 BK327 HB
    have HO332:=n0_
    have HO345:=n1_
    have HO348:=n2_
    have BK327:=n3_
    have HB:=n4_
    clear n0_ n1_ n2_ n3_ n4_
    (try clear hb)
    (try clear hb2)
    (try clear hk)
    (try clear hi)
    (try clear ho0)
    refine hK.out _ _ (cC10 BK327.out) (fun hHeld => ?_)
    clear hK K
    refine norm_ (a':=?_) ?_ ?_
    rotate_left
    ·show Act.put _ (some 39) _=_
     simp only[Act.put,List.setIfInBounds_toArray,List.set_cons_zero,List.set_cons_succ,i64_w,i32_w]
     rfl
    refine pure_ (i:=7) (N:=some 32) (v:=?_) (a':=?_) #[true,true,true,true,true,true,true,true,false,false,false,false] rfl rfl (any_of HT_.out (by kernel_rfl)) (fun _ _ _ h=>h) (Or.inl ⟨by rfl,?_⟩) ?_ ?_
    rotate_left
    ·intro w'
     go_simp
     with_reducible rfl
    rotate_left
    ·simp only[Act.put,List.setIfInBounds_toArray,List.set_cons_zero,List.set_cons_succ,i64_w,i32_w]
     rfl
    refine pure_ (i:=8) (N:=some 40) (v:=?_) (a':=?_) #[true,true,true,true,true,true,true,true,true,false,false,false] rfl rfl (any_of HT_.out (by kernel_rfl)) (fun _ _ _ h=>h) (Or.inl ⟨by rfl,?_⟩) ?_ ?_
    rotate_left
    ·intro w'
     go_simp
     with_reducible rfl
    rotate_left
    ·simp only[Act.put,List.setIfInBounds_toArray,List.set_cons_zero,List.set_cons_succ,i64_w,i32_w]
     rfl
    refine pure_ (i:=9) (N:=some 41) (v:=?_) (a':=?_) #[true,true,true,true,true,true,true,true,true,true,false,false] rfl rfl (any_of HT_.out (by kernel_rfl)) (fun _ _ _ h=>h) (Or.inl ⟨by rfl,?_⟩) ?_ ?_
    rotate_left
    ·intro w'
     go_simp
     with_reducible rfl
    rotate_left
    ·simp only[Act.put,List.setIfInBounds_toArray,List.set_cons_zero,List.set_cons_succ,i64_w,i32_w]
     rfl
    refine pure_ (i:=10) (N:=some 8) (v:=?_) (a':=?_) #[true,true,true,true,true,true,true,true,true,true,true,false] rfl rfl (any_of HT_.out (by kernel_rfl)) (fun _ _ _ h=>h) (Or.inl ⟨by rfl,?_⟩) ?_ ?_
    rotate_left
    ·intro w'
     go_simp
     with_reducible rfl
    rotate_left
    ·simp only[Act.put,List.setIfInBounds_toArray,List.set_cons_zero,List.set_cons_succ,i64_w,i32_w]
     rfl
    refine pure_ (i:=11) (N:=some 9) (v:=?_) (a':=?_) #[true,true,true,true,true,true,true,true,true,true,true,true] rfl rfl (any_of HT_.out (by kernel_rfl)) (fun _ _ _ h=>h) (Or.inl ⟨by rfl,?_⟩) ?_ ?_
    rotate_left
    ·intro w'
     go_simp
     with_reducible rfl
    rotate_left
    ·simp only[Act.put,List.setIfInBounds_toArray,List.set_cons_zero,List.set_cons_succ,i64_w,i32_w]
     rfl
    refine done_ (done_of HT_.out (by kernel_rfl)) ?_
    go_upto_region 14 with (first|((with_reducible refine gate_callee (f:=24) rfl ?_);refine goesA (some 43) rfl rfl Try.func24 #[.slice A0 l0.length c0] rfl ?_;(with_reducible refine(laws_toContactS.calls k _ _ l0 t350 _ ?side1 ?side2 A18.out).mono ?_);(case side1=>exact bC HR0.out);(case side2=>exact HC0.out);rintro e w33 ⟨v351,rfl,ho0,hb⟩;refine⟨_,rfl,?_⟩;have n0_:=Aside0.mk (Kd.R_elder' (bK HO332.out) (Kd.R_base ho0) hb);have n1_:=Aside0.mk (Kd.R_below (bK HO345.out) hb);have n2_:=Aside0.mk (Kd.S_below (by(with_reducible repeat (first|apply Kd.S_alloc|apply Kd.S_drewN|apply Kd.S_drew));exact HO348.out) hb);have n3_:=Aside0.mk (Kd.R_lower (Kd.R_new' ho0 (Kd.R_lt (bK HO332.out))) (below_size (bS GE327.out)));have n4_:=Aside0.mk (bM BK327.out hb);have n5_:=Aside0.mk (below_step (bS GE327.out) hb);clear HO332 HO345 HO348 BK327 HB;have HO332:=n0_;have HO345:=n1_;have HO348:=n2_;have HO352:=n3_;have BK327:=n4_;have HB:=n5_;clear n0_ n1_ n2_ n3_ n4_ n5_;(try clear hb);(try clear hb2);(try clear hk);(try clear hi);(try clear ho0))|((with_reducible refine gate_callee (f:=32) rfl ?_);refine goesA (some 45) rfl rfl Try.func32 #[.slice A2 l2.length c2] rfl ?_;(with_reducible refine(laws_toIntS.calls k _ _ l2 t353 _ ?side1 ?side2 A19.out).mono ?_);(case side1=>exact bC HR2.out);(case side2=>exact HC2.out);rintro e w34 ⟨v354,rfl,ho0,hb⟩;refine⟨_,rfl,?_⟩;have n0_:=Aside0.mk (Kd.R_below (bK HO332.out) hb);have n1_:=Aside0.mk (Kd.R_elder' (bK HO345.out) (Kd.R_base ho0) hb);have n2_:=Aside0.mk (Kd.S_elder' (by(with_reducible repeat (first|apply Kd.S_alloc|apply Kd.S_drewN|apply Kd.S_drew));exact HO348.out) (Kd.R_base ho0) hb);have n3_:=Aside0.mk (Kd.R_below (bK HO352.out) hb);have n4_:=Aside0.mk (Kd.R_lower (Kd.R_new' ho0 (Kd.R_lt (bK HO345.out))) (below_size (bS GE327.out)));have n5_:=Aside0.mk (bM BK327.out hb);have n6_:=Aside0.mk (below_step (bS GE327.out) hb);clear HO332 HO345 HO348 HO352 BK327 HB;have HO332:=n0_;have HO345:=n1_;have HO348:=n2_;have HO352:=n3_;have HO355:=n4_;have BK327:=n5_;have HB:=n6_;clear n0_ n1_ n2_ n3_ n4_ n5_ n6_;(try clear hb);(try clear hb2);(try clear hk);(try clear hi);(try clear ho0);obtain⟨hcz35_0,hcz35_1,hcz35_2,hcz35_3,hcz35_4,hcz35_5,hcz35_6,hcz35_7,hcz35_8,hcz35_9⟩:=cC10 BK327.out;obtain⟨hfz35_0,hfz35_1,hfz35_2,hfz35_3,hfz35_4,hfz35_5,hfz35_6,hfz35_7,hfz35_8,hfz35_9⟩:=cF10 BK327.out)|((with_reducible refine gate_callee (f:=53) rfl ?_);refine goesA (some 49) rfl rfl Try.func53 #[.agg #[.int .i64 a1_0,.int .i64 a1_1,.bool a1_2,.int .i64 a1_3,.int .i64 a1_4,.int .i64 a1_5,.int .i64 a1_6,.int .i64 a1_7,.int .i64 a1_8,.string a1_9]] rfl ?_;(with_reducible refine(laws_toBundle.calls a1_0 a1_1 a1_2 a1_3 a1_4 a1_5 a1_6 a1_7 a1_8 a1_9 t356 t357 t358 t359 t360 t361 t362 t363 t364 t365 _ A20.out).mono ?_);rintro e w36 ⟨rfl,hb⟩;refine⟨_,rfl,?_⟩;have n0_:=Aside0.mk (Kd.R_below (bK HO332.out) hb);have n1_:=Aside0.mk (Kd.R_below (bK HO345.out) hb);have n2_:=Aside0.mk (Kd.S_below (by(with_reducible repeat (first|apply Kd.S_alloc|apply Kd.S_drewN|apply Kd.S_drew));exact HO348.out) hb);have n3_:=Aside0.mk (Kd.R_below (bK HO352.out) hb);have n4_:=Aside0.mk (Kd.R_below (bK HO355.out) hb);have n5_:=Aside0.mk (bM BK327.out hb);have n6_:=Aside0.mk (below_step (bS GE327.out) hb);clear HO332 HO345 HO348 HO352 HO355 BK327 HB;have HO332:=n0_;have HO345:=n1_;have HO348:=n2_;have HO352:=n3_;have HO355:=n4_;have BK327:=n5_;have HB:=n6_;clear n0_ n1_ n2_ n3_ n4_ n5_ n6_;(try clear hb);(try clear hb2);(try clear hk);(try clear hi);obtain⟨Ao37,co37,eo37⟩:=Kd.R_slice HO352.out;subst eo37;obtain⟨Ao38,co38,eo38⟩:=Kd.R_slice HO355.out;subst eo38)|((with_reducible refine gate_callee (f:=67) rfl ?_);refine goesA (some 51) rfl rfl Try.func67 #[.slice Ao37 t350.length co37,.agg #[.int .i64 t356,.int .i64 t357,.bool t358,.int .i64 t359,.int .i64 t360,.int .i64 t361,.int .i64 t362,.int .i64 t363,.int .i64 t364,.string t365],.slice Ao38 t353.length co38] rfl ?_;(with_reducible refine(impl_ReachAll.calls k _ _ t350 t356 t357 t358 t359 t360 t361 t362 t363 t364 t365 _ _ t353 t366 t369 _ ?side1 ?side2 ?side3 ?side4 A21.out).mono ?_);(case side1=>exact bT HO352.out);(case side2=>exact(Kd.R_reads' HO352.out).2.1);(case side3=>exact bT HO355.out);(case side4=>exact(Kd.R_reads' HO355.out).2.1);rintro e w39 ⟨v367,rfl,ho0,hb⟩;refine⟨_,rfl,?_⟩;obtain⟨AP1_,AP2_,hAP_,hNB_,hS1_,hS2_⟩:=apart_made hb (by(with_reducible repeat (first|apply Kd.S_alloc|apply Kd.S_drewN|apply Kd.S_drew));exact HO348.out) ho0 (bL BK327.out);have HAP_:=Aside0.mk hAP_;have HNB_:=Aside0.mk hNB_;clear hAP_ hNB_;have n0_:=Aside0.mk (Kd.R_below (bK HO332.out) hb);have n1_:=Aside0.mk (Kd.R_below (bK HO345.out) hb);have n2_:=Aside0.mk hS1_;have n3_:=Aside0.mk (Kd.R_below (bK HO352.out) hb);have n4_:=Aside0.mk (Kd.R_below (bK HO355.out) hb);have n5_:=Aside0.mk (Kd.S_lower (Kd.S_new' (Kd.S_mono (Kd.S_new' hS2_ (Kd.R_lt (bK HO345.out))) (fun k_ hk=>(⟨⟨hk.1.1,hk.2⟩,hk.1.2⟩:(_∧_)∧AP2_ k_))) (Kd.R_lt (bK HO355.out))) (below_size (bS GE327.out)));have n6_:=Aside0.mk (bM BK327.out hb);have n7_:=Aside0.mk (below_step (bS GE327.out) hb);clear HO332 HO345 HO348 HO352 HO355 BK327 HB;have HO332:=n0_;have HO345:=n1_;have HO348:=n2_;have HO352:=n3_;have HO355:=n4_;have HO368:=n5_;have BK327:=n6_;have HB:=n7_;clear n0_ n1_ n2_ n3_ n4_ n5_ n6_ n7_;(try clear hb);(try clear hb2);(try clear hk);(try clear hi);(try clear ho0);(try clear hS1_ hS2_)))
    (try simp only[Act.put,List.setIfInBounds_toArray,List.set_cons_zero,List.set_cons_succ])
    go_cut [62] (fun v62 wc => ∃ (kq:Nat) (x62_21:Bool),v62=.bool x62_21∧Aside0 (laws_FnExactReachAll.j0 kq l0 l2 t346 t349 t350 t353 t366 t369 x62_21 a1_0 a1_1 a1_2 a1_3 a1_4 a1_5 a1_6 a1_7 a1_8 a1_9=some r)∧Aside0 (kq≤k)∧Aside0 (Kd.S k157 157 wc w.heap.size (fun k_=>some k_≠((.slice Ao38 t353.length co38):Value).ownBlock∧AP1_ k_) v347 t346)∧Aside0 (Kd.R k104 104 wc w.heap.size (fun _=>True) (.slice Ao37 t350.length co37) t350)∧Aside0 (Kd.R (Kd.int .i64) 3 wc w.heap.size (fun _=>True) (.slice Ao38 t353.length co38) t353)∧Aside0 (Kd.S k157 157 wc w.heap.size (fun k_=>AP2_ k_∧some k_≠((.slice Ao38 t353.length co38):Value).ownBlock) v367 t366)∧Aside0 (wc.heap[gb327]?=some (.cells #[.int .i64 a1_0,.int .i64 a1_1,.bool a1_2,.int .i64 a1_3,.int .i64 a1_4,.int .i64 a1_5,.int .i64 a1_6,.int .i64 a1_7,.int .i64 a1_8,.string a1_9] 82 (0,0)))∧Aside0 (Below w.heap.size w wc))
    case first =>
     have H:=HC22.out
     clear HC22
     replace H:=Option.bind_eq_some_iff.mp H
     obtain⟨t370,A400,H⟩:=H
     have A40:=Aside0.mk A400
     clear A400
     by_cases c41:t370=true
     ·subst c41
      have H1:(laws_FnExactReachAll.j0 k l0 l2 t346 t349 t350 t353 t366 t369 (t369 != t349) a1_0 a1_1 a1_2 a1_3 a1_4 a1_5 a1_6 a1_7 a1_8 a1_9)=some r:=by rw[if_pos rfl] at H;exact H
      clear H
      have H:=H1
      clear H1
      have H':=Aside0.mk H
      clear H
      obtain⟨Ao42,co42,eo42⟩:=Kd.S_slice HO368.out
      subst eo42
      obtain⟨Ao43,co43,eo43⟩:=Kd.S_slice HO348.out
      subst eo43
      go_wp2_with (first|((with_reducible refine gate_callee (f:=68) rfl ?_);refine goesA (some 56) rfl rfl Try.func68 #[.slice Ao42 t366.length co42,.slice Ao43 t346.length co43] rfl ?_;(with_reducible refine(laws_eqReachS.calls k _ _ t366 _ _ t346 true _ ?side1 ?side2 ?side3 ?side4 A40.out).mono ?_);(case side1=>repeat (first|exact(Kd.S_reads' HO368.out).2.2|(with_reducible refine Kd.C_alloc ?_ _)|(with_reducible refine Kd.C_drewN ?_ _)|(with_reducible refine Kd.C_drew ?_)));(case side2=>exact(Kd.S_reads' HO368.out).2.1);(case side3=>repeat (first|exact(Kd.S_reads' HO348.out).2.2|(with_reducible refine Kd.C_alloc ?_ _)|(with_reducible refine Kd.C_drewN ?_ _)|(with_reducible refine Kd.C_drew ?_)));(case side4=>exact(Kd.S_reads' HO348.out).2.1);rintro e w44 ⟨rfl,hb⟩;refine⟨_,rfl,?_⟩;have n0_:=Aside0.mk (Kd.R_below (bK HO332.out) hb);have n1_:=Aside0.mk (Kd.R_below (bK HO345.out) hb);have n2_:=Aside0.mk (Kd.S_below (by(with_reducible repeat (first|apply Kd.S_alloc|apply Kd.S_drewN|apply Kd.S_drew));exact HO348.out) hb);have n3_:=Aside0.mk (Kd.R_below (bK HO352.out) hb);have n4_:=Aside0.mk (Kd.R_below (bK HO355.out) hb);have n5_:=Aside0.mk (Kd.S_below (by(with_reducible repeat (first|apply Kd.S_alloc|apply Kd.S_drewN|apply Kd.S_drew));exact HO368.out) hb);have n6_:=Aside0.mk (bM BK327.out hb);have n7_:=Aside0.mk (below_step (bS GE327.out) hb);clear HO332 HO345 HO348 HO352 HO355 HO368 BK327 HB;have HO332:=n0_;have HO345:=n1_;have HO348:=n2_;have HO352:=n3_;have HO355:=n4_;have HO368:=n5_;have BK327:=n6_;have HB:=n7_;clear n0_ n1_ n2_ n3_ n4_ n5_ n6_ n7_;(try clear hb);(try clear hb2);(try clear hk);(try clear hi)))
      go_meet
      case rel=>exact⟨_,((t369 != t349)),(bR),H',⟨by first|omega|exact Nat.le_refl _⟩,⟨by(with_reducible repeat (first|apply Kd.S_alloc|apply Kd.S_drewN|apply Kd.S_drew));exact Kd.S_mono HO348.out (fun _ hk=>⟨hk.1.2,hk.2⟩)⟩,⟨by(with_reducible repeat (first|apply Kd.R_alloc|apply Kd.R_drewN|apply Kd.R_drew));exact Kd.R_mono HO352.out (fun _ hk=>trivial)⟩,⟨by(with_reducible repeat (first|apply Kd.R_alloc|apply Kd.R_drewN|apply Kd.R_drew));exact Kd.R_mono HO355.out (fun _ hk=>trivial)⟩,⟨by(with_reducible repeat (first|apply Kd.S_alloc|apply Kd.S_drewN|apply Kd.S_drew));exact Kd.S_mono HO368.out (fun _ hk=>⟨hk.1.2,hk.2⟩)⟩,⟨by(with_reducible repeat (first|refine blk_drewN ?_ _|refine blk_drew ?_|refine blk_alloc ?_ _));exact BK327.out⟩,⟨bS GE327.out⟩⟩
     ·replace c41:=Bool.eq_false_iff.mpr c41
      subst c41
      have H1:(laws_FnExactReachAll.j0 k l0 l2 t346 t349 t350 t353 t366 t369 true a1_0 a1_1 a1_2 a1_3 a1_4 a1_5 a1_6 a1_7 a1_8 a1_9)=some r:=by rw[if_neg (show ¬ (false=true) by decide)] at H;exact H
      clear H
      have H:=H1
      clear H1
      have H':=Aside0.mk H
      clear H
      obtain⟨Ao45,co45,eo45⟩:=Kd.S_slice HO368.out
      subst eo45
      obtain⟨Ao46,co46,eo46⟩:=Kd.S_slice HO348.out
      subst eo46
      go_wp2_with (first|((with_reducible refine gate_callee (f:=68) rfl ?_);refine goesA (some 56) rfl rfl Try.func68 #[.slice Ao45 t366.length co45,.slice Ao46 t346.length co46] rfl ?_;(with_reducible refine(laws_eqReachS.calls k _ _ t366 _ _ t346 false _ ?side1 ?side2 ?side3 ?side4 A40.out).mono ?_);(case side1=>repeat (first|exact(Kd.S_reads' HO368.out).2.2|(with_reducible refine Kd.C_alloc ?_ _)|(with_reducible refine Kd.C_drewN ?_ _)|(with_reducible refine Kd.C_drew ?_)));(case side2=>exact(Kd.S_reads' HO368.out).2.1);(case side3=>repeat (first|exact(Kd.S_reads' HO348.out).2.2|(with_reducible refine Kd.C_alloc ?_ _)|(with_reducible refine Kd.C_drewN ?_ _)|(with_reducible refine Kd.C_drew ?_)));(case side4=>exact(Kd.S_reads' HO348.out).2.1);rintro e w47 ⟨rfl,hb⟩;refine⟨_,rfl,?_⟩;have n0_:=Aside0.mk (Kd.R_below (bK HO332.out) hb);have n1_:=Aside0.mk (Kd.R_below (bK HO345.out) hb);have n2_:=Aside0.mk (Kd.S_below (by(with_reducible repeat (first|apply Kd.S_alloc|apply Kd.S_drewN|apply Kd.S_drew));exact HO348.out) hb);have n3_:=Aside0.mk (Kd.R_below (bK HO352.out) hb);have n4_:=Aside0.mk (Kd.R_below (bK HO355.out) hb);have n5_:=Aside0.mk (Kd.S_below (by(with_reducible repeat (first|apply Kd.S_alloc|apply Kd.S_drewN|apply Kd.S_drew));exact HO368.out) hb);have n6_:=Aside0.mk (bM BK327.out hb);have n7_:=Aside0.mk (below_step (bS GE327.out) hb);clear HO332 HO345 HO348 HO352 HO355 HO368 BK327 HB;have HO332:=n0_;have HO345:=n1_;have HO348:=n2_;have HO352:=n3_;have HO355:=n4_;have HO368:=n5_;have BK327:=n6_;have HB:=n7_;clear n0_ n1_ n2_ n3_ n4_ n5_ n6_ n7_;(try clear hb);(try clear hb2);(try clear hk);(try clear hi)))
      go_meet
      case rel=>exact⟨_,(true),(bR),H',⟨by first|omega|exact Nat.le_refl _⟩,⟨by(with_reducible repeat (first|apply Kd.S_alloc|apply Kd.S_drewN|apply Kd.S_drew));exact Kd.S_mono HO348.out (fun _ hk=>⟨hk.1.2,hk.2⟩)⟩,⟨by(with_reducible repeat (first|apply Kd.R_alloc|apply Kd.R_drewN|apply Kd.R_drew));exact Kd.R_mono HO352.out (fun _ hk=>trivial)⟩,⟨by(with_reducible repeat (first|apply Kd.R_alloc|apply Kd.R_drewN|apply Kd.R_drew));exact Kd.R_mono HO355.out (fun _ hk=>trivial)⟩,⟨by(with_reducible repeat (first|apply Kd.S_alloc|apply Kd.S_drewN|apply Kd.S_drew));exact Kd.S_mono HO368.out (fun _ hk=>⟨hk.1.2,hk.2⟩)⟩,⟨by(with_reducible repeat (first|refine blk_drewN ?_ _|refine blk_drew ?_|refine blk_alloc ?_ _));exact BK327.out⟩,⟨bS GE327.out⟩⟩
    case rest =>
     clear HC22
     try clear c1
     try clear c2
     try clear p2
     try clear c3
     try clear c4
     try clear c4b0
     try clear c4b1
     try clear c5
     try clear c6
     try clear c7
     try clear c7b0
     try clear c10
     try clear c10b0
     try clear c13
     try clear c22
     try clear c24
     try clear c32
     try clear c41
     try clear hcz12_0 hcz12_1 hcz12_2 hcz12_3 hcz12_4 hcz12_5 hcz12_6 hcz12_7 hcz12_8 hcz12_9
     try clear hcz24_0 hcz24_1 hcz24_2 hcz24_3 hcz24_4 hcz24_5 hcz24_6 hcz24_7 hcz24_8 hcz24_9
     try clear hcz35_0 hcz35_1 hcz35_2 hcz35_3 hcz35_4 hcz35_5 hcz35_6 hcz35_7 hcz35_8 hcz35_9
     try clear hfz12_0 hfz12_1 hfz12_2 hfz12_3 hfz12_4 hfz12_5 hfz12_6 hfz12_7 hfz12_8 hfz12_9
     try clear hfz24_0 hfz24_1 hfz24_2 hfz24_3 hfz24_4 hfz24_5 hfz24_6 hfz24_7 hfz24_8 hfz24_9
     try clear hfz35_0 hfz35_1 hfz35_2 hfz35_3 hfz35_4 hfz35_5 hfz35_6 hfz35_7 hfz35_8 hfz35_9
     obtain⟨kq,x62_21,rfl,HA,HJ21,HO_8,HO_10,HO_11,HO_12,BK327,HB⟩:=hcut
     cases kq with
     | zero=>exact absurd HA.out (by simp[laws_FnExactReachAll.j0])
     | succ kj21 =>
      have H:=HA.out
      clear HA
      simp only[laws_FnExactReachAll.j0] at H
      by_cases c48:x62_21=true
      ·subst c48
       have H1:(some false)=some r:=by rw[if_pos rfl] at H;exact H
       clear H
       have H:=H1
       clear H1
       obtain rfl:=Option.some.inj H
       go_wp2
       go_ret
       exact⟨bE,bS GE327.out⟩
      ·replace c48:=Bool.eq_false_iff.mpr c48
       subst c48
       have H1:((laws_toContactS.f kj21 l0).bind fun t371=>((laws_eqContactS.f kj21 t350 t371).bind fun t374=>(if t374=true then ((laws_toIntS.f kj21 l2).bind fun t375=>((laws_eqIntS.f kj21 t353 t375).bind fun t378=>(if t378=true then ((laws_markContactS.f kj21 t350 1).bind fun bt379=>((laws_markIntS.f kj21 t353 bt379.1).bind fun bt381=>(if bt381.1 < 0 then (laws_FnExactReachAll.j1 kj21 l0 l2 t346 t349 t366 true a1_0 a1_1 a1_2 a1_3 a1_4 a1_5 a1_6 a1_7 a1_8 a1_9) else ((laws_eqReachS.f kj21 t366 t346).bind fun t383=>(if t383=true then (laws_FnExactReachAll.j1 kj21 l0 l2 t346 t349 t366 (t369 != t349) a1_0 a1_1 a1_2 a1_3 a1_4 a1_5 a1_6 a1_7 a1_8 a1_9) else (laws_FnExactReachAll.j1 kj21 l0 l2 t346 t349 t366 true a1_0 a1_1 a1_2 a1_3 a1_4 a1_5 a1_6 a1_7 a1_8 a1_9)))))) else (some false)))) else (some false))))=some r:=by rw[if_neg (show ¬ (false=true) by decide)] at H;exact H
       clear H
       have H:=H1
       clear H1
       replace H:=Option.bind_eq_some_iff.mp H
       obtain⟨t371,A490,H⟩:=H
       have A49:=Aside0.mk A490
       clear A490
       replace H:=Option.bind_eq_some_iff.mp H
       obtain⟨t374,A500,H⟩:=H
       have A50:=Aside0.mk A500
       clear A500
       by_cases c51:t374=true
       ·subst c51
        have H1:((laws_toIntS.f kj21 l2).bind fun t375=>((laws_eqIntS.f kj21 t353 t375).bind fun t378=>(if t378=true then ((laws_markContactS.f kj21 t350 1).bind fun bt379=>((laws_markIntS.f kj21 t353 bt379.1).bind fun bt381=>(if bt381.1 < 0 then (laws_FnExactReachAll.j1 kj21 l0 l2 t346 t349 t366 true a1_0 a1_1 a1_2 a1_3 a1_4 a1_5 a1_6 a1_7 a1_8 a1_9) else ((laws_eqReachS.f kj21 t366 t346).bind fun t383=>(if t383=true then (laws_FnExactReachAll.j1 kj21 l0 l2 t346 t349 t366 (t369 != t349) a1_0 a1_1 a1_2 a1_3 a1_4 a1_5 a1_6 a1_7 a1_8 a1_9) else (laws_FnExactReachAll.j1 kj21 l0 l2 t346 t349 t366 true a1_0 a1_1 a1_2 a1_3 a1_4 a1_5 a1_6 a1_7 a1_8 a1_9)))))) else (some false))))=some r:=by rw[if_pos rfl] at H;exact H
        clear H
        have H:=H1
        clear H1
        replace H:=Option.bind_eq_some_iff.mp H
        obtain⟨t375,A520,H⟩:=H
        have A52:=Aside0.mk A520
        clear A520
        replace H:=Option.bind_eq_some_iff.mp H
        obtain⟨t378,A530,H⟩:=H
        have A53:=Aside0.mk A530
        clear A530
        by_cases c54:t378=true
        ·subst c54
         have H1:((laws_markContactS.f kj21 t350 1).bind fun bt379=>((laws_markIntS.f kj21 t353 bt379.1).bind fun bt381=>(if bt381.1 < 0 then (laws_FnExactReachAll.j1 kj21 l0 l2 t346 t349 t366 true a1_0 a1_1 a1_2 a1_3 a1_4 a1_5 a1_6 a1_7 a1_8 a1_9) else ((laws_eqReachS.f kj21 t366 t346).bind fun t383=>(if t383=true then (laws_FnExactReachAll.j1 kj21 l0 l2 t346 t349 t366 (t369 != t349) a1_0 a1_1 a1_2 a1_3 a1_4 a1_5 a1_6 a1_7 a1_8 a1_9) else (laws_FnExactReachAll.j1 kj21 l0 l2 t346 t349 t366 true a1_0 a1_1 a1_2 a1_3 a1_4 a1_5 a1_6 a1_7 a1_8 a1_9))))))=some r:=by rw[if_pos rfl] at H;exact H
         clear H
         have H:=H1
         clear H1
         replace H:=Option.bind_eq_some_iff.mp H
         obtain⟨⟨t379,t380⟩,A550,H⟩:=H
         have A55:=Aside0.mk A550
         clear A550
         replace H:=Option.bind_eq_some_iff.mp H
         obtain⟨⟨t381,t382⟩,A560,H⟩:=H
         have A56:=Aside0.mk A560
         clear A560
         have HC57:=Aside0.mk H
         clear H
         go_upto_region 23 with (first|((with_reducible refine gate_callee (f:=24) rfl ?_);refine goesA (some 65) rfl rfl Try.func24 #[.slice A0 l0.length c0] rfl ?_;(with_reducible refine(laws_toContactS.calls kj21 _ _ l0 t371 _ ?side1 ?side2 A49.out).mono ?_);(case side1=>exact bC HR0.out);(case side2=>exact HC0.out);rintro e w58 ⟨v372,rfl,ho0,hb⟩;refine⟨_,rfl,?_⟩;have n0_:=Aside0.mk (Kd.S_below (by(with_reducible repeat (first|apply Kd.S_alloc|apply Kd.S_drewN|apply Kd.S_drew));exact HO_8.out) hb);have n1_:=Aside0.mk (Kd.R_elder' (bK HO_10.out) (Kd.R_base ho0) hb);have n2_:=Aside0.mk (Kd.R_below (bK HO_11.out) hb);have n3_:=Aside0.mk (Kd.S_below (by(with_reducible repeat (first|apply Kd.S_alloc|apply Kd.S_drewN|apply Kd.S_drew));exact HO_12.out) hb);have n4_:=Aside0.mk (Kd.R_lower (Kd.R_new' ho0 (Kd.R_lt (bK HO_10.out))) (below_size (bS GE327.out)));have n5_:=Aside0.mk (bM BK327.out hb);have n6_:=Aside0.mk (below_step (bS GE327.out) hb);clear HO_8 HO_10 HO_11 HO_12 BK327 HB;have HO_8:=n0_;have HO_10:=n1_;have HO_11:=n2_;have HO_12:=n3_;have HO373:=n4_;have BK327:=n5_;have HB:=n6_;clear n0_ n1_ n2_ n3_ n4_ n5_ n6_;(try clear hb);(try clear hb2);(try clear hk);(try clear hi);(try clear ho0);obtain⟨Ao59,co59,eo59⟩:=Kd.R_slice HO373.out;subst eo59)|((with_reducible refine gate_callee (f:=27) rfl ?_);refine goesA (some 66) rfl rfl Try.func27 #[.slice Ao37 t350.length co37,.slice Ao59 t371.length co59] rfl ?_;(with_reducible refine(laws_eqContactS.calls kj21 _ _ t350 _ _ t371 true _ ?side1 ?side2 ?side3 ?side4 A50.out).mono ?_);(case side1=>exact bT HO_10.out);(case side2=>exact(Kd.R_reads' HO_10.out).2.1);(case side3=>exact bT HO373.out);(case side4=>exact(Kd.R_reads' HO373.out).2.1);rintro e w60 ⟨rfl,hb⟩;refine⟨_,rfl,?_⟩;have n0_:=Aside0.mk (Kd.S_below (by(with_reducible repeat (first|apply Kd.S_alloc|apply Kd.S_drewN|apply Kd.S_drew));exact HO_8.out) hb);have n1_:=Aside0.mk (Kd.R_below (bK HO_10.out) hb);have n2_:=Aside0.mk (Kd.R_below (bK HO_11.out) hb);have n3_:=Aside0.mk (Kd.S_below (by(with_reducible repeat (first|apply Kd.S_alloc|apply Kd.S_drewN|apply Kd.S_drew));exact HO_12.out) hb);have n4_:=Aside0.mk (Kd.R_below (bK HO373.out) hb);have n5_:=Aside0.mk (bM BK327.out hb);have n6_:=Aside0.mk (below_step (bS GE327.out) hb);clear HO_8 HO_10 HO_11 HO_12 HO373 BK327 HB;have HO_8:=n0_;have HO_10:=n1_;have HO_11:=n2_;have HO_12:=n3_;have HO373:=n4_;have BK327:=n5_;have HB:=n6_;clear n0_ n1_ n2_ n3_ n4_ n5_ n6_;(try clear hb);(try clear hb2);(try clear hk);(try clear hi))|((with_reducible refine gate_callee (f:=32) rfl ?_);refine goesA (some 70) rfl rfl Try.func32 #[.slice A2 l2.length c2] rfl ?_;(with_reducible refine(laws_toIntS.calls kj21 _ _ l2 t375 _ ?side1 ?side2 A52.out).mono ?_);(case side1=>exact bC HR2.out);(case side2=>exact HC2.out);rintro e w61 ⟨v376,rfl,ho0,hb⟩;refine⟨_,rfl,?_⟩;have n0_:=Aside0.mk (Kd.S_elder' (by(with_reducible repeat (first|apply Kd.S_alloc|apply Kd.S_drewN|apply Kd.S_drew));exact HO_8.out) (Kd.R_base ho0) hb);have n1_:=Aside0.mk (Kd.R_below (bK HO_10.out) hb);have n2_:=Aside0.mk (Kd.R_elder' (bK HO_11.out) (Kd.R_base ho0) hb);have n3_:=Aside0.mk (Kd.S_elder' (by(with_reducible repeat (first|apply Kd.S_alloc|apply Kd.S_drewN|apply Kd.S_drew));exact HO_12.out) (Kd.R_base ho0) hb);have n4_:=Aside0.mk (Kd.R_below (bK HO373.out) hb);have n5_:=Aside0.mk (Kd.R_lower (Kd.R_new' ho0 (Kd.R_lt (bK HO_11.out))) (below_size (bS GE327.out)));have n6_:=Aside0.mk (bM BK327.out hb);have n7_:=Aside0.mk (below_step (bS GE327.out) hb);clear HO_8 HO_10 HO_11 HO_12 HO373 BK327 HB;have HO_8:=n0_;have HO_10:=n1_;have HO_11:=n2_;have HO_12:=n3_;have HO373:=n4_;have HO377:=n5_;have BK327:=n6_;have HB:=n7_;clear n0_ n1_ n2_ n3_ n4_ n5_ n6_ n7_;(try clear hb);(try clear hb2);(try clear hk);(try clear hi);(try clear ho0);obtain⟨Ao62,co62,eo62⟩:=Kd.R_slice HO377.out;subst eo62)|((with_reducible refine gate_callee (f:=26) rfl ?_);refine goesA (some 71) rfl rfl Try.func26 #[.slice Ao38 t353.length co38,.slice Ao62 t375.length co62] rfl ?_;(with_reducible refine(laws_eqIntS.calls kj21 _ _ t353 _ _ t375 true _ ?side1 ?side2 ?side3 ?side4 A53.out).mono ?_);(case side1=>exact bT HO_11.out);(case side2=>exact(Kd.R_reads' HO_11.out).2.1);(case side3=>exact bT HO377.out);(case side4=>exact(Kd.R_reads' HO377.out).2.1);rintro e w' ⟨rfl,⟨nd,rfl⟩⟩;refine⟨_,rfl,?_⟩)|((with_reducible refine gate_callee (f:=28) rfl ?_);refine goesA (some 75) rfl rfl Try.func28 #[.slice Ao37 t350.length co37,.int .i64 1] rfl ?_;(with_reducible refine(laws_markContactS.calls kj21 (fun k_=>some k_=(.slice Ao37 t350.length co37:Value).ownBlock) (.slice Ao37 t350.length co37) t350 1 t379 t380 w _ ?side1 ?side2 A55.out).mono ?_);(case side1=>repeat (first|(with_reducible first|exact HB.out|apply below_alloc|apply pw_below_drewN|apply below_drew1|refine below_set ?_ GE327.out)|exact HB.out));(case side2=>exact Kd.R_tight rfl HO_10.out);rintro e w63 ⟨rfl,hy0,hb,hkp⟩;refine⟨_,rfl,?_⟩;have n0_:=Aside0.mk (Kd.S_mono (ok':=fun k_=>some k_≠(.slice Ao38 t353.length co38:Value).ownBlock∧AP1_ k_∧some k_≠(.slice Ao62 t375.length co62:Value).ownBlock) (Kd.S_keptB ((Kd.S_apart' HO_8.out (Kd.R_typed HO_10.out) (by decide))) hkp (fun k_ hk_ hs_=>(hk_.2) hs_)) (fun k_ hk_=>⟨hk_.1.1.1.1,hk_.1.1.1.2,hk_.1.1.2⟩));have n1_:=Aside0.mk (Kd.R_reok rfl hy0 (fun k_ e_=>HO_10.out.1 k_ e_));have n2_:=Aside0.mk (Kd.R_mono (ok':=fun k_=>some k_≠(.slice Ao62 t375.length co62:Value).ownBlock) (Kd.R_keptB ((Kd.R_apart' HO_11.out (Kd.R_typed HO_10.out) (by decide))) hkp (fun k_ hk_ hs_=>(hk_.2) hs_)) (fun k_ hk_=>hk_.1.1.2));have n3_:=Aside0.mk (Kd.S_mono (ok':=fun k_=>AP2_ k_∧some k_≠(.slice Ao38 t353.length co38:Value).ownBlock∧some k_≠(.slice Ao62 t375.length co62:Value).ownBlock) (Kd.S_keptB ((Kd.S_apart' HO_12.out (Kd.R_typed HO_10.out) (by decide))) hkp (fun k_ hk_ hs_=>(hk_.2) hs_)) (fun k_ hk_=>⟨hk_.1.1.1.1,hk_.1.1.1.2,hk_.1.1.2⟩));have n4_:=Aside0.mk (blk_kept (bL BK327.out) hkp (fun hs_=>(fun e_=>(Kd.R_ne HO_10.out BK327.out (by decide)) e_) hs_));have n5_:=Aside0.mk (Kd.R_mono (ok':=fun k_=>some k_≠(.slice Ao37 t350.length co37:Value).ownBlock) (Kd.R_keptB (HO373.out) hkp (fun k_ hk_ hs_=>(hk_.2) hs_)) (fun k_ hk_=>hk_.1.2));have n6_:=Aside0.mk (Kd.R_mono (ok':=fun k_=>some k_≠(.slice Ao38 t353.length co38:Value).ownBlock) (Kd.R_keptB ((Kd.R_apart' HO377.out (Kd.R_typed HO_10.out) (by decide))) hkp (fun k_ hk_ hs_=>(hk_.2) hs_)) (fun k_ hk_=>hk_.1.1.2));have n7_:=Aside0.mk (hb);clear HO_8 HO_10 HO_11 HO_12 BK327 HO373 HO377 HB;have HO_8:=n0_;have HO_10:=n1_;have HO_11:=n2_;have HO_12:=n3_;have BK327:=n4_;have HO373:=n5_;have HO377:=n6_;have HB:=n7_;clear n0_ n1_ n2_ n3_ n4_ n5_ n6_ n7_;(try clear hb);(try clear hkp);(try clear hy0))|((with_reducible refine gate_callee (f:=29) rfl ?_);refine goesA (some 78) rfl rfl Try.func29 #[.slice Ao38 t353.length co38,.int .i64 t379] rfl ?_;(with_reducible refine(laws_markIntS.calls kj21 (fun k_=>some k_=(.slice Ao38 t353.length co38:Value).ownBlock) (.slice Ao38 t353.length co38) t353 t379 t381 t382 w _ ?side1 ?side2 A56.out).mono ?_);(case side1=>repeat (first|(with_reducible first|exact HB.out|apply below_alloc|apply pw_below_drewN|apply below_drew1|refine below_set ?_ GE327.out)|exact HB.out));(case side2=>exact Kd.R_tight rfl HO_11.out);rintro e w64 ⟨rfl,hy0,hb,hkp⟩;refine⟨_,rfl,?_⟩;have n0_:=Aside0.mk (Kd.S_mono (ok':=fun k_=>some k_≠(.slice Ao38 t353.length co38:Value).ownBlock∧AP1_ k_∧some k_≠(.slice Ao62 t375.length co62:Value).ownBlock) (Kd.S_keptB (HO_8.out) hkp (fun k_ hk_ hs_=>(hk_.1) hs_)) (fun k_ hk_=>⟨hk_.1.1,hk_.1.2.1,hk_.1.2.2⟩));have n1_:=Aside0.mk (Kd.R_mono (ok':=fun k_=>some k_≠(.slice Ao59 t371.length co59:Value).ownBlock) (Kd.R_keptB ((Kd.R_apart' HO_10.out (Kd.R_typed HO_11.out) (by decide))) hkp (fun k_ hk_ hs_=>(hk_.2) hs_)) (fun k_ hk_=>hk_.1.1.2));have n2_:=Aside0.mk (Kd.R_reok rfl hy0 (fun k_ e_=>HO_11.out.1 k_ e_));have n3_:=Aside0.mk (Kd.S_mono (ok':=fun k_=>AP2_ k_∧some k_≠(.slice Ao38 t353.length co38:Value).ownBlock∧some k_≠(.slice Ao62 t375.length co62:Value).ownBlock) (Kd.S_keptB (HO_12.out) hkp (fun k_ hk_ hs_=>(hk_.2.1) hs_)) (fun k_ hk_=>⟨hk_.1.1,hk_.1.2.1,hk_.1.2.2⟩));have n4_:=Aside0.mk (blk_kept (bL BK327.out) hkp (fun hs_=>(fun e_=>(Kd.R_ne HO_11.out BK327.out (by decide)) e_) hs_));have n5_:=Aside0.mk (Kd.R_mono (ok':=fun k_=>some k_≠(.slice Ao37 t350.length co37:Value).ownBlock) (Kd.R_keptB ((Kd.R_apart' HO373.out (Kd.R_typed HO_11.out) (by decide))) hkp (fun k_ hk_ hs_=>(hk_.2) hs_)) (fun k_ hk_=>hk_.1.1));have n6_:=Aside0.mk (Kd.R_mono (ok':=fun k_=>some k_≠(.slice Ao38 t353.length co38:Value).ownBlock) (Kd.R_keptB (HO377.out) hkp (fun k_ hk_ hs_=>(hk_) hs_)) (fun k_ hk_=>hk_.1));have n7_:=Aside0.mk (hb);clear HO_8 HO_10 HO_11 HO_12 BK327 HO373 HO377 HB;have HO_8:=n0_;have HO_10:=n1_;have HO_11:=n2_;have HO_12:=n3_;have BK327:=n4_;have HO373:=n5_;have HO377:=n6_;have HB:=n7_;clear n0_ n1_ n2_ n3_ n4_ n5_ n6_ n7_;(try clear hb);(try clear hkp);(try clear hy0)))
         (try simp only[Act.put,List.setIfInBounds_toArray,List.set_cons_zero,List.set_cons_succ])
         go_cut [91] (fun v91 wc => ∃ (kq:Nat) (x91_56:Bool),v91=.bool x91_56∧Aside0 (laws_FnExactReachAll.j1 kq l0 l2 t346 t349 t366 x91_56 a1_0 a1_1 a1_2 a1_3 a1_4 a1_5 a1_6 a1_7 a1_8 a1_9=some r)∧Aside0 (kq≤kj21)∧Aside0 (Kd.S k157 157 wc w.heap.size (fun k_=>AP1_ k_) v347 t346)∧Aside0 (Kd.S k157 157 wc w.heap.size (fun k_=>AP2_ k_) v367 t366)∧Aside0 (wc.heap[gb327]?=some (.cells #[.int .i64 a1_0,.int .i64 a1_1,.bool a1_2,.int .i64 a1_3,.int .i64 a1_4,.int .i64 a1_5,.int .i64 a1_6,.int .i64 a1_7,.int .i64 a1_8,.string a1_9] 82 (0,0)))∧Aside0 (Below w.heap.size w wc))
         case first =>
          have H:=HC57.out
          clear HC57
          by_cases c65:t381 < 0
          ·rw[if_pos c65] at H
           have c65b0:decide (t381 < 0)=true:=decide_eq_true c65
           clear c65
           (first|rw[c65b0]|(simp only[i64_w,i32_w];rw[c65b0])|skip)
           have H':=Aside0.mk H
           clear H
           go_wp2
           go_meet
           case rel=>exact⟨_,(true),(bR),H',⟨by have:=HJ21.out;first|omega|exact Nat.le_refl _⟩,⟨by(with_reducible repeat (first|apply Kd.S_alloc|apply Kd.S_drewN|apply Kd.S_drew));exact Kd.S_mono HO_8.out (fun _ hk=>hk.2.1)⟩,⟨by(with_reducible repeat (first|apply Kd.S_alloc|apply Kd.S_drewN|apply Kd.S_drew));exact Kd.S_mono HO_12.out (fun _ hk=>hk.1)⟩,⟨by(with_reducible repeat (first|refine blk_drewN ?_ _|refine blk_drew ?_|refine blk_alloc ?_ _));exact BK327.out⟩,⟨bS GE327.out⟩⟩
          ·rw[if_neg c65] at H
           have c65b0:decide (t381 < 0)=false:=decide_eq_false c65
           clear c65
           (first|rw[c65b0]|(simp only[i64_w,i32_w];rw[c65b0])|skip)
           replace H:=Option.bind_eq_some_iff.mp H
           obtain⟨t383,A660,H⟩:=H
           have A66:=Aside0.mk A660
           clear A660
           by_cases c67:t383=true
           ·subst c67
            have H1:(laws_FnExactReachAll.j1 kj21 l0 l2 t346 t349 t366 (t369 != t349) a1_0 a1_1 a1_2 a1_3 a1_4 a1_5 a1_6 a1_7 a1_8 a1_9)=some r:=by rw[if_pos rfl] at H;exact H
            clear H
            have H:=H1
            clear H1
            have H':=Aside0.mk H
            clear H
            obtain⟨Ao68,co68,eo68⟩:=Kd.S_slice HO_12.out
            subst eo68
            obtain⟨Ao69,co69,eo69⟩:=Kd.S_slice HO_8.out
            subst eo69
            go_wp2_with (first|(go_at_call 68;(with_reducible refine(laws_eqReachS.calls kj21 _ _ t366 _ _ t346 true _ ?side1 ?side2 ?side3 ?side4 A66.out).mono ?_);(case side1=>repeat (first|exact(Kd.S_reads' HO_12.out).2.2|(with_reducible refine Kd.C_alloc ?_ _)|(with_reducible refine Kd.C_drewN ?_ _)|(with_reducible refine Kd.C_drew ?_)));(case side2=>exact(Kd.S_reads' HO_12.out).2.1);(case side3=>repeat (first|exact(Kd.S_reads' HO_8.out).2.2|(with_reducible refine Kd.C_alloc ?_ _)|(with_reducible refine Kd.C_drewN ?_ _)|(with_reducible refine Kd.C_drew ?_)));(case side4=>exact(Kd.S_reads' HO_8.out).2.1);rintro e w70 ⟨rfl,hb⟩;have n0_:=Aside0.mk (Kd.S_below (by(with_reducible repeat (first|apply Kd.S_alloc|apply Kd.S_drewN|apply Kd.S_drew));exact HO_8.out) hb);have n1_:=Aside0.mk (Kd.R_below (bK HO_10.out) hb);have n2_:=Aside0.mk (Kd.R_below (bK HO_11.out) hb);have n3_:=Aside0.mk (Kd.S_below (by(with_reducible repeat (first|apply Kd.S_alloc|apply Kd.S_drewN|apply Kd.S_drew));exact HO_12.out) hb);have n4_:=Aside0.mk (Kd.R_below (bK HO373.out) hb);have n5_:=Aside0.mk (Kd.R_below (bK HO377.out) hb);have n6_:=Aside0.mk (bM BK327.out hb);have n7_:=Aside0.mk (below_step (bS GE327.out) hb);clear HO_8 HO_10 HO_11 HO_12 HO373 HO377 BK327 HB;have HO_8:=n0_;have HO_10:=n1_;have HO_11:=n2_;have HO_12:=n3_;have HO373:=n4_;have HO377:=n5_;have BK327:=n6_;have HB:=n7_;clear n0_ n1_ n2_ n3_ n4_ n5_ n6_ n7_;(try clear hb);(try clear hb2);(try clear hk);(try clear hi)))
            go_meet
            case rel=>exact⟨_,((t369 != t349)),(bR),H',⟨by have:=HJ21.out;first|omega|exact Nat.le_refl _⟩,⟨by(with_reducible repeat (first|apply Kd.S_alloc|apply Kd.S_drewN|apply Kd.S_drew));exact Kd.S_mono HO_8.out (fun _ hk=>hk.2.1)⟩,⟨by(with_reducible repeat (first|apply Kd.S_alloc|apply Kd.S_drewN|apply Kd.S_drew));exact Kd.S_mono HO_12.out (fun _ hk=>hk.1)⟩,⟨by(with_reducible repeat (first|refine blk_drewN ?_ _|refine blk_drew ?_|refine blk_alloc ?_ _));exact BK327.out⟩,⟨bS GE327.out⟩⟩
           ·replace c67:=Bool.eq_false_iff.mpr c67
            subst c67
            have H1:(laws_FnExactReachAll.j1 kj21 l0 l2 t346 t349 t366 true a1_0 a1_1 a1_2 a1_3 a1_4 a1_5 a1_6 a1_7 a1_8 a1_9)=some r:=by rw[if_neg (show ¬ (false=true) by decide)] at H;exact H
            clear H
            have H:=H1
            clear H1
            have H':=Aside0.mk H
            clear H
            obtain⟨Ao71,co71,eo71⟩:=Kd.S_slice HO_12.out
            subst eo71
            obtain⟨Ao72,co72,eo72⟩:=Kd.S_slice HO_8.out
            subst eo72
            go_wp2_with (first|(go_at_call 68;(with_reducible refine(laws_eqReachS.calls kj21 _ _ t366 _ _ t346 false _ ?side1 ?side2 ?side3 ?side4 A66.out).mono ?_);(case side1=>repeat (first|exact(Kd.S_reads' HO_12.out).2.2|(with_reducible refine Kd.C_alloc ?_ _)|(with_reducible refine Kd.C_drewN ?_ _)|(with_reducible refine Kd.C_drew ?_)));(case side2=>exact(Kd.S_reads' HO_12.out).2.1);(case side3=>repeat (first|exact(Kd.S_reads' HO_8.out).2.2|(with_reducible refine Kd.C_alloc ?_ _)|(with_reducible refine Kd.C_drewN ?_ _)|(with_reducible refine Kd.C_drew ?_)));(case side4=>exact(Kd.S_reads' HO_8.out).2.1);rintro e w73 ⟨rfl,hb⟩;have n0_:=Aside0.mk (Kd.S_below (by(with_reducible repeat (first|apply Kd.S_alloc|apply Kd.S_drewN|apply Kd.S_drew));exact HO_8.out) hb);have n1_:=Aside0.mk (Kd.R_below (bK HO_10.out) hb);have n2_:=Aside0.mk (Kd.R_below (bK HO_11.out) hb);have n3_:=Aside0.mk (Kd.S_below (by(with_reducible repeat (first|apply Kd.S_alloc|apply Kd.S_drewN|apply Kd.S_drew));exact HO_12.out) hb);have n4_:=Aside0.mk (Kd.R_below (bK HO373.out) hb);have n5_:=Aside0.mk (Kd.R_below (bK HO377.out) hb);have n6_:=Aside0.mk (bM BK327.out hb);have n7_:=Aside0.mk (below_step (bS GE327.out) hb);clear HO_8 HO_10 HO_11 HO_12 HO373 HO377 BK327 HB;have HO_8:=n0_;have HO_10:=n1_;have HO_11:=n2_;have HO_12:=n3_;have HO373:=n4_;have HO377:=n5_;have BK327:=n6_;have HB:=n7_;clear n0_ n1_ n2_ n3_ n4_ n5_ n6_ n7_;(try clear hb);(try clear hb2);(try clear hk);(try clear hi)))
            go_meet
            case rel=>exact⟨_,(true),(bR),H',⟨by have:=HJ21.out;first|omega|exact Nat.le_refl _⟩,⟨by(with_reducible repeat (first|apply Kd.S_alloc|apply Kd.S_drewN|apply Kd.S_drew));exact Kd.S_mono HO_8.out (fun _ hk=>hk.2.1)⟩,⟨by(with_reducible repeat (first|apply Kd.S_alloc|apply Kd.S_drewN|apply Kd.S_drew));exact Kd.S_mono HO_12.out (fun _ hk=>hk.1)⟩,⟨by(with_reducible repeat (first|refine blk_drewN ?_ _|refine blk_drew ?_|refine blk_alloc ?_ _));exact BK327.out⟩,⟨bS GE327.out⟩⟩
         case rest =>
          clear HC57
          try clear c1
          try clear c2
          try clear p2
          try clear c3
          try clear c4
          try clear c4b0
          try clear c4b1
          try clear c5
          try clear c6
          try clear c7
          try clear c7b0
          try clear c10
          try clear c10b0
          try clear c13
          try clear c22
          try clear c24
          try clear c26
          try clear c27
          try clear c28
          try clear c29
          try clear c32
          try clear c41
          try clear c48
          try clear c51
          try clear c53
          try clear c54
          try clear c65
          try clear c65b0
          try clear c66
          try clear c67
          try clear c68
          try clear hcz12_0 hcz12_1 hcz12_2 hcz12_3 hcz12_4 hcz12_5 hcz12_6 hcz12_7 hcz12_8 hcz12_9
          try clear hcz24_0 hcz24_1 hcz24_2 hcz24_3 hcz24_4 hcz24_5 hcz24_6 hcz24_7 hcz24_8 hcz24_9
          try clear hcz35_0 hcz35_1 hcz35_2 hcz35_3 hcz35_4 hcz35_5 hcz35_6 hcz35_7 hcz35_8 hcz35_9
          try clear hfz12_0 hfz12_1 hfz12_2 hfz12_3 hfz12_4 hfz12_5 hfz12_6 hfz12_7 hfz12_8 hfz12_9
          try clear hfz24_0 hfz24_1 hfz24_2 hfz24_3 hfz24_4 hfz24_5 hfz24_6 hfz24_7 hfz24_8 hfz24_9
          try clear hfz35_0 hfz35_1 hfz35_2 hfz35_3 hfz35_4 hfz35_5 hfz35_6 hfz35_7 hfz35_8 hfz35_9
          try clear p2
          obtain⟨kq,x91_56,rfl,HA,HJ56,HO_8,HO_12,BK327,HB⟩:=hcut
          cases kq with
          | zero=>exact absurd HA.out (by simp[laws_FnExactReachAll.j1])
          | succ kj56 =>
           have H:=HA.out
           clear HA
           simp only[laws_FnExactReachAll.j1] at H
           by_cases c74:x91_56=true
           ·subst c74
            have H1:(some false)=some r:=by rw[if_pos rfl] at H;exact H
            clear H
            have H:=H1
            clear H1
            obtain rfl:=Option.some.inj H
            go_wp2
            go_ret
            exact⟨bE,bS GE327.out⟩
           ·replace c74:=Bool.eq_false_iff.mpr c74
            subst c74
            have H1:((laws_markReachS.f kj56 t366 1).bind fun bt384=>((laws_heldReachS.f kj56 bt384.2 1).bind fun t386=>(if t386 < 0 then (some false) else (if t386=bt384.1 then ((laws_toContactS.f kj56 l0).bind fun t387=>((laws_toBundle.f a1_0 a1_1 a1_2 a1_3 a1_4 a1_5 a1_6 a1_7 a1_8 a1_9).bind fun bt390=>((laws_toIntS.f kj56 l2).bind fun t400=>((impl_ReachAll.f kj56 t387 bt390.1 bt390.2.1 bt390.2.2.1 bt390.2.2.2.1 bt390.2.2.2.2.1 bt390.2.2.2.2.2.1 bt390.2.2.2.2.2.2.1 bt390.2.2.2.2.2.2.2.1 bt390.2.2.2.2.2.2.2.2.1 bt390.2.2.2.2.2.2.2.2.2 t400).bind fun bt403=>((laws_eqReachS.f kj56 bt403.1 t346).bind fun t407=>(if t407=true then (laws_FnExactReachAll.j2 kj56 bt384.2 bt384.1 (bt403.2 != t349)) else (laws_FnExactReachAll.j2 kj56 bt384.2 bt384.1 true))))))) else (some false)))))=some r:=by rw[if_neg (show ¬ (false=true) by decide)] at H;exact H
            clear H
            have H:=H1
            clear H1
            replace H:=Option.bind_eq_some_iff.mp H
            obtain⟨⟨t384,t385⟩,A750,H⟩:=H
            have A75:=Aside0.mk A750
            clear A750
            replace H:=Option.bind_eq_some_iff.mp H
            obtain⟨t386,A760,H⟩:=H
            have A76:=Aside0.mk A760
            clear A760
            by_cases c77:t386 < 0
            ·rw[if_pos c77] at H
             have c77b0:decide (t386 < 0)=true:=decide_eq_true c77
             clear c77
             obtain rfl:=Option.some.inj H
             obtain⟨Ao78,co78,eo78⟩:=Kd.S_slice HO_12.out
             subst eo78
             go_wp2_with (first|((with_reducible refine gate_callee (f:=69) rfl ?_);refine goesA (some 94) rfl rfl Try.func69 #[.slice Ao78 t366.length co78,.int .i64 1] rfl ?_;(with_reducible refine(laws_markReachS.calls kj56 (fun k_=>AP2_ k_) (.slice Ao78 t366.length co78) t366 1 t384 t385 w _ ?side1 ?side2 A75.out).mono ?_);(case side1=>repeat (first|(with_reducible first|exact HB.out|apply below_alloc|apply pw_below_drewN|apply below_drew1|refine below_set ?_ GE327.out)|exact HB.out));(case side2=>exact HO_12.out);rintro e w79 ⟨rfl,hy0,hb,hkp⟩;refine⟨_,rfl,?_⟩;have n0_:=Aside0.mk (Kd.S_mono (ok':=fun k_=>AP1_ k_) (Kd.S_keptB (HO_8.out) hkp (fun k_ hk_ hs_=>HAP_.out k_ hk_ hs_)) (fun k_ hk_=>hk_.1));have n1_:=Aside0.mk hy0;have n2_:=Aside0.mk (blk_kept (bL BK327.out) hkp HNB_.out);have n3_:=Aside0.mk (hb);clear HO_8 HO_12 BK327 HB;have HO_8:=n0_;have HO_12:=n1_;have BK327:=n2_;have HB:=n3_;clear n0_ n1_ n2_ n3_;(try clear hb);(try clear hkp);(try clear hy0))|((with_reducible refine gate_callee (f:=70) rfl ?_);refine goesL_ (some 97) rfl rfl Try.func70 (by kernel_rfl) rfl #[.slice Ao78 t385.length co78,.int .i64 1] rfl (by(try simp only[List.map_toArray,List.map_cons,List.map_nil]);first|done|(rw[show t385.length=t366.length from (Kd.S_reads' HO_12.out).1.symm]<;>rfl)|rfl|(simp only[List.length_drop,List.length_take];rfl)) ?_;(with_reducible refine(laws_heldReachS.calls kj56 _ _ t385 1 t386 _ ?side1 ?side2 A76.out).mono ?_);(case side1=>repeat (first|exact(Kd.S_reads' HO_12.out).2.2|(with_reducible refine Kd.C_alloc ?_ _)|(with_reducible refine Kd.C_drewN ?_ _)|(with_reducible refine Kd.C_drew ?_)));(case side2=>rw[show t385.length=t366.length from (Kd.S_reads' HO_12.out).1.symm];exact(Kd.S_reads' HO_12.out).2.1);rintro e w' ⟨rfl,⟨nd,rfl⟩⟩;refine⟨_,rfl,?_⟩))
             go_ret
             exact⟨bE,bS GE327.out⟩
            ·rw[if_neg c77] at H
             have c77b0:decide (t386 < 0)=false:=decide_eq_false c77
             clear c77
             by_cases c80:t386=t384
             ·rw[if_pos c80] at H
              have c80b0:(t386 == t384)=true:=beq_iff_eq.mpr c80
              have c80b1:(t386 != t384)=false:=bne_eq_false_iff_eq.mpr c80
              clear c80
              replace H:=Option.bind_eq_some_iff.mp H
              obtain⟨t387,A810,H⟩:=H
              have A81:=Aside0.mk A810
              clear A810
              replace H:=Option.bind_eq_some_iff.mp H
              obtain⟨⟨t390,t391,t392,t393,t394,t395,t396,t397,t398,t399⟩,A820,H⟩:=H
              have A82:=Aside0.mk A820
              clear A820
              replace H:=Option.bind_eq_some_iff.mp H
              obtain⟨t400,A830,H⟩:=H
              have A83:=Aside0.mk A830
              clear A830
              replace H:=Option.bind_eq_some_iff.mp H
              obtain⟨⟨t403,t406⟩,A840,H⟩:=H
              have A84:=Aside0.mk A840
              clear A840
              have HC85:=Aside0.mk H
              clear H
              obtain⟨Ao86,co86,eo86⟩:=Kd.S_slice HO_12.out
              subst eo86
              try go_wp2_with (first|((with_reducible refine gate_callee (f:=69) rfl ?_);refine goesA (some 94) rfl rfl Try.func69 #[.slice Ao86 t366.length co86,.int .i64 1] rfl ?_;(with_reducible refine(laws_markReachS.calls kj56 (fun k_=>AP2_ k_) (.slice Ao86 t366.length co86) t366 1 t384 t385 w _ ?side1 ?side2 A75.out).mono ?_);(case side1=>repeat (first|(with_reducible first|exact HB.out|apply below_alloc|apply pw_below_drewN|apply below_drew1|refine below_set ?_ GE327.out)|exact HB.out));(case side2=>exact HO_12.out);rintro e w87 ⟨rfl,hy0,hb,hkp⟩;refine⟨_,rfl,?_⟩;have n0_:=Aside0.mk (Kd.S_mono (ok':=fun k_=>AP1_ k_) (Kd.S_keptB (HO_8.out) hkp (fun k_ hk_ hs_=>HAP_.out k_ hk_ hs_)) (fun k_ hk_=>hk_.1));have n1_:=Aside0.mk hy0;have n2_:=Aside0.mk (blk_kept (bL BK327.out) hkp HNB_.out);have n3_:=Aside0.mk (hb);clear HO_8 HO_12 BK327 HB;have HO_8:=n0_;have HO_12:=n1_;have BK327:=n2_;have HB:=n3_;clear n0_ n1_ n2_ n3_;(try clear hb);(try clear hkp);(try clear hy0))|((with_reducible refine gate_callee (f:=70) rfl ?_);refine goesL_ (some 97) rfl rfl Try.func70 (by kernel_rfl) rfl #[.slice Ao86 t385.length co86,.int .i64 1] rfl (by(try simp only[List.map_toArray,List.map_cons,List.map_nil]);first|done|(rw[show t385.length=t366.length from (Kd.S_reads' HO_12.out).1.symm]<;>rfl)|rfl|(simp only[List.length_drop,List.length_take];rfl)) ?_;(with_reducible refine(laws_heldReachS.calls kj56 _ _ t385 1 t386 _ ?side1 ?side2 A76.out).mono ?_);(case side1=>repeat (first|exact(Kd.S_reads' HO_12.out).2.2|(with_reducible refine Kd.C_alloc ?_ _)|(with_reducible refine Kd.C_drewN ?_ _)|(with_reducible refine Kd.C_drew ?_)));(case side2=>rw[show t385.length=t366.length from (Kd.S_reads' HO_12.out).1.symm];exact(Kd.S_reads' HO_12.out).2.1);rintro e w' ⟨rfl,⟨nd,rfl⟩⟩;refine⟨_,rfl,?_⟩))
              (try (rw[drewN_self w87];generalize hq_:World.drewN w87 _=w87;have n0_:Aside0 (Kd.S k157 157 w87 w.heap.size (fun k_=>AP2_ k_) (.slice Ao86 t366.length co86) t385):=⟨by rw[← hq_];exact(by(with_reducible repeat (first|apply Kd.S_alloc|apply Kd.S_drewN|apply Kd.S_drew));exact HO_12.out)⟩;have n1_:Aside0 (Kd.S k157 157 w87 w.heap.size (fun k_=>AP1_ k_) v347 t346):=⟨by rw[← hq_];exact(by(with_reducible repeat (first|apply Kd.S_alloc|apply Kd.S_drewN|apply Kd.S_drew));exact HO_8.out)⟩;have n2_:Aside0 (w87.heap[gb327]?=some (.cells #[.int .i64 a1_0,.int .i64 a1_1,.bool a1_2,.int .i64 a1_3,.int .i64 a1_4,.int .i64 a1_5,.int .i64 a1_6,.int .i64 a1_7,.int .i64 a1_8,.string a1_9] 82 (0,0))):=⟨by rw[← hq_];exact(bL BK327.out)⟩;have n3_:Aside0 (Below w.heap.size w w87):=⟨by rw[← hq_];exact(bS GE327.out)⟩;clear HO_12 HO_8 BK327 HB hq_;have HO_12:=n0_;have HO_8:=n1_;have BK327:=n2_;have HB:=n3_;clear n0_ n1_ n2_ n3_))
              have n0_:=Aside0.mk (Kd.S_drew HO_8.out)
              have n1_:=Aside0.mk (Kd.S_drew HO_12.out)
              have n2_:=Aside0.mk (blk_drew BK327.out)
              have n3_:=Aside0.mk (below_drew1 HB.out)
              clear HO_8 HO_12 BK327 HB
              have HO_8:=n0_
              have HO_12:=n1_
              have BK327:=n2_
              have HB:=n3_
              clear n0_ n1_ n2_ n3_
              refine start_ (n:=12) (S:=fun w'=>w'.cell? ⟨gb327,0,none⟩=some (.int .i64 a1_0)∧w'.cell? ⟨gb327,1,none⟩=some (.int .i64 a1_1)∧w'.cell? ⟨gb327,2,none⟩=some (.bool a1_2)∧w'.cell? ⟨gb327,3,none⟩=some (.int .i64 a1_3)∧w'.cell? ⟨gb327,4,none⟩=some (.int .i64 a1_4)∧w'.cell? ⟨gb327,5,none⟩=some (.int .i64 a1_5)∧w'.cell? ⟨gb327,6,none⟩=some (.int .i64 a1_6)∧w'.cell? ⟨gb327,7,none⟩=some (.int .i64 a1_7)∧w'.cell? ⟨gb327,8,none⟩=some (.int .i64 a1_8)∧w'.cell? ⟨gb327,9,none⟩=some (.string a1_9)) (ds:=[]) #[false,false,false,false,false,false,false,false,false,false,false,false] (by kernel_rfl) rfl rfl (cC10 BK327.out) (fun hHeld => ?_);refine with_tabW laws_FnExactReachAll.tab33 laws_FnExactReachAll.bits33 (fun HT_ HW_ => ?_)
              generalize w87.drew=w88 at HO_8 HO_12 BK327 HB hHeld ⊢
              refine pure_ (i:=0) (N:=some 104) (v:=?_) (a':=?_) #[true,false,false,false,false,false,false,false,false,false,false,false] rfl rfl (any_of HT_.out (by kernel_rfl)) (fun _ _ _ h=>h) (Or.inl ⟨by rfl,?_⟩) ?_ ?_
              rotate_left
              ·intro w'
               go_simp
               with_reducible rfl
              rotate_left
              ·simp only[Act.put,List.setIfInBounds_toArray,List.set_cons_zero,List.set_cons_succ,i64_w,i32_w]
               rfl
              refine pure_ (i:=4) (N:=some 108) (v:=?_) (a':=?_) #[true,false,false,false,true,false,false,false,false,false,false,false] rfl rfl (any_of HT_.out (by kernel_rfl)) (fun _ _ _ h=>h) (Or.inl ⟨by rfl,?_⟩) ?_ ?_
              rotate_left
              ·intro w'
               go_simp
               with_reducible rfl
              rotate_left
              ·simp only[Act.put,List.setIfInBounds_toArray,List.set_cons_zero,List.set_cons_succ,i64_w,i32_w]
               rfl
              refine take_ (i:=2) (N:=some 106) (v:=?_) (a':=?_) #[true,false,true,false,true,false,false,false,false,false,false,false] rfl rfl (take_ofW HT_.out HW_.out (by kernel_rfl)) (fun _ _ _ h=>h) (Or.inl ⟨by rfl,?_⟩) hHeld ?_ ?_
              rotate_left
              ·rintro w' ⟨s0,s1,s2,s3,s4,s5,s6,s7,s8,s9⟩
               go_simp
               with_reducible rfl
              rotate_left
              ·simp only[Act.put,List.setIfInBounds_toArray,List.set_cons_zero,List.set_cons_succ,i64_w,i32_w]
               rfl
              refine one_ (i:=1) (N:=some 105) #[true,true,true,false,true,false,false,false,false,false,false,false] rfl rfl (one_of HT_.out (by kernel_rfl)) (by decide) (fun K hK => ?_)
              refine goes_ Try.func24 (by kernel_rfl) rfl #[.slice A0 l0.length c0] (by rfl) rfl rfl (by(try simp only[List.map_toArray,List.map_cons,List.map_nil]);first|done|rfl|(simp only[List.length_drop,List.length_take];rfl)) ?_
              with_reducible refine(laws_toContactS.calls kj56 _ _ l0 t387 _ ?side1 ?side2 A81.out).mono ?_
              (case side1=>exact bC HR0.out)
              (case side2=>exact HC0.out)
              rintro e w89 ⟨v388,rfl,ho0,hb⟩
              refine⟨_,rfl,?_⟩
              have n0_:=Aside0.mk (Kd.S_below (by(with_reducible repeat (first|apply Kd.S_alloc|apply Kd.S_drewN|apply Kd.S_drew));exact HO_8.out) hb)
              have n1_:=Aside0.mk (Kd.S_below (by(with_reducible repeat (first|apply Kd.S_alloc|apply Kd.S_drewN|apply Kd.S_drew));exact HO_12.out) hb)
              have n2_:=Aside0.mk (Kd.R_lower ho0 (below_size (bS GE327.out)))
              have n3_:=Aside0.mk (bM BK327.out hb)
              have n4_:=Aside0.mk (below_step (bS GE327.out) hb)
              clear HO_8 HO_12 BK327 HB
              have HO_8:=n0_
              have HO_12:=n1_
              have HO389:=n2_
              have BK327:=n3_
              have HB:=n4_
              clear n0_ n1_ n2_ n3_ n4_
              (try clear hb)
              (try clear hb2)
              (try clear hk)
              (try clear hi)
              (try clear ho0)
              refine hK.out _ _ (cC10 BK327.out) (fun hHeld => ?_)
              clear hK K
              refine norm_ (a':=?_) ?_ ?_
              rotate_left
              ·show Act.put _ (some 105) _=_
               simp only[Act.put,List.setIfInBounds_toArray,List.set_cons_zero,List.set_cons_succ,i64_w,i32_w]
               rfl
              refine one_ (i:=3) (N:=some 107) #[true,true,true,true,true,false,false,false,false,false,false,false] rfl rfl (one_of HT_.out (by kernel_rfl)) (by decide) (fun K hK => ?_)
              refine goes_ Try.func53 (by kernel_rfl) rfl #[.agg #[.int .i64 a1_0,.int .i64 a1_1,.bool a1_2,.int .i64 a1_3,.int .i64 a1_4,.int .i64 a1_5,.int .i64 a1_6,.int .i64 a1_7,.int .i64 a1_8,.string a1_9]] (by rfl) rfl rfl (by(try simp only[List.map_toArray,List.map_cons,List.map_nil]);first|done|rfl|(simp only[List.length_drop,List.length_take];rfl)) ?_
              with_reducible refine(laws_toBundle.calls a1_0 a1_1 a1_2 a1_3 a1_4 a1_5 a1_6 a1_7 a1_8 a1_9 t390 t391 t392 t393 t394 t395 t396 t397 t398 t399 _ A82.out).mono ?_
              rintro e w90 ⟨rfl,hb⟩
              refine⟨_,rfl,?_⟩
              have n0_:=Aside0.mk (Kd.S_below (by(with_reducible repeat (first|apply Kd.S_alloc|apply Kd.S_drewN|apply Kd.S_drew));exact HO_8.out) hb)
              have n1_:=Aside0.mk (Kd.S_below (by(with_reducible repeat (first|apply Kd.S_alloc|apply Kd.S_drewN|apply Kd.S_drew));exact HO_12.out) hb)
              have n2_:=Aside0.mk (Kd.R_below (bK HO389.out) hb)
              have n3_:=Aside0.mk (bM BK327.out hb)
              have n4_:=Aside0.mk (below_step (bS GE327.out) hb)
              clear HO_8 HO_12 HO389 BK327 HB
              have HO_8:=n0_
              have HO_12:=n1_
              have HO389:=n2_
              have BK327:=n3_
              have HB:=n4_
              clear n0_ n1_ n2_ n3_ n4_
              (try clear hb)
              (try clear hb2)
              (try clear hk)
              (try clear hi)
              refine hK.out _ _ (cC10 BK327.out) (fun hHeld => ?_)
              clear hK K
              refine norm_ (a':=?_) ?_ ?_
              rotate_left
              ·show Act.put _ (some 107) _=_
               simp only[Act.put,List.setIfInBounds_toArray,List.set_cons_zero,List.set_cons_succ,i64_w,i32_w]
               rfl
              refine one_ (i:=5) (N:=some 109) #[true,true,true,true,true,true,false,false,false,false,false,false] rfl rfl (one_of HT_.out (by kernel_rfl)) (by decide) (fun K hK => ?_)
              refine goes_ Try.func32 (by kernel_rfl) rfl #[.slice A2 l2.length c2] (by rfl) rfl rfl (by(try simp only[List.map_toArray,List.map_cons,List.map_nil]);first|done|rfl|(simp only[List.length_drop,List.length_take];rfl)) ?_
              with_reducible refine(laws_toIntS.calls kj56 _ _ l2 t400 _ ?side1 ?side2 A83.out).mono ?_
              (case side1=>exact bC HR2.out)
              (case side2=>exact HC2.out)
              rintro e w91 ⟨v401,rfl,ho0,hb⟩
              refine⟨_,rfl,?_⟩
              have n0_:=Aside0.mk (Kd.S_elder' (by(with_reducible repeat (first|apply Kd.S_alloc|apply Kd.S_drewN|apply Kd.S_drew));exact HO_8.out) (Kd.R_base ho0) hb)
              have n1_:=Aside0.mk (Kd.S_elder' (by(with_reducible repeat (first|apply Kd.S_alloc|apply Kd.S_drewN|apply Kd.S_drew));exact HO_12.out) (Kd.R_base ho0) hb)
              have n2_:=Aside0.mk (Kd.R_below (bK HO389.out) hb)
              have n3_:=Aside0.mk (Kd.R_lower ho0 (below_size (bS GE327.out)))
              have n4_:=Aside0.mk (bM BK327.out hb)
              have n5_:=Aside0.mk (below_step (bS GE327.out) hb)
              clear HO_8 HO_12 HO389 BK327 HB
              have HO_8:=n0_
              have HO_12:=n1_
              have HO389:=n2_
              have HO402:=n3_
              have BK327:=n4_
              have HB:=n5_
              clear n0_ n1_ n2_ n3_ n4_ n5_
              (try clear hb)
              (try clear hb2)
              (try clear hk)
              (try clear hi)
              (try clear ho0)
              obtain⟨Ao92,co92,eo92⟩:=Kd.R_slice HO389.out
              (first|subst eo92|(injection eo92 with f1_ f2_ f3_;have f4_:=f1_.symm;have f5_:=f3_.symm;clear f1_ f2_ f3_;subst f4_;subst f5_))
              obtain⟨Ao93,co93,eo93⟩:=Kd.R_slice HO402.out
              (first|subst eo93|(injection eo93 with f1_ f2_ f3_;have f4_:=f1_.symm;have f5_:=f3_.symm;clear f1_ f2_ f3_;subst f4_;subst f5_))
              refine hK.out _ _ (cC10 BK327.out) (fun hHeld => ?_)
              clear hK K
              refine norm_ (a':=?_) ?_ ?_
              rotate_left
              ·show Act.put _ (some 109) _=_
               simp only[Act.put,List.setIfInBounds_toArray,List.set_cons_zero,List.set_cons_succ,i64_w,i32_w]
               rfl
              refine one_ (i:=6) (N:=some 110) #[true,true,true,true,true,true,true,false,false,false,false,false] rfl rfl (one_of HT_.out (by kernel_rfl)) (by decide) (fun K hK => ?_)
              refine goes_ Try.func67 (by kernel_rfl) rfl #[.slice Ao92 t387.length co92,.agg #[.int .i64 t390,.int .i64 t391,.bool t392,.int .i64 t393,.int .i64 t394,.int .i64 t395,.int .i64 t396,.int .i64 t397,.int .i64 t398,.string t399],.slice Ao93 t400.length co93] (by rfl) rfl rfl (by(try simp only[List.map_toArray,List.map_cons,List.map_nil]);first|done|rfl|(simp only[List.length_drop,List.length_take];rfl)) ?_
              with_reducible refine(impl_ReachAll.calls kj56 _ _ t387 t390 t391 t392 t393 t394 t395 t396 t397 t398 t399 _ _ t400 t403 t406 _ ?side1 ?side2 ?side3 ?side4 A84.out).mono ?_
              (case side1=>exact bT HO389.out)
              (case side2=>exact(Kd.R_reads' HO389.out).2.1)
              (case side3=>exact bT HO402.out)
              (case side4=>exact(Kd.R_reads' HO402.out).2.1)
              rintro e w94 ⟨v404,rfl,ho0,hb⟩
              refine⟨_,rfl,?_⟩
              have n0_:=Aside0.mk (Kd.S_elder' (by(with_reducible repeat (first|apply Kd.S_alloc|apply Kd.S_drewN|apply Kd.S_drew));exact HO_8.out) (Kd.S_base ho0) hb)
              have n1_:=Aside0.mk (Kd.S_elder' (by(with_reducible repeat (first|apply Kd.S_alloc|apply Kd.S_drewN|apply Kd.S_drew));exact HO_12.out) (Kd.S_base ho0) hb)
              have n2_:=Aside0.mk (Kd.R_below (bK HO389.out) hb)
              have n3_:=Aside0.mk (Kd.R_below (bK HO402.out) hb)
              have n4_:=Aside0.mk (Kd.S_lower (Kd.S_new' (Kd.S_new' (Kd.S_new' ho0 (Kd.S_lt (by(with_reducible repeat (first|apply Kd.S_alloc|apply Kd.S_drewN|apply Kd.S_drew));exact HO_8.out))) (Kd.S_lt (by(with_reducible repeat (first|apply Kd.S_alloc|apply Kd.S_drewN|apply Kd.S_drew));exact HO_12.out))) (Kd.R_lt (bK HO402.out))) (below_size (bS GE327.out)))
              have n5_:=Aside0.mk (bM BK327.out hb)
              have n6_:=Aside0.mk (below_step (bS GE327.out) hb)
              clear HO_8 HO_12 HO389 HO402 BK327 HB
              have HO_8:=n0_
              have HO_12:=n1_
              have HO389:=n2_
              have HO402:=n3_
              have HO405:=n4_
              have BK327:=n5_
              have HB:=n6_
              clear n0_ n1_ n2_ n3_ n4_ n5_ n6_
              (try clear hb)
              (try clear hb2)
              (try clear hk)
              (try clear hi)
              (try clear ho0)
              refine hK.out _ _ (cC10 BK327.out) (fun hHeld => ?_)
              clear hK K
              refine norm_ (a':=?_) ?_ ?_
              rotate_left
              ·show Act.put _ (some 110) _=_
               simp only[Act.put,List.setIfInBounds_toArray,List.set_cons_zero,List.set_cons_succ,i64_w,i32_w]
               rfl
              refine pure_ (i:=7) (N:=some 103) (v:=?_) (a':=?_) #[true,true,true,true,true,true,true,true,false,false,false,false] rfl rfl (any_of HT_.out (by kernel_rfl)) (fun _ _ _ h=>h) (Or.inl ⟨by rfl,?_⟩) ?_ ?_
              rotate_left
              ·intro w'
               go_simp
               with_reducible rfl
              rotate_left
              ·simp only[Act.put,List.setIfInBounds_toArray,List.set_cons_zero,List.set_cons_succ,i64_w,i32_w]
               rfl
              refine pure_ (i:=8) (N:=some 111) (v:=?_) (a':=?_) #[true,true,true,true,true,true,true,true,true,false,false,false] rfl rfl (any_of HT_.out (by kernel_rfl)) (fun _ _ _ h=>h) (Or.inl ⟨by rfl,?_⟩) ?_ ?_
              rotate_left
              ·intro w'
               go_simp
               with_reducible rfl
              rotate_left
              ·simp only[Act.put,List.setIfInBounds_toArray,List.set_cons_zero,List.set_cons_succ,i64_w,i32_w]
               rfl
              refine pure_ (i:=9) (N:=some 112) (v:=?_) (a':=?_) #[true,true,true,true,true,true,true,true,true,true,false,false] rfl rfl (any_of HT_.out (by kernel_rfl)) (fun _ _ _ h=>h) (Or.inl ⟨by rfl,?_⟩) ?_ ?_
              rotate_left
              ·intro w'
               go_simp
               with_reducible rfl
              rotate_left
              ·simp only[Act.put,List.setIfInBounds_toArray,List.set_cons_zero,List.set_cons_succ,i64_w,i32_w]
               rfl
              refine pure_ (i:=10) (N:=some 17) (v:=?_) (a':=?_) #[true,true,true,true,true,true,true,true,true,true,true,false] rfl rfl (any_of HT_.out (by kernel_rfl)) (fun _ _ _ h=>h) (Or.inl ⟨by rfl,?_⟩) ?_ ?_
              rotate_left
              ·intro w'
               go_simp
               with_reducible rfl
              rotate_left
              ·simp only[Act.put,List.setIfInBounds_toArray,List.set_cons_zero,List.set_cons_succ,i64_w,i32_w]
               rfl
              refine pure_ (i:=11) (N:=some 18) (v:=?_) (a':=?_) #[true,true,true,true,true,true,true,true,true,true,true,true] rfl rfl (any_of HT_.out (by kernel_rfl)) (fun _ _ _ h=>h) (Or.inl ⟨by rfl,?_⟩) ?_ ?_
              rotate_left
              ·intro w'
               go_simp
               with_reducible rfl
              rotate_left
              ·simp only[Act.put,List.setIfInBounds_toArray,List.set_cons_zero,List.set_cons_succ,i64_w,i32_w]
               rfl
              refine done_ (done_of HT_.out (by kernel_rfl)) ?_
              go_upto_region 34 with (fail)
              go_cut [121] (fun v121 wc => ∃ (kq:Nat) (x121_84:Bool),v121=.bool x121_84∧Aside0 (laws_FnExactReachAll.j2 kq t385 t384 x121_84=some r)∧Aside0 (kq≤kj56)∧Aside0 (Kd.S k157 157 wc w.heap.size (fun _=>True) (.slice Ao86 t366.length co86) t385)∧Aside0 (wc.heap[gb327]?=some (.cells #[.int .i64 a1_0,.int .i64 a1_1,.bool a1_2,.int .i64 a1_3,.int .i64 a1_4,.int .i64 a1_5,.int .i64 a1_6,.int .i64 a1_7,.int .i64 a1_8,.string a1_9] 82 (0,0)))∧Aside0 (Below w.heap.size w wc))
              case first =>
               have H:=HC85.out
               clear HC85
               replace H:=Option.bind_eq_some_iff.mp H
               obtain⟨t407,A950,H⟩:=H
               have A95:=Aside0.mk A950
               clear A950
               by_cases c96:t407=true
               ·subst c96
                have H1:(laws_FnExactReachAll.j2 kj56 t385 t384 (t406 != t349))=some r:=by rw[if_pos rfl] at H;exact H
                clear H
                have H:=H1
                clear H1
                have H':=Aside0.mk H
                clear H
                obtain⟨Ao97,co97,eo97⟩:=Kd.S_slice HO405.out
                subst eo97
                obtain⟨Ao98,co98,eo98⟩:=Kd.S_slice HO_8.out
                subst eo98
                go_wp2_with (first|((with_reducible refine gate_callee (f:=68) rfl ?_);refine goesA (some 115) rfl rfl Try.func68 #[.slice Ao97 t403.length co97,.slice Ao98 t346.length co98] rfl ?_;(with_reducible refine(laws_eqReachS.calls kj56 _ _ t403 _ _ t346 true _ ?side1 ?side2 ?side3 ?side4 A95.out).mono ?_);(case side1=>repeat (first|exact(Kd.S_reads' HO405.out).2.2|(with_reducible refine Kd.C_alloc ?_ _)|(with_reducible refine Kd.C_drewN ?_ _)|(with_reducible refine Kd.C_drew ?_)));(case side2=>exact(Kd.S_reads' HO405.out).2.1);(case side3=>repeat (first|exact(Kd.S_reads' HO_8.out).2.2|(with_reducible refine Kd.C_alloc ?_ _)|(with_reducible refine Kd.C_drewN ?_ _)|(with_reducible refine Kd.C_drew ?_)));(case side4=>exact(Kd.S_reads' HO_8.out).2.1);rintro e w99 ⟨rfl,hb⟩;refine⟨_,rfl,?_⟩;have n0_:=Aside0.mk (Kd.S_below (by(with_reducible repeat (first|apply Kd.S_alloc|apply Kd.S_drewN|apply Kd.S_drew));exact HO_8.out) hb);have n1_:=Aside0.mk (Kd.S_below (by(with_reducible repeat (first|apply Kd.S_alloc|apply Kd.S_drewN|apply Kd.S_drew));exact HO_12.out) hb);have n2_:=Aside0.mk (Kd.R_below (bK HO389.out) hb);have n3_:=Aside0.mk (Kd.R_below (bK HO402.out) hb);have n4_:=Aside0.mk (Kd.S_below (by(with_reducible repeat (first|apply Kd.S_alloc|apply Kd.S_drewN|apply Kd.S_drew));exact HO405.out) hb);have n5_:=Aside0.mk (bM BK327.out hb);have n6_:=Aside0.mk (below_step (bS GE327.out) hb);clear HO_8 HO_12 HO389 HO402 HO405 BK327 HB;have HO_8:=n0_;have HO_12:=n1_;have HO389:=n2_;have HO402:=n3_;have HO405:=n4_;have BK327:=n5_;have HB:=n6_;clear n0_ n1_ n2_ n3_ n4_ n5_ n6_;(try clear hb);(try clear hb2);(try clear hk);(try clear hi)))
                go_meet
                case rel=>exact⟨_,((t406 != t349)),(bR),H',⟨by have:=HJ21.out;have:=HJ56.out;first|omega|exact Nat.le_refl _⟩,⟨by(with_reducible repeat (first|apply Kd.S_alloc|apply Kd.S_drewN|apply Kd.S_drew));exact Kd.S_mono HO_12.out (fun _ hk=>trivial)⟩,⟨by(with_reducible repeat (first|refine blk_drewN ?_ _|refine blk_drew ?_|refine blk_alloc ?_ _));exact BK327.out⟩,⟨bS GE327.out⟩⟩
               ·replace c96:=Bool.eq_false_iff.mpr c96
                subst c96
                have H1:(laws_FnExactReachAll.j2 kj56 t385 t384 true)=some r:=by rw[if_neg (show ¬ (false=true) by decide)] at H;exact H
                clear H
                have H:=H1
                clear H1
                have H':=Aside0.mk H
                clear H
                obtain⟨Ao100,co100,eo100⟩:=Kd.S_slice HO405.out
                subst eo100
                obtain⟨Ao101,co101,eo101⟩:=Kd.S_slice HO_8.out
                subst eo101
                go_wp2_with (first|((with_reducible refine gate_callee (f:=68) rfl ?_);refine goesA (some 115) rfl rfl Try.func68 #[.slice Ao100 t403.length co100,.slice Ao101 t346.length co101] rfl ?_;(with_reducible refine(laws_eqReachS.calls kj56 _ _ t403 _ _ t346 false _ ?side1 ?side2 ?side3 ?side4 A95.out).mono ?_);(case side1=>repeat (first|exact(Kd.S_reads' HO405.out).2.2|(with_reducible refine Kd.C_alloc ?_ _)|(with_reducible refine Kd.C_drewN ?_ _)|(with_reducible refine Kd.C_drew ?_)));(case side2=>exact(Kd.S_reads' HO405.out).2.1);(case side3=>repeat (first|exact(Kd.S_reads' HO_8.out).2.2|(with_reducible refine Kd.C_alloc ?_ _)|(with_reducible refine Kd.C_drewN ?_ _)|(with_reducible refine Kd.C_drew ?_)));(case side4=>exact(Kd.S_reads' HO_8.out).2.1);rintro e w102 ⟨rfl,hb⟩;refine⟨_,rfl,?_⟩;have n0_:=Aside0.mk (Kd.S_below (by(with_reducible repeat (first|apply Kd.S_alloc|apply Kd.S_drewN|apply Kd.S_drew));exact HO_8.out) hb);have n1_:=Aside0.mk (Kd.S_below (by(with_reducible repeat (first|apply Kd.S_alloc|apply Kd.S_drewN|apply Kd.S_drew));exact HO_12.out) hb);have n2_:=Aside0.mk (Kd.R_below (bK HO389.out) hb);have n3_:=Aside0.mk (Kd.R_below (bK HO402.out) hb);have n4_:=Aside0.mk (Kd.S_below (by(with_reducible repeat (first|apply Kd.S_alloc|apply Kd.S_drewN|apply Kd.S_drew));exact HO405.out) hb);have n5_:=Aside0.mk (bM BK327.out hb);have n6_:=Aside0.mk (below_step (bS GE327.out) hb);clear HO_8 HO_12 HO389 HO402 HO405 BK327 HB;have HO_8:=n0_;have HO_12:=n1_;have HO389:=n2_;have HO402:=n3_;have HO405:=n4_;have BK327:=n5_;have HB:=n6_;clear n0_ n1_ n2_ n3_ n4_ n5_ n6_;(try clear hb);(try clear hb2);(try clear hk);(try clear hi)))
                go_meet
                case rel=>exact⟨_,(true),(bR),H',⟨by have:=HJ21.out;have:=HJ56.out;first|omega|exact Nat.le_refl _⟩,⟨by(with_reducible repeat (first|apply Kd.S_alloc|apply Kd.S_drewN|apply Kd.S_drew));exact Kd.S_mono HO_12.out (fun _ hk=>trivial)⟩,⟨by(with_reducible repeat (first|refine blk_drewN ?_ _|refine blk_drew ?_|refine blk_alloc ?_ _));exact BK327.out⟩,⟨bS GE327.out⟩⟩
              case rest =>
               clear HC85
               try clear c1
               try clear c2
               try clear p2
               try clear c3
               try clear c4
               try clear c4b0
               try clear c4b1
               try clear c5
               try clear c6
               try clear c7
               try clear c7b0
               try clear c8
               try clear c9
               try clear c10
               try clear c10b0
               try clear c13
               try clear c22
               try clear c24
               try clear c26
               try clear c27
               try clear c28
               try clear c29
               try clear c32
               try clear c41
               try clear c48
               try clear c51
               try clear c53
               try clear c54
               try clear c65
               try clear c65b0
               try clear c66
               try clear c67
               try clear c68
               try clear c69
               try clear c70
               try clear c74
               try clear c77
               try clear c77b0
               try clear c80
               try clear c80b0
               try clear c80b1
               try clear c96
               try clear hcz12_0 hcz12_1 hcz12_2 hcz12_3 hcz12_4 hcz12_5 hcz12_6 hcz12_7 hcz12_8 hcz12_9
               try clear hcz24_0 hcz24_1 hcz24_2 hcz24_3 hcz24_4 hcz24_5 hcz24_6 hcz24_7 hcz24_8 hcz24_9
               try clear hcz35_0 hcz35_1 hcz35_2 hcz35_3 hcz35_4 hcz35_5 hcz35_6 hcz35_7 hcz35_8 hcz35_9
               try clear hfz12_0 hfz12_1 hfz12_2 hfz12_3 hfz12_4 hfz12_5 hfz12_6 hfz12_7 hfz12_8 hfz12_9
               try clear hfz24_0 hfz24_1 hfz24_2 hfz24_3 hfz24_4 hfz24_5 hfz24_6 hfz24_7 hfz24_8 hfz24_9
               try clear hfz35_0 hfz35_1 hfz35_2 hfz35_3 hfz35_4 hfz35_5 hfz35_6 hfz35_7 hfz35_8 hfz35_9
               try clear p2
               obtain⟨kq,x121_84,rfl,HA,HJ84,HO_12,BK327,HB⟩:=hcut
               have hl12_84:=(Kd.S_reads' HO_12.out).1
               rw[hl12_84] at HO_12
               (try simp only[hl12_84])
               (try simp only[hl12_84] at BK327)
               cases kq with
               | zero=>exact absurd HA.out (by simp[laws_FnExactReachAll.j2])
               | succ kj84 =>
                have H:=HA.out
                clear HA
                simp only[laws_FnExactReachAll.j2] at H
                by_cases c103:x121_84=true
                ·subst c103
                 have H1:(some false)=some r:=by rw[if_pos rfl] at H;exact H
                 clear H
                 have H:=H1
                 clear H1
                 obtain rfl:=Option.some.inj H
                 go_wp2
                 go_ret
                 exact⟨bE,bS GE327.out⟩
                ·replace c103:=Bool.eq_false_iff.mpr c103
                 subst c103
                 have H1:((laws_heldReachS.f kj84 t385 1).bind fun t408=>(if t408 < 0 then (some false) else (if t408=t384 then (some true) else (some false))))=some r:=by rw[if_neg (show ¬ (false=true) by decide)] at H;exact H
                 clear H
                 have H:=H1
                 clear H1
                 replace H:=Option.bind_eq_some_iff.mp H
                 obtain⟨t408,A1040,H⟩:=H
                 have A104:=Aside0.mk A1040
                 clear A1040
                 by_cases c105:t408 < 0
                 ·rw[if_pos c105] at H
                  have c105b0:decide (t408 < 0)=true:=decide_eq_true c105
                  clear c105
                  obtain rfl:=Option.some.inj H
                  go_wp2_with (first|((with_reducible refine gate_callee (f:=70) rfl ?_);refine goesA (some 124) rfl rfl Try.func70 #[.slice Ao86 t385.length co86,.int .i64 1] rfl ?_;(with_reducible refine(laws_heldReachS.calls kj84 _ _ t385 1 t408 _ ?side1 ?side2 A104.out).mono ?_);(case side1=>repeat (first|exact(Kd.S_reads' HO_12.out).2.2|(with_reducible refine Kd.C_alloc ?_ _)|(with_reducible refine Kd.C_drewN ?_ _)|(with_reducible refine Kd.C_drew ?_)));(case side2=>exact(Kd.S_reads' HO_12.out).2.1);rintro e w' ⟨rfl,⟨nd,rfl⟩⟩;refine⟨_,rfl,?_⟩))
                  go_ret
                  exact⟨bE,bS GE327.out⟩
                 ·rw[if_neg c105] at H
                  have c105b0:decide (t408 < 0)=false:=decide_eq_false c105
                  clear c105
                  by_cases c106:t408=t384
                  ·rw[if_pos c106] at H
                   have c106b0:(t408 == t384)=true:=beq_iff_eq.mpr c106
                   have c106b1:(t408 != t384)=false:=bne_eq_false_iff_eq.mpr c106
                   clear c106
                   obtain rfl:=Option.some.inj H
                   go_wp2_with (first|((with_reducible refine gate_callee (f:=70) rfl ?_);refine goesA (some 124) rfl rfl Try.func70 #[.slice Ao86 t385.length co86,.int .i64 1] rfl ?_;(with_reducible refine(laws_heldReachS.calls kj84 _ _ t385 1 t408 _ ?side1 ?side2 A104.out).mono ?_);(case side1=>repeat (first|exact(Kd.S_reads' HO_12.out).2.2|(with_reducible refine Kd.C_alloc ?_ _)|(with_reducible refine Kd.C_drewN ?_ _)|(with_reducible refine Kd.C_drew ?_)));(case side2=>exact(Kd.S_reads' HO_12.out).2.1);rintro e w' ⟨rfl,⟨nd,rfl⟩⟩;refine⟨_,rfl,?_⟩))
                   go_ret
                   exact⟨bE,bS GE327.out⟩
                  ·rw[if_neg c106] at H
                   have c106b0:(t408 == t384)=false:=beq_eq_false_iff_ne.mpr c106
                   have c106b1:(t408 != t384)=true:=bne_iff_ne.mpr c106
                   obtain rfl:=Option.some.inj H
                   go_wp2_with (first|((with_reducible refine gate_callee (f:=70) rfl ?_);refine goesA (some 124) rfl rfl Try.func70 #[.slice Ao86 t385.length co86,.int .i64 1] rfl ?_;(with_reducible refine(laws_heldReachS.calls kj84 _ _ t385 1 t408 _ ?side1 ?side2 A104.out).mono ?_);(case side1=>repeat (first|exact(Kd.S_reads' HO_12.out).2.2|(with_reducible refine Kd.C_alloc ?_ _)|(with_reducible refine Kd.C_drewN ?_ _)|(with_reducible refine Kd.C_drew ?_)));(case side2=>exact(Kd.S_reads' HO_12.out).2.1);rintro e w' ⟨rfl,⟨nd,rfl⟩⟩;refine⟨_,rfl,?_⟩))
                   go_ret
                   exact⟨bE,bS GE327.out⟩
             ·rw[if_neg c80] at H
              have c80b0:(t386 == t384)=false:=beq_eq_false_iff_ne.mpr c80
              have c80b1:(t386 != t384)=true:=bne_iff_ne.mpr c80
              obtain rfl:=Option.some.inj H
              obtain⟨Ao107,co107,eo107⟩:=Kd.S_slice HO_12.out
              subst eo107
              go_wp2_with (first|((with_reducible refine gate_callee (f:=69) rfl ?_);refine goesA (some 94) rfl rfl Try.func69 #[.slice Ao107 t366.length co107,.int .i64 1] rfl ?_;(with_reducible refine(laws_markReachS.calls kj56 (fun k_=>AP2_ k_) (.slice Ao107 t366.length co107) t366 1 t384 t385 w _ ?side1 ?side2 A75.out).mono ?_);(case side1=>repeat (first|(with_reducible first|exact HB.out|apply below_alloc|apply pw_below_drewN|apply below_drew1|refine below_set ?_ GE327.out)|exact HB.out));(case side2=>exact HO_12.out);rintro e w108 ⟨rfl,hy0,hb,hkp⟩;refine⟨_,rfl,?_⟩;have n0_:=Aside0.mk (Kd.S_mono (ok':=fun k_=>AP1_ k_) (Kd.S_keptB (HO_8.out) hkp (fun k_ hk_ hs_=>HAP_.out k_ hk_ hs_)) (fun k_ hk_=>hk_.1));have n1_:=Aside0.mk hy0;have n2_:=Aside0.mk (blk_kept (bL BK327.out) hkp HNB_.out);have n3_:=Aside0.mk (hb);clear HO_8 HO_12 BK327 HB;have HO_8:=n0_;have HO_12:=n1_;have BK327:=n2_;have HB:=n3_;clear n0_ n1_ n2_ n3_;(try clear hb);(try clear hkp);(try clear hy0))|((with_reducible refine gate_callee (f:=70) rfl ?_);refine goesL_ (some 97) rfl rfl Try.func70 (by kernel_rfl) rfl #[.slice Ao107 t385.length co107,.int .i64 1] rfl (by(try simp only[List.map_toArray,List.map_cons,List.map_nil]);first|done|(rw[show t385.length=t366.length from (Kd.S_reads' HO_12.out).1.symm]<;>rfl)|rfl|(simp only[List.length_drop,List.length_take];rfl)) ?_;(with_reducible refine(laws_heldReachS.calls kj56 _ _ t385 1 t386 _ ?side1 ?side2 A76.out).mono ?_);(case side1=>repeat (first|exact(Kd.S_reads' HO_12.out).2.2|(with_reducible refine Kd.C_alloc ?_ _)|(with_reducible refine Kd.C_drewN ?_ _)|(with_reducible refine Kd.C_drew ?_)));(case side2=>rw[show t385.length=t366.length from (Kd.S_reads' HO_12.out).1.symm];exact(Kd.S_reads' HO_12.out).2.1);rintro e w' ⟨rfl,⟨nd,rfl⟩⟩;refine⟨_,rfl,?_⟩))
              go_ret
              exact⟨bE,bS GE327.out⟩
        ·replace c54:=Bool.eq_false_iff.mpr c54
         subst c54
         have H1:(some false)=some r:=by rw[if_neg (show ¬ (false=true) by decide)] at H;exact H
         clear H
         have H:=H1
         clear H1
         obtain rfl:=Option.some.inj H
         go_wp2_with (first|((with_reducible refine gate_callee (f:=24) rfl ?_);refine goesA (some 65) rfl rfl Try.func24 #[.slice A0 l0.length c0] rfl ?_;(with_reducible refine(laws_toContactS.calls kj21 _ _ l0 t371 _ ?side1 ?side2 A49.out).mono ?_);(case side1=>exact bC HR0.out);(case side2=>exact HC0.out);rintro e w109 ⟨v372,rfl,ho0,hb⟩;refine⟨_,rfl,?_⟩;have n0_:=Aside0.mk (Kd.S_below (by(with_reducible repeat (first|apply Kd.S_alloc|apply Kd.S_drewN|apply Kd.S_drew));exact HO_8.out) hb);have n1_:=Aside0.mk (Kd.R_elder' (bK HO_10.out) (Kd.R_base ho0) hb);have n2_:=Aside0.mk (Kd.R_below (bK HO_11.out) hb);have n3_:=Aside0.mk (Kd.S_below (by(with_reducible repeat (first|apply Kd.S_alloc|apply Kd.S_drewN|apply Kd.S_drew));exact HO_12.out) hb);have n4_:=Aside0.mk (Kd.R_lower (Kd.R_new' ho0 (Kd.R_lt (bK HO_10.out))) (below_size (bS GE327.out)));have n5_:=Aside0.mk (bM BK327.out hb);have n6_:=Aside0.mk (below_step (bS GE327.out) hb);clear HO_8 HO_10 HO_11 HO_12 BK327 HB;have HO_8:=n0_;have HO_10:=n1_;have HO_11:=n2_;have HO_12:=n3_;have HO373:=n4_;have BK327:=n5_;have HB:=n6_;clear n0_ n1_ n2_ n3_ n4_ n5_ n6_;(try clear hb);(try clear hb2);(try clear hk);(try clear hi);(try clear ho0);obtain⟨Ao110,co110,eo110⟩:=Kd.R_slice HO373.out;subst eo110)|((with_reducible refine gate_callee (f:=27) rfl ?_);refine goesA (some 66) rfl rfl Try.func27 #[.slice Ao37 t350.length co37,.slice Ao110 t371.length co110] rfl ?_;(with_reducible refine(laws_eqContactS.calls kj21 _ _ t350 _ _ t371 true _ ?side1 ?side2 ?side3 ?side4 A50.out).mono ?_);(case side1=>exact bT HO_10.out);(case side2=>exact(Kd.R_reads' HO_10.out).2.1);(case side3=>exact bT HO373.out);(case side4=>exact(Kd.R_reads' HO373.out).2.1);rintro e w111 ⟨rfl,hb⟩;refine⟨_,rfl,?_⟩;have n0_:=Aside0.mk (Kd.S_below (by(with_reducible repeat (first|apply Kd.S_alloc|apply Kd.S_drewN|apply Kd.S_drew));exact HO_8.out) hb);have n1_:=Aside0.mk (Kd.R_below (bK HO_10.out) hb);have n2_:=Aside0.mk (Kd.R_below (bK HO_11.out) hb);have n3_:=Aside0.mk (Kd.S_below (by(with_reducible repeat (first|apply Kd.S_alloc|apply Kd.S_drewN|apply Kd.S_drew));exact HO_12.out) hb);have n4_:=Aside0.mk (Kd.R_below (bK HO373.out) hb);have n5_:=Aside0.mk (bM BK327.out hb);have n6_:=Aside0.mk (below_step (bS GE327.out) hb);clear HO_8 HO_10 HO_11 HO_12 HO373 BK327 HB;have HO_8:=n0_;have HO_10:=n1_;have HO_11:=n2_;have HO_12:=n3_;have HO373:=n4_;have BK327:=n5_;have HB:=n6_;clear n0_ n1_ n2_ n3_ n4_ n5_ n6_;(try clear hb);(try clear hb2);(try clear hk);(try clear hi))|((with_reducible refine gate_callee (f:=32) rfl ?_);refine goesA (some 70) rfl rfl Try.func32 #[.slice A2 l2.length c2] rfl ?_;(with_reducible refine(laws_toIntS.calls kj21 _ _ l2 t375 _ ?side1 ?side2 A52.out).mono ?_);(case side1=>exact bC HR2.out);(case side2=>exact HC2.out);rintro e w112 ⟨v376,rfl,ho0,hb⟩;refine⟨_,rfl,?_⟩;have n0_:=Aside0.mk (Kd.S_elder' (by(with_reducible repeat (first|apply Kd.S_alloc|apply Kd.S_drewN|apply Kd.S_drew));exact HO_8.out) (Kd.R_base ho0) hb);have n1_:=Aside0.mk (Kd.R_below (bK HO_10.out) hb);have n2_:=Aside0.mk (Kd.R_elder' (bK HO_11.out) (Kd.R_base ho0) hb);have n3_:=Aside0.mk (Kd.S_elder' (by(with_reducible repeat (first|apply Kd.S_alloc|apply Kd.S_drewN|apply Kd.S_drew));exact HO_12.out) (Kd.R_base ho0) hb);have n4_:=Aside0.mk (Kd.R_below (bK HO373.out) hb);have n5_:=Aside0.mk (Kd.R_lower (Kd.R_new' ho0 (Kd.R_lt (bK HO_11.out))) (below_size (bS GE327.out)));have n6_:=Aside0.mk (bM BK327.out hb);have n7_:=Aside0.mk (below_step (bS GE327.out) hb);clear HO_8 HO_10 HO_11 HO_12 HO373 BK327 HB;have HO_8:=n0_;have HO_10:=n1_;have HO_11:=n2_;have HO_12:=n3_;have HO373:=n4_;have HO377:=n5_;have BK327:=n6_;have HB:=n7_;clear n0_ n1_ n2_ n3_ n4_ n5_ n6_ n7_;(try clear hb);(try clear hb2);(try clear hk);(try clear hi);(try clear ho0);obtain⟨Ao113,co113,eo113⟩:=Kd.R_slice HO377.out;subst eo113)|((with_reducible refine gate_callee (f:=26) rfl ?_);refine goesA (some 71) rfl rfl Try.func26 #[.slice Ao38 t353.length co38,.slice Ao113 t375.length co113] rfl ?_;(with_reducible refine(laws_eqIntS.calls kj21 _ _ t353 _ _ t375 false _ ?side1 ?side2 ?side3 ?side4 A53.out).mono ?_);(case side1=>exact bT HO_11.out);(case side2=>exact(Kd.R_reads' HO_11.out).2.1);(case side3=>exact bT HO377.out);(case side4=>exact(Kd.R_reads' HO377.out).2.1);rintro e w' ⟨rfl,⟨nd,rfl⟩⟩;refine⟨_,rfl,?_⟩))
         go_ret
         exact⟨bE,bS GE327.out⟩
       ·replace c51:=Bool.eq_false_iff.mpr c51
        subst c51
        have H1:(some false)=some r:=by rw[if_neg (show ¬ (false=true) by decide)] at H;exact H
        clear H
        have H:=H1
        clear H1
        obtain rfl:=Option.some.inj H
        go_wp2_with (first|((with_reducible refine gate_callee (f:=24) rfl ?_);refine goesA (some 65) rfl rfl Try.func24 #[.slice A0 l0.length c0] rfl ?_;(with_reducible refine(laws_toContactS.calls kj21 _ _ l0 t371 _ ?side1 ?side2 A49.out).mono ?_);(case side1=>exact bC HR0.out);(case side2=>exact HC0.out);rintro e w114 ⟨v372,rfl,ho0,hb⟩;refine⟨_,rfl,?_⟩;have n0_:=Aside0.mk (Kd.S_below (by(with_reducible repeat (first|apply Kd.S_alloc|apply Kd.S_drewN|apply Kd.S_drew));exact HO_8.out) hb);have n1_:=Aside0.mk (Kd.R_elder' (bK HO_10.out) (Kd.R_base ho0) hb);have n2_:=Aside0.mk (Kd.R_below (bK HO_11.out) hb);have n3_:=Aside0.mk (Kd.S_below (by(with_reducible repeat (first|apply Kd.S_alloc|apply Kd.S_drewN|apply Kd.S_drew));exact HO_12.out) hb);have n4_:=Aside0.mk (Kd.R_lower (Kd.R_new' ho0 (Kd.R_lt (bK HO_10.out))) (below_size (bS GE327.out)));have n5_:=Aside0.mk (bM BK327.out hb);have n6_:=Aside0.mk (below_step (bS GE327.out) hb);clear HO_8 HO_10 HO_11 HO_12 BK327 HB;have HO_8:=n0_;have HO_10:=n1_;have HO_11:=n2_;have HO_12:=n3_;have HO373:=n4_;have BK327:=n5_;have HB:=n6_;clear n0_ n1_ n2_ n3_ n4_ n5_ n6_;(try clear hb);(try clear hb2);(try clear hk);(try clear hi);(try clear ho0);obtain⟨Ao115,co115,eo115⟩:=Kd.R_slice HO373.out;subst eo115)|((with_reducible refine gate_callee (f:=27) rfl ?_);refine goesA (some 66) rfl rfl Try.func27 #[.slice Ao37 t350.length co37,.slice Ao115 t371.length co115] rfl ?_;(with_reducible refine(laws_eqContactS.calls kj21 _ _ t350 _ _ t371 false _ ?side1 ?side2 ?side3 ?side4 A50.out).mono ?_);(case side1=>exact bT HO_10.out);(case side2=>exact(Kd.R_reads' HO_10.out).2.1);(case side3=>exact bT HO373.out);(case side4=>exact(Kd.R_reads' HO373.out).2.1);rintro e w116 ⟨rfl,hb⟩;refine⟨_,rfl,?_⟩;have n0_:=Aside0.mk (Kd.S_below (by(with_reducible repeat (first|apply Kd.S_alloc|apply Kd.S_drewN|apply Kd.S_drew));exact HO_8.out) hb);have n1_:=Aside0.mk (Kd.R_below (bK HO_10.out) hb);have n2_:=Aside0.mk (Kd.R_below (bK HO_11.out) hb);have n3_:=Aside0.mk (Kd.S_below (by(with_reducible repeat (first|apply Kd.S_alloc|apply Kd.S_drewN|apply Kd.S_drew));exact HO_12.out) hb);have n4_:=Aside0.mk (Kd.R_below (bK HO373.out) hb);have n5_:=Aside0.mk (bM BK327.out hb);have n6_:=Aside0.mk (below_step (bS GE327.out) hb);clear HO_8 HO_10 HO_11 HO_12 HO373 BK327 HB;have HO_8:=n0_;have HO_10:=n1_;have HO_11:=n2_;have HO_12:=n3_;have HO373:=n4_;have BK327:=n5_;have HB:=n6_;clear n0_ n1_ n2_ n3_ n4_ n5_ n6_;(try clear hb);(try clear hb2);(try clear hk);(try clear hi)))
        go_ret
        exact⟨bE,bS GE327.out⟩

end Go.Proofs.Yteneeohaoplpbaa.XFnExactReachAll
