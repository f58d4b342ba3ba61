-- Written by this session's own program (wip/xprint.py) out of the translation; Lean checks it.
import Derived.Test.YteneeohaoplpbaaXFnExactDeliveredByx0
import Derived.Test.YteneeohaoplpbaaXFnExactDeliveredByx1
import Derived.Test.YteneeohaoplpbaaXFnExactDeliveredByx2
import Derived.Test.YteneeohaoplpbaaXFnExactDeliveredByx6
import Derived.Test.YteneeohaoplpbaaXFnExactDeliveredByx12
namespace Go.Proofs.Yteneeohaoplpbaa.XFnExactDeliveredBy
open Go.RowKit Go.Proofs.YteneeohaoplpbaaW.PrintWords Go.Proofs.YteneeohaoplpbaaW.PrintLast Go.Proofs.YteneeohaoplpbaaW.PrintMore
attribute [local go_sem] max2_int min2_int max_two min_two max_three min_three max_four min_four   -- for this text's walks alone
set_option linter.unusedVariables false
set_option linter.unusedSimpArgs false

/-! ### laws_FnExactDeliveredBy: function 11 -/
mutual
def laws_FnExactDeliveredBy.j0:Nat→List (S125)→List Int→Int→List Int→Bool→List (S104)→List Int→List Int→Bool→Bool→Int→Int→Bool→Int→Int→Int→Int→Int→Int→ByteArray→Option (Bool)
 | 0,_,_,_,_,_,_,_,_,_,_,_,_,_,_,_,_,_,_,_,_=>none
 | k+1,x0,x2,x3,x10,x11,x12,x13,x14,x15,x66,x338000,x338001,x338002,x338003,x338004,x338005,x338006,x338007,x338008,x338009=>if x66=true then (some false) else ((laws_toContactS.f k x0).bind fun t381=>((laws_eqContactS.f k x12 t381).bind fun t384=>(if t384=true then ((laws_toIntS.f k x2).bind fun t385=>((laws_eqIntS.f k x13 t385).bind fun t388=>(if t388=true then ((laws_markContactS.f k x12 1).bind fun bt389=>((laws_markIntS.f k x13 bt389.1).bind fun bt391=>(if bt391.1 < 0 then (laws_FnExactDeliveredBy.j1 k x0 x2 x3 x10 x11 x14 true x338000 x338001 x338002 x338003 x338004 x338005 x338006 x338007 x338008 x338009) else ((laws_eqIntS.f k x14 x10).bind fun t393=>(if t393=true then (laws_FnExactDeliveredBy.j1 k x0 x2 x3 x10 x11 x14 (x15 != x11) x338000 x338001 x338002 x338003 x338004 x338005 x338006 x338007 x338008 x338009) else (laws_FnExactDeliveredBy.j1 k x0 x2 x3 x10 x11 x14 true x338000 x338001 x338002 x338003 x338004 x338005 x338006 x338007 x338008 x338009)))))) else (some false)))) else (some false))))
def laws_FnExactDeliveredBy.j1:Nat→List (S125)→List Int→Int→List Int→Bool→List Int→Bool→Int→Int→Bool→Int→Int→Int→Int→Int→Int→ByteArray→Option (Bool)
 | 0,_,_,_,_,_,_,_,_,_,_,_,_,_,_,_,_,_=>none
 | k+1,x0,x2,x3,x10,x11,x14,x95,x338000,x338001,x338002,x338003,x338004,x338005,x338006,x338007,x338008,x338009=>if x95=true then (some false) else ((laws_markIntS.f k x14 1).bind fun bt394=>((laws_heldIntS.f k bt394.2 1).bind fun t396=>(if t396 < 0 then (some false) else (if t396=bt394.1 then ((laws_toContactS.f k x0).bind fun t397=>((laws_toBundle.f x338000 x338001 x338002 x338003 x338004 x338005 x338006 x338007 x338008 x338009).bind fun bt400=>((laws_toIntS.f k x2).bind fun t410=>((impl_DeliveredBy.f k t397 bt400.1 bt400.2.1 bt400.2.2.1 bt400.2.2.2.1 bt400.2.2.2.2.1 bt400.2.2.2.2.2.1 bt400.2.2.2.2.2.2.1 bt400.2.2.2.2.2.2.2.1 bt400.2.2.2.2.2.2.2.2.1 bt400.2.2.2.2.2.2.2.2.2 t410 x3).bind fun bt413=>((laws_eqIntS.f k bt413.1 x10).bind fun t417=>(if t417=true then (laws_FnExactDeliveredBy.j2 k bt394.2 bt394.1 (bt413.2 != x11)) else (laws_FnExactDeliveredBy.j2 k bt394.2 bt394.1 true))))))) else (some false)))))
def laws_FnExactDeliveredBy.j2:Nat→List Int→Int→Bool→Option (Bool)
 | 0,_,_,_=>none
 | k+1,x14,x17,x126=>if x126=true then (some false) else ((laws_heldIntS.f k x14 1).bind fun t418=>(if t418 < 0 then (some false) else (if t418=x17 then (some true) else (some false))))
end
def laws_FnExactDeliveredBy.f (k:Nat) (l0:List (S125)) (a1_0:Int) (a1_1:Int) (a1_2:Bool) (a1_3:Int) (a1_4:Int) (a1_5:Int) (a1_6:Int) (a1_7:Int) (a1_8:Int) (a1_9:ByteArray) (l2:List Int) (a3:Int):Option (Bool):=if (l2.length:Int) > 1048576 then (some true) else ((laws_szContactS.f l0 1048576).bind fun t338=>(if t338 < 0 then (some true) else ((laws_szBundle.f a1_0 a1_1 a1_2 a1_3 a1_4 a1_5 a1_6 a1_7 a1_8 a1_9 t338).bind fun t339=>(if t339 < 0 then (some true) else ((laws_toContactS.f k l0).bind fun t340=>((laws_toBundle.f a1_0 a1_1 a1_2 a1_3 a1_4 a1_5 a1_6 a1_7 a1_8 a1_9).bind fun bt343=>((laws_toIntS.f k l2).bind fun t353=>((spec_DeliveredBy.f k t340 bt343.1 bt343.2.1 bt343.2.2.1 bt343.2.2.2.1 bt343.2.2.2.2.1 bt343.2.2.2.2.2.1 bt343.2.2.2.2.2.2.1 bt343.2.2.2.2.2.2.2.1 bt343.2.2.2.2.2.2.2.2.1 bt343.2.2.2.2.2.2.2.2.2 t353 a3).bind fun bt356=>((laws_toContactS.f k l0).bind fun t360=>((laws_toIntS.f k l2).bind fun t363=>((laws_toBundle.f a1_0 a1_1 a1_2 a1_3 a1_4 a1_5 a1_6 a1_7 a1_8 a1_9).bind fun bt366=>((impl_DeliveredBy.f k t360 bt366.1 bt366.2.1 bt366.2.2.1 bt366.2.2.2.1 bt366.2.2.2.2.1 bt366.2.2.2.2.2.1 bt366.2.2.2.2.2.2.1 bt366.2.2.2.2.2.2.2.1 bt366.2.2.2.2.2.2.2.2.1 bt366.2.2.2.2.2.2.2.2.2 t363 a3).bind fun bt376=>((laws_eqIntS.f k bt376.1 bt356.1).bind fun t380=>(if t380=true then (laws_FnExactDeliveredBy.j0 k l0 l2 a3 bt356.1 bt356.2 t360 t363 bt376.1 bt376.2 (bt376.2 != bt356.2) a1_0 a1_1 a1_2 a1_3 a1_4 a1_5 a1_6 a1_7 a1_8 a1_9) else (laws_FnExactDeliveredBy.j0 k l0 l2 a3 bt356.1 bt356.2 t360 t363 bt376.1 bt376.2 true a1_0 a1_1 a1_2 a1_3 a1_4 a1_5 a1_6 a1_7 a1_8 a1_9)))))))))))))))
theorem laws_FnExactDeliveredBy.mono_l : ∀ k,(∀ y0 y1 y2 y3 y4 y5 y6 y7 y8 y9 y10 y11 y12 y13 y14 y15 y16 y17 y18 y19,LeO (laws_FnExactDeliveredBy.j0 k y0 y1 y2 y3 y4 y5 y6 y7 y8 y9 y10 y11 y12 y13 y14 y15 y16 y17 y18 y19) (laws_FnExactDeliveredBy.j0 (k+1) y0 y1 y2 y3 y4 y5 y6 y7 y8 y9 y10 y11 y12 y13 y14 y15 y16 y17 y18 y19))∧(∀ y0 y1 y2 y3 y4 y5 y6 y7 y8 y9 y10 y11 y12 y13 y14 y15 y16,LeO (laws_FnExactDeliveredBy.j1 k y0 y1 y2 y3 y4 y5 y6 y7 y8 y9 y10 y11 y12 y13 y14 y15 y16) (laws_FnExactDeliveredBy.j1 (k+1) y0 y1 y2 y3 y4 y5 y6 y7 y8 y9 y10 y11 y12 y13 y14 y15 y16))∧(∀ y0 y1 y2,LeO (laws_FnExactDeliveredBy.j2 k y0 y1 y2) (laws_FnExactDeliveredBy.j2 (k+1) y0 y1 y2))
 | 0=>⟨fun _ _ _ _ _ _ _ _ _ _ _ _ _ _ _ _ _ _ _ _ r h=>by simp[laws_FnExactDeliveredBy.j0] at h,fun _ _ _ _ _ _ _ _ _ _ _ _ _ _ _ _ _ r h=>by simp[laws_FnExactDeliveredBy.j1] at h,fun _ _ _ r h=>by simp[laws_FnExactDeliveredBy.j2] at h⟩
 | k+1=>by
  obtain⟨ih0,ih1,ih2⟩:=laws_FnExactDeliveredBy.mono_l k
  refine⟨?_,?_,?_⟩
  ·intro y0 y1 y2 y3 y4 y5 y6 y7 y8 y9 y10 y11 y12 y13 y14 y15 y16 y17 y18 y19
   unfold laws_FnExactDeliveredBy.j0
   repeat' first
   | (with_reducible exact ih0 _ _ _ _ _ _ _ _ _ _ _ _ _ _ _ _ _ _ _ _)
   | (with_reducible exact ih1 _ _ _ _ _ _ _ _ _ _ _ _ _ _ _ _ _)
   | (with_reducible exact ih2 _ _ _)
   | (with_reducible exact impl_DeliveredBy.mono _ _ _ _ _ _ _ _ _ _ _ _ _ _)
   | (with_reducible exact laws_eqContactS.mono _ _ _)
   | (with_reducible exact laws_eqIntS.mono _ _ _)
   | (with_reducible exact laws_heldIntS.mono _ _ _)
   | (with_reducible exact laws_markContactS.mono _ _ _)
   | (with_reducible exact laws_markIntS.mono _ _ _)
   | (with_reducible exact laws_toContactS.mono _ _)
   | (with_reducible exact laws_toIntS.mono _ _)
   | (with_reducible exact spec_DeliveredBy.mono _ _ _ _ _ _ _ _ _ _ _ _ _ _)
   | (with_reducible exact LeO.refl _)
   | (with_reducible exact LeO.none _)
   | (with_reducible refine LeO.ite ?_ ?_)
   | (with_reducible refine LeO.bind ?_ (fun _ => ?_))
   | exact ih0 _ _ _ _ _ _ _ _ _ _ _ _ _ _ _ _ _ _ _ _
   | exact ih1 _ _ _ _ _ _ _ _ _ _ _ _ _ _ _ _ _
   | exact ih2 _ _ _
   | exact impl_DeliveredBy.mono _ _ _ _ _ _ _ _ _ _ _ _ _ _
   | exact laws_eqContactS.mono _ _ _
   | exact laws_eqIntS.mono _ _ _
   | exact laws_heldIntS.mono _ _ _
   | exact laws_markContactS.mono _ _ _
   | exact laws_markIntS.mono _ _ _
   | exact laws_toContactS.mono _ _
   | exact laws_toIntS.mono _ _
   | exact spec_DeliveredBy.mono _ _ _ _ _ _ _ _ _ _ _ _ _ _
   | exact LeO.none _
   | refine LeO.ite ?_ ?_
   | refine LeO.bind ?_ (fun _ => ?_)
  ·intro y0 y1 y2 y3 y4 y5 y6 y7 y8 y9 y10 y11 y12 y13 y14 y15 y16
   unfold laws_FnExactDeliveredBy.j1
   repeat' first
   | (with_reducible exact ih0 _ _ _ _ _ _ _ _ _ _ _ _ _ _ _ _ _ _ _ _)
   | (with_reducible exact ih1 _ _ _ _ _ _ _ _ _ _ _ _ _ _ _ _ _)
   | (with_reducible exact ih2 _ _ _)
   | (with_reducible exact impl_DeliveredBy.mono _ _ _ _ _ _ _ _ _ _ _ _ _ _)
   | (with_reducible exact laws_eqContactS.mono _ _ _)
   | (with_reducible exact laws_eqIntS.mono _ _ _)
   | (with_reducible exact laws_heldIntS.mono _ _ _)
   | (with_reducible exact laws_markContactS.mono _ _ _)
   | (with_reducible exact laws_markIntS.mono _ _ _)
   | (with_reducible exact laws_toContactS.mono _ _)
   | (with_reducible exact laws_toIntS.mono _ _)
   | (with_reducible exact spec_DeliveredBy.mono _ _ _ _ _ _ _ _ _ _ _ _ _ _)
   | (with_reducible exact LeO.refl _)
   | (with_reducible exact LeO.none _)
   | (with_reducible refine LeO.ite ?_ ?_)
   | (with_reducible refine LeO.bind ?_ (fun _ => ?_))
   | exact ih0 _ _ _ _ _ _ _ _ _ _ _ _ _ _ _ _ _ _ _ _
   | exact ih1 _ _ _ _ _ _ _ _ _ _ _ _ _ _ _ _ _
   | exact ih2 _ _ _
   | exact impl_DeliveredBy.mono _ _ _ _ _ _ _ _ _ _ _ _ _ _
   | exact laws_eqContactS.mono _ _ _
   | exact laws_eqIntS.mono _ _ _
   | exact laws_heldIntS.mono _ _ _
   | exact laws_markContactS.mono _ _ _
   | exact laws_markIntS.mono _ _ _
   | exact laws_toContactS.mono _ _
   | exact laws_toIntS.mono _ _
   | exact spec_DeliveredBy.mono _ _ _ _ _ _ _ _ _ _ _ _ _ _
   | exact LeO.none _
   | refine LeO.ite ?_ ?_
   | refine LeO.bind ?_ (fun _ => ?_)
  ·intro y0 y1 y2
   unfold laws_FnExactDeliveredBy.j2
   repeat' first
   | (with_reducible exact ih0 _ _ _ _ _ _ _ _ _ _ _ _ _ _ _ _ _ _ _ _)
   | (with_reducible exact ih1 _ _ _ _ _ _ _ _ _ _ _ _ _ _ _ _ _)
   | (with_reducible exact ih2 _ _ _)
   | (with_reducible exact impl_DeliveredBy.mono _ _ _ _ _ _ _ _ _ _ _ _ _ _)
   | (with_reducible exact laws_eqContactS.mono _ _ _)
   | (with_reducible exact laws_eqIntS.mono _ _ _)
   | (with_reducible exact laws_heldIntS.mono _ _ _)
   | (with_reducible exact laws_markContactS.mono _ _ _)
   | (with_reducible exact laws_markIntS.mono _ _ _)
   | (with_reducible exact laws_toContactS.mono _ _)
   | (with_reducible exact laws_toIntS.mono _ _)
   | (with_reducible exact spec_DeliveredBy.mono _ _ _ _ _ _ _ _ _ _ _ _ _ _)
   | (with_reducible exact LeO.refl _)
   | (with_reducible exact LeO.none _)
   | (with_reducible refine LeO.ite ?_ ?_)
   | (with_reducible refine LeO.bind ?_ (fun _ => ?_))
   | exact ih0 _ _ _ _ _ _ _ _ _ _ _ _ _ _ _ _ _ _ _ _
   | exact ih1 _ _ _ _ _ _ _ _ _ _ _ _ _ _ _ _ _
   | exact ih2 _ _ _
   | exact impl_DeliveredBy.mono _ _ _ _ _ _ _ _ _ _ _ _ _ _
   | exact laws_eqContactS.mono _ _ _
   | exact laws_eqIntS.mono _ _ _
   | exact laws_heldIntS.mono _ _ _
   | exact laws_markContactS.mono _ _ _
   | exact laws_markIntS.mono _ _ _
   | exact laws_toContactS.mono _ _
   | exact laws_toIntS.mono _ _
   | exact spec_DeliveredBy.mono _ _ _ _ _ _ _ _ _ _ _ _ _ _
   | exact LeO.none _
   | refine LeO.ite ?_ ?_
   | refine LeO.bind ?_ (fun _ => ?_)
theorem laws_FnExactDeliveredBy.mono : ∀ a0 a1 a2 a3 a4 a5 a6 a7 a8 a9 a10 a11 a12 k,LeO (laws_FnExactDeliveredBy.f k a0 a1 a2 a3 a4 a5 a6 a7 a8 a9 a10 a11 a12) (laws_FnExactDeliveredBy.f (k+1) a0 a1 a2 a3 a4 a5 a6 a7 a8 a9 a10 a11 a12):=by
 intro a0 a1 a2 a3 a4 a5 a6 a7 a8 a9 a10 a11 a12 k
 obtain⟨ih0,ih1,ih2⟩:=laws_FnExactDeliveredBy.mono_l k
 unfold laws_FnExactDeliveredBy.f
 repeat' first
  | (with_reducible exact ih0 _ _ _ _ _ _ _ _ _ _ _ _ _ _ _ _ _ _ _ _)
  | (with_reducible exact ih1 _ _ _ _ _ _ _ _ _ _ _ _ _ _ _ _ _)
  | (with_reducible exact ih2 _ _ _)
  | (with_reducible exact impl_DeliveredBy.mono _ _ _ _ _ _ _ _ _ _ _ _ _ _)
  | (with_reducible exact laws_eqContactS.mono _ _ _)
  | (with_reducible exact laws_eqIntS.mono _ _ _)
  | (with_reducible exact laws_heldIntS.mono _ _ _)
  | (with_reducible exact laws_markContactS.mono _ _ _)
  | (with_reducible exact laws_markIntS.mono _ _ _)
  | (with_reducible exact laws_toContactS.mono _ _)
  | (with_reducible exact laws_toIntS.mono _ _)
  | (with_reducible exact spec_DeliveredBy.mono _ _ _ _ _ _ _ _ _ _ _ _ _ _)
  | (with_reducible exact LeO.refl _)
  | (with_reducible exact LeO.none _)
  | (with_reducible refine LeO.ite ?_ ?_)
  | (with_reducible refine LeO.bind ?_ (fun _ => ?_))
  | exact ih0 _ _ _ _ _ _ _ _ _ _ _ _ _ _ _ _ _ _ _ _
  | exact ih1 _ _ _ _ _ _ _ _ _ _ _ _ _ _ _ _ _
  | exact ih2 _ _ _
  | exact impl_DeliveredBy.mono _ _ _ _ _ _ _ _ _ _ _ _ _ _
  | exact laws_eqContactS.mono _ _ _
  | exact laws_eqIntS.mono _ _ _
  | exact laws_heldIntS.mono _ _ _
  | exact laws_markContactS.mono _ _ _
  | exact laws_markIntS.mono _ _ _
  | exact laws_toContactS.mono _ _
  | exact laws_toIntS.mono _ _
  | exact spec_DeliveredBy.mono _ _ _ _ _ _ _ _ _ _ _ _ _ _
  | exact LeO.none _
  | refine LeO.ite ?_ ?_
  | refine LeO.bind ?_ (fun _ => ?_)
def laws_FnExactDeliveredBy.T10:Bool × List (List Nat × List Nat):=(true,[([],[]),([0],[0]),([],[]),([2,1],[2]),([],[]),([4,3],[4]),([],[]),([1,3,5,6,5],[1,3,5,6]),([7],[7]),([8],[8]),([8],[8]),([9,7,0,1,2,3,4,5,6,7,8,9],[9]),([10,11,0,1,2,3,4,5,6,7,8,9,10,11],[10])])
def laws_FnExactDeliveredBy.B10:List Nat:=[0,1,0,7,0,31,0,127,255,511,511,1023,4095]
theorem laws_FnExactDeliveredBy.tab10:rtab .any (opsOf Try.f11 10)=laws_FnExactDeliveredBy.T10:=by kernel_rfl
theorem laws_FnExactDeliveredBy.bits10:waitsOk laws_FnExactDeliveredBy.T10.2 laws_FnExactDeliveredBy.B10=true:=by kernel_rfl
def laws_FnExactDeliveredBy.T33:Bool × List (List Nat × List Nat):=(true,[([],[]),([0],[0]),([],[]),([2,1],[2]),([],[]),([4,3],[4]),([],[]),([1,3,5,6,5],[1,3,5,6]),([7],[7]),([8],[8]),([8],[8]),([9,7,0,1,2,3,4,5,6,7,8,9],[9]),([10,11,0,1,2,3,4,5,6,7,8,9,10,11],[10])])
def laws_FnExactDeliveredBy.B33:List Nat:=[0,1,0,7,0,31,0,127,255,511,511,1023,4095]
theorem laws_FnExactDeliveredBy.tab33:rtab .any (opsOf Try.f11 33)=laws_FnExactDeliveredBy.T33:=by kernel_rfl
theorem laws_FnExactDeliveredBy.bits33:waitsOk laws_FnExactDeliveredBy.T33.2 laws_FnExactDeliveredBy.B33=true:=by kernel_rfl
set_option maxHeartbeats 8000000 in
set_option maxRecDepth 100000 in
theorem laws_FnExactDeliveredBy.calls (k:Nat) (A0:Option Addr) (c0:Nat) (l0:List (S125)) (a1_0:Int) (a1_1:Int) (a1_2:Bool) (a1_3:Int) (a1_4:Int) (a1_5:Int) (a1_6:Int) (a1_7:Int) (a1_8:Int) (a1_9:ByteArray) (A2:Option Addr) (c2:Nat) (l2:List Int) (a3:Int) (r:Bool) (w:World) (hr0:Kd.C k125 w A0 l0.length l0) (hc0:l0.length≤c0) (hr2:Kd.C (Kd.int .i64) w A2 l2.length l2) (hc2:l2.length≤c2) (h:laws_FnExactDeliveredBy.f k l0 a1_0 a1_1 a1_2 a1_3 a1_4 a1_5 a1_6 a1_7 a1_8 a1_9 l2 a3=some r) :
  Calls Try.prog 11 #[.slice A0 l0.length c0,.agg #[.int .i64 a1_0,.int .i64 a1_1,.bool a1_2,.int .i64 a1_3,.int .i64 a1_4,.int .i64 a1_5,.int .i64 a1_6,.int .i64 a1_7,.int .i64 a1_8,.string a1_9],.slice A2 l2.length c2,.int .i64 a3] w fun e w'=>e=.returned (.bool r)∧Below w.heap.size w w':=by
 have hu82:=Try.underlying82
 have HR0:=Aside0.mk hr0
 have HC0:=Aside0.mk hc0
 clear hr0 hc0
 have HR2:=Aside0.mk hr2
 have HC2:=Aside0.mk hc2
 clear hr2 hc2
 have HB:=Aside0.mk (Below.refl w.heap.size w)
 have H:(if (l2.length:Int) > 1048576 then (some true) else ((laws_szContactS.f l0 1048576).bind fun t338=>(if t338 < 0 then (some true) else ((laws_szBundle.f a1_0 a1_1 a1_2 a1_3 a1_4 a1_5 a1_6 a1_7 a1_8 a1_9 t338).bind fun t339=>(if t339 < 0 then (some true) else ((laws_toContactS.f k l0).bind fun t340=>((laws_toBundle.f a1_0 a1_1 a1_2 a1_3 a1_4 a1_5 a1_6 a1_7 a1_8 a1_9).bind fun bt343=>((laws_toIntS.f k l2).bind fun t353=>((spec_DeliveredBy.f k t340 bt343.1 bt343.2.1 bt343.2.2.1 bt343.2.2.2.1 bt343.2.2.2.2.1 bt343.2.2.2.2.2.1 bt343.2.2.2.2.2.2.1 bt343.2.2.2.2.2.2.2.1 bt343.2.2.2.2.2.2.2.2.1 bt343.2.2.2.2.2.2.2.2.2 t353 a3).bind fun bt356=>((laws_toContactS.f k l0).bind fun t360=>((laws_toIntS.f k l2).bind fun t363=>((laws_toBundle.f a1_0 a1_1 a1_2 a1_3 a1_4 a1_5 a1_6 a1_7 a1_8 a1_9).bind fun bt366=>((impl_DeliveredBy.f k t360 bt366.1 bt366.2.1 bt366.2.2.1 bt366.2.2.2.1 bt366.2.2.2.2.1 bt366.2.2.2.2.2.1 bt366.2.2.2.2.2.2.1 bt366.2.2.2.2.2.2.2.1 bt366.2.2.2.2.2.2.2.2.1 bt366.2.2.2.2.2.2.2.2.2 t363 a3).bind fun bt376=>((laws_eqIntS.f k bt376.1 bt356.1).bind fun t380=>(if t380=true then (laws_FnExactDeliveredBy.j0 k l0 l2 a3 bt356.1 bt356.2 t360 t363 bt376.1 bt376.2 (bt376.2 != bt356.2) a1_0 a1_1 a1_2 a1_3 a1_4 a1_5 a1_6 a1_7 a1_8 a1_9) else (laws_FnExactDeliveredBy.j0 k l0 l2 a3 bt356.1 bt356.2 t360 t363 bt376.1 bt376.2 true a1_0 a1_1 a1_2 a1_3 a1_4 a1_5 a1_6 a1_7 a1_8 a1_9))))))))))))))))=some r:=h
 clear h
 by_cases c5:(l2.length:Int) > 1048576
 ·rw[if_pos c5] at H
  have c5b0:decide (1048576 < (l2.length:Int))=true:=decide_eq_true c5
  have c5b1:decide (1048576 < l2.length)=true:=decide_eq_true (by omega)
  clear c5
  obtain rfl:=Option.some.inj H
  go_enter Try.func11,Try.ntmps11
  go_wp2_with (first|((with_reducible refine gate_dst (N:=5) rfl ?_);refine box_event ?hg (N:=5) ?hd (cs:=#[.int .i64 a1_0,.int .i64 a1_1,.bool a1_2,.int .i64 a1_3,.int .i64 a1_4,.int .i64 a1_5,.int .i64 a1_6,.int .i64 a1_7,.int .i64 a1_8,.string a1_9]) (t:=82) ?hr ?_;(case hd=>rfl);(case hg=>rfl);(case hr=>first|(go_simp;done)|(go_simp;rfl));intro gb337 hg w6 hbox hb;have n0_:=Aside0.mk (below_step (bB) hb);have n1_:=Aside0.mk (hbox);have n2_:=Aside0.mk ((bG:w.heap.size≤gb337));have n3_:=Aside0.mk ((bG:w.heap.size≤gb337));clear HB;have HB:=n0_;have BK337:=n1_;have GW337:=n2_;have GE337:=n3_;clear n0_ n1_ n2_ n3_;clear hb hbox hg))
  go_ret
  exact⟨bE,bS GE337.out⟩
 ·rw[if_neg c5] at H
  have c5b0:decide (1048576 < (l2.length:Int))=false:=decide_eq_false c5
  have c5b1:decide (1048576 < l2.length)=false:=decide_eq_false (by omega)
  clear c5
  replace H:=Option.bind_eq_some_iff.mp H
  obtain⟨t338,A70,H⟩:=H
  have A7:=Aside0.mk A70
  clear A70
  by_cases c8:t338 < 0
  ·rw[if_pos c8] at H
   have c8b0:decide (t338 < 0)=true:=decide_eq_true c8
   clear c8
   obtain rfl:=Option.some.inj H
   go_enter Try.func11,Try.ntmps11
   go_wp2_with (first|((with_reducible refine gate_dst (N:=5) rfl ?_);refine box_event ?hg (N:=5) ?hd (cs:=#[.int .i64 a1_0,.int .i64 a1_1,.bool a1_2,.int .i64 a1_3,.int .i64 a1_4,.int .i64 a1_5,.int .i64 a1_6,.int .i64 a1_7,.int .i64 a1_8,.string a1_9]) (t:=82) ?hr ?_;(case hd=>rfl);(case hg=>rfl);(case hr=>first|(go_simp;done)|(go_simp;rfl));intro gb337 hg w9 hbox hb;have n0_:=Aside0.mk (below_step (bB) hb);have n1_:=Aside0.mk (hbox);have n2_:=Aside0.mk ((bG:w.heap.size≤gb337));have n3_:=Aside0.mk ((bG:w.heap.size≤gb337));clear HB;have HB:=n0_;have BK337:=n1_;have GW337:=n2_;have GE337:=n3_;clear n0_ n1_ n2_ n3_;clear hb hbox hg)|((with_reducible refine gate_callee (f:=22) rfl ?_);refine goesA (some 26) rfl rfl Try.func22 #[.slice A0 l0.length c0,.int .i64 1048576] rfl ?_;(with_reducible refine(laws_szContactS.calls _ _ l0 1048576 t338 _ ?side1 ?side2 A7.out).mono ?_);(case side1=>exact bC HR0.out);(case side2=>exact HC0.out);rintro e w' ⟨rfl,⟨nd,rfl⟩⟩;refine⟨_,rfl,?_⟩))
   go_ret
   exact⟨bE,bS GE337.out⟩
  ·rw[if_neg c8] at H
   have c8b0:decide (t338 < 0)=false:=decide_eq_false c8
   clear c8
   replace H:=Option.bind_eq_some_iff.mp H
   obtain⟨t339,A100,H⟩:=H
   have A10:=Aside0.mk A100
   clear A100
   by_cases c11:t339 < 0
   ·rw[if_pos c11] at H
    have c11b0:decide (t339 < 0)=true:=decide_eq_true c11
    clear c11
    obtain rfl:=Option.some.inj H
    go_enter Try.func11,Try.ntmps11
    go_wp2_with (first|((with_reducible refine gate_dst (N:=5) rfl ?_);refine box_event ?hg (N:=5) ?hd (cs:=#[.int .i64 a1_0,.int .i64 a1_1,.bool a1_2,.int .i64 a1_3,.int .i64 a1_4,.int .i64 a1_5,.int .i64 a1_6,.int .i64 a1_7,.int .i64 a1_8,.string a1_9]) (t:=82) ?hr ?_;(case hd=>rfl);(case hg=>rfl);(case hr=>first|(go_simp;done)|(go_simp;rfl));intro gb337 hg w12 hbox hb;have n0_:=Aside0.mk (below_step (bB) hb);have n1_:=Aside0.mk (hbox);have n2_:=Aside0.mk ((bG:w.heap.size≤gb337));have n3_:=Aside0.mk ((bG:w.heap.size≤gb337));clear HB;have HB:=n0_;have BK337:=n1_;have GW337:=n2_;have GE337:=n3_;clear n0_ n1_ n2_ n3_;clear hb hbox hg)|((with_reducible refine gate_callee (f:=22) rfl ?_);refine goesA (some 26) rfl rfl Try.func22 #[.slice A0 l0.length c0,.int .i64 1048576] rfl ?_;(with_reducible refine(laws_szContactS.calls _ _ l0 1048576 t338 _ ?side1 ?side2 A7.out).mono ?_);(case side1=>exact bC HR0.out);(case side2=>exact HC0.out);rintro e w' ⟨rfl,⟨nd,rfl⟩⟩;refine⟨_,rfl,?_⟩;have hcz13_0:w12.cell? ⟨gb337,0,none⟩=some (.int .i64 a1_0):=(blk_cell BK337.out 0).trans rfl;have hcz13_1:w12.cell? ⟨gb337,1,none⟩=some (.int .i64 a1_1):=(blk_cell BK337.out 1).trans rfl;have hcz13_2:w12.cell? ⟨gb337,2,none⟩=some (.bool a1_2):=(blk_cell BK337.out 2).trans rfl;have hcz13_3:w12.cell? ⟨gb337,3,none⟩=some (.int .i64 a1_3):=(blk_cell BK337.out 3).trans rfl;have hcz13_4:w12.cell? ⟨gb337,4,none⟩=some (.int .i64 a1_4):=(blk_cell BK337.out 4).trans rfl;have hcz13_5:w12.cell? ⟨gb337,5,none⟩=some (.int .i64 a1_5):=(blk_cell BK337.out 5).trans rfl;have hcz13_6:w12.cell? ⟨gb337,6,none⟩=some (.int .i64 a1_6):=(blk_cell BK337.out 6).trans rfl;have hcz13_7:w12.cell? ⟨gb337,7,none⟩=some (.int .i64 a1_7):=(blk_cell BK337.out 7).trans rfl;have hcz13_8:w12.cell? ⟨gb337,8,none⟩=some (.int .i64 a1_8):=(blk_cell BK337.out 8).trans rfl;have hcz13_9:w12.cell? ⟨gb337,9,none⟩=some (.string a1_9):=(blk_cell BK337.out 9).trans rfl;have hfz13_0:=blk_frozen BK337.out 0;have hfz13_1:=blk_frozen BK337.out 1;have hfz13_2:=blk_frozen BK337.out 2;have hfz13_3:=blk_frozen BK337.out 3;have hfz13_4:=blk_frozen BK337.out 4;have hfz13_5:=blk_frozen BK337.out 5;have hfz13_6:=blk_frozen BK337.out 6;have hfz13_7:=blk_frozen BK337.out 7;have hfz13_8:=blk_frozen BK337.out 8;have hfz13_9:=blk_frozen BK337.out 9)|((with_reducible refine gate_callee (f:=51) rfl ?_);refine goesA (some 31) rfl rfl Try.func51 #[.agg #[.int .i64 a1_0,.int .i64 a1_1,.bool a1_2,.int .i64 a1_3,.int .i64 a1_4,.int .i64 a1_5,.int .i64 a1_6,.int .i64 a1_7,.int .i64 a1_8,.string a1_9],.int .i64 t338] rfl ?_;(with_reducible refine(laws_szBundle.calls a1_0 a1_1 a1_2 a1_3 a1_4 a1_5 a1_6 a1_7 a1_8 a1_9 t338 t339 _ A10.out).mono ?_);rintro e w14 ⟨rfl,hb⟩;refine⟨_,rfl,?_⟩;have n0_:=Aside0.mk (blk_below (g:=gb337) (o:=.cells #[.int .i64 a1_0,.int .i64 a1_1,.bool a1_2,.int .i64 a1_3,.int .i64 a1_4,.int .i64 a1_5,.int .i64 a1_6,.int .i64 a1_7,.int .i64 a1_8,.string a1_9] 82 (0,0)) (bL BK337.out) hb);have n1_:=Aside0.mk (below_step (bS GE337.out) hb);clear BK337 HB;have BK337:=n0_;have HB:=n1_;clear n0_ n1_;(try clear hb);(try clear hb2);(try clear hk);(try clear hi)))
    go_ret
    exact⟨bE,bS GE337.out⟩
   ·rw[if_neg c11] at H
    have c11b0:decide (t339 < 0)=false:=decide_eq_false c11
    clear c11
    replace H:=Option.bind_eq_some_iff.mp H
    obtain⟨t340,A150,H⟩:=H
    have A15:=Aside0.mk A150
    clear A150
    replace H:=Option.bind_eq_some_iff.mp H
    obtain⟨⟨t343,t344,t345,t346,t347,t348,t349,t350,t351,t352⟩,A160,H⟩:=H
    have A16:=Aside0.mk A160
    clear A160
    replace H:=Option.bind_eq_some_iff.mp H
    obtain⟨t353,A170,H⟩:=H
    have A17:=Aside0.mk A170
    clear A170
    replace H:=Option.bind_eq_some_iff.mp H
    obtain⟨⟨t356,t359⟩,A180,H⟩:=H
    have A18:=Aside0.mk A180
    clear A180
    replace H:=Option.bind_eq_some_iff.mp H
    obtain⟨t360,A190,H⟩:=H
    have A19:=Aside0.mk A190
    clear A190
    replace H:=Option.bind_eq_some_iff.mp H
    obtain⟨t363,A200,H⟩:=H
    have A20:=Aside0.mk A200
    clear A200
    replace H:=Option.bind_eq_some_iff.mp H
    obtain⟨⟨t366,t367,t368,t369,t370,t371,t372,t373,t374,t375⟩,A210,H⟩:=H
    have A21:=Aside0.mk A210
    clear A210
    replace H:=Option.bind_eq_some_iff.mp H
    obtain⟨⟨t376,t379⟩,A220,H⟩:=H
    have A22:=Aside0.mk A220
    clear A220
    have HC23:=Aside0.mk H
    clear H
    go_enter Try.func11,Try.ntmps11
    try go_wp2_with (first|((with_reducible refine gate_dst (N:=5) rfl ?_);refine box_event ?hg (N:=5) ?hd (cs:=#[.int .i64 a1_0,.int .i64 a1_1,.bool a1_2,.int .i64 a1_3,.int .i64 a1_4,.int .i64 a1_5,.int .i64 a1_6,.int .i64 a1_7,.int .i64 a1_8,.string a1_9]) (t:=82) ?hr ?_;(case hd=>rfl);(case hg=>rfl);(case hr=>first|(go_simp;done)|(go_simp;rfl));intro gb337 hg w24 hbox hb;have n0_:=Aside0.mk (below_step (bB) hb);have n1_:=Aside0.mk (hbox);have n2_:=Aside0.mk ((bG:w.heap.size≤gb337));have n3_:=Aside0.mk ((bG:w.heap.size≤gb337));clear HB;have HB:=n0_;have BK337:=n1_;have GW337:=n2_;have GE337:=n3_;clear n0_ n1_ n2_ n3_;clear hb hbox hg)|((with_reducible refine gate_callee (f:=22) rfl ?_);refine goesA (some 26) rfl rfl Try.func22 #[.slice A0 l0.length c0,.int .i64 1048576] rfl ?_;(with_reducible refine(laws_szContactS.calls _ _ l0 1048576 t338 _ ?side1 ?side2 A7.out).mono ?_);(case side1=>exact bC HR0.out);(case side2=>exact HC0.out);rintro e w' ⟨rfl,⟨nd,rfl⟩⟩;refine⟨_,rfl,?_⟩;have hcz25_0:w24.cell? ⟨gb337,0,none⟩=some (.int .i64 a1_0):=(blk_cell BK337.out 0).trans rfl;have hcz25_1:w24.cell? ⟨gb337,1,none⟩=some (.int .i64 a1_1):=(blk_cell BK337.out 1).trans rfl;have hcz25_2:w24.cell? ⟨gb337,2,none⟩=some (.bool a1_2):=(blk_cell BK337.out 2).trans rfl;have hcz25_3:w24.cell? ⟨gb337,3,none⟩=some (.int .i64 a1_3):=(blk_cell BK337.out 3).trans rfl;have hcz25_4:w24.cell? ⟨gb337,4,none⟩=some (.int .i64 a1_4):=(blk_cell BK337.out 4).trans rfl;have hcz25_5:w24.cell? ⟨gb337,5,none⟩=some (.int .i64 a1_5):=(blk_cell BK337.out 5).trans rfl;have hcz25_6:w24.cell? ⟨gb337,6,none⟩=some (.int .i64 a1_6):=(blk_cell BK337.out 6).trans rfl;have hcz25_7:w24.cell? ⟨gb337,7,none⟩=some (.int .i64 a1_7):=(blk_cell BK337.out 7).trans rfl;have hcz25_8:w24.cell? ⟨gb337,8,none⟩=some (.int .i64 a1_8):=(blk_cell BK337.out 8).trans rfl;have hcz25_9:w24.cell? ⟨gb337,9,none⟩=some (.string a1_9):=(blk_cell BK337.out 9).trans rfl;have hfz25_0:=blk_frozen BK337.out 0;have hfz25_1:=blk_frozen BK337.out 1;have hfz25_2:=blk_frozen BK337.out 2;have hfz25_3:=blk_frozen BK337.out 3;have hfz25_4:=blk_frozen BK337.out 4;have hfz25_5:=blk_frozen BK337.out 5;have hfz25_6:=blk_frozen BK337.out 6;have hfz25_7:=blk_frozen BK337.out 7;have hfz25_8:=blk_frozen BK337.out 8;have hfz25_9:=blk_frozen BK337.out 9)|((with_reducible refine gate_callee (f:=51) rfl ?_);refine goesA (some 31) rfl rfl Try.func51 #[.agg #[.int .i64 a1_0,.int .i64 a1_1,.bool a1_2,.int .i64 a1_3,.int .i64 a1_4,.int .i64 a1_5,.int .i64 a1_6,.int .i64 a1_7,.int .i64 a1_8,.string a1_9],.int .i64 t338] rfl ?_;(with_reducible refine(laws_szBundle.calls a1_0 a1_1 a1_2 a1_3 a1_4 a1_5 a1_6 a1_7 a1_8 a1_9 t338 t339 _ A10.out).mono ?_);rintro e w26 ⟨rfl,hb⟩;refine⟨_,rfl,?_⟩;have n0_:=Aside0.mk (blk_below (g:=gb337) (o:=.cells #[.int .i64 a1_0,.int .i64 a1_1,.bool a1_2,.int .i64 a1_3,.int .i64 a1_4,.int .i64 a1_5,.int .i64 a1_6,.int .i64 a1_7,.int .i64 a1_8,.string a1_9] 82 (0,0)) (bL BK337.out) hb);have n1_:=Aside0.mk (below_step (bS GE337.out) hb);clear BK337 HB;have BK337:=n0_;have HB:=n1_;clear n0_ n1_;(try clear hb);(try clear hb2);(try clear hk);(try clear hi)))
    (try (rw[drewN_self w26];generalize hq_:World.drewN w26 _=w26;have n0_:=Aside0.mk (blk_at hq_ BK337.out);have n1_:=Aside0.mk (below_at hq_ HB.out);clear hq_ BK337 HB;have BK337:=n0_;have HB:=n1_;clear n0_ n1_))
    have n0_:=Aside0.mk (blk_drew BK337.out)
    have n1_:=Aside0.mk (below_drew1 HB.out)
    clear BK337 HB
    have BK337:=n0_
    have HB:=n1_
    clear n0_ n1_
    refine start_ (n:=13) (S:=fun w'=>w'.cell? ⟨gb337,0,none⟩=some (.int .i64 a1_0)∧w'.cell? ⟨gb337,1,none⟩=some (.int .i64 a1_1)∧w'.cell? ⟨gb337,2,none⟩=some (.bool a1_2)∧w'.cell? ⟨gb337,3,none⟩=some (.int .i64 a1_3)∧w'.cell? ⟨gb337,4,none⟩=some (.int .i64 a1_4)∧w'.cell? ⟨gb337,5,none⟩=some (.int .i64 a1_5)∧w'.cell? ⟨gb337,6,none⟩=some (.int .i64 a1_6)∧w'.cell? ⟨gb337,7,none⟩=some (.int .i64 a1_7)∧w'.cell? ⟨gb337,8,none⟩=some (.int .i64 a1_8)∧w'.cell? ⟨gb337,9,none⟩=some (.string a1_9)) (ds:=[]) #[false,false,false,false,false,false,false,false,false,false,false,false,false] (by kernel_rfl) rfl rfl ⟨(blk_cell BK337.out 0).trans rfl,(blk_cell BK337.out 1).trans rfl,(blk_cell BK337.out 2).trans rfl,(blk_cell BK337.out 3).trans rfl,(blk_cell BK337.out 4).trans rfl,(blk_cell BK337.out 5).trans rfl,(blk_cell BK337.out 6).trans rfl,(blk_cell BK337.out 7).trans rfl,(blk_cell BK337.out 8).trans rfl,(blk_cell BK337.out 9).trans rfl⟩ (fun hHeld => ?_);refine with_tabW laws_FnExactDeliveredBy.tab10 laws_FnExactDeliveredBy.bits10 (fun HT_ HW_ => ?_)
    generalize w26.drew=w27 at BK337 HB hHeld ⊢
    refine pure_ (i:=0) (N:=some 35) (v:=?_) (a':=?_) #[true,false,false,false,false,false,false,false,false,false,false,false,false] rfl rfl (any_of HT_.out (by kernel_rfl)) (fun _ _ _ h=>h) (Or.inl ⟨by rfl,?_⟩) ?_ ?_
    rotate_left
    ·intro w'
     go_simp
     with_reducible rfl
    rotate_left
    ·simp only[Act.put,List.setIfInBounds_toArray,List.set_cons_zero,List.set_cons_succ,i64_w,i32_w]
     rfl
    refine pure_ (i:=4) (N:=some 39) (v:=?_) (a':=?_) #[true,false,false,false,true,false,false,false,false,false,false,false,false] rfl rfl (any_of HT_.out (by kernel_rfl)) (fun _ _ _ h=>h) (Or.inl ⟨by rfl,?_⟩) ?_ ?_
    rotate_left
    ·intro w'
     go_simp
     with_reducible rfl
    rotate_left
    ·simp only[Act.put,List.setIfInBounds_toArray,List.set_cons_zero,List.set_cons_succ,i64_w,i32_w]
     rfl
    refine pure_ (i:=6) (N:=some 41) (v:=?_) (a':=?_) #[true,false,false,false,true,false,true,false,false,false,false,false,false] rfl rfl (any_of HT_.out (by kernel_rfl)) (fun _ _ _ h=>h) (Or.inl ⟨by rfl,?_⟩) ?_ ?_
    rotate_left
    ·intro w'
     go_simp
     with_reducible rfl
    rotate_left
    ·simp only[Act.put,List.setIfInBounds_toArray,List.set_cons_zero,List.set_cons_succ,i64_w,i32_w]
     rfl
    refine take_ (i:=2) (N:=some 37) (v:=?_) (a':=?_) #[true,false,true,false,true,false,true,false,false,false,false,false,false] rfl rfl (take_ofW HT_.out HW_.out (by kernel_rfl)) (fun _ _ _ h=>h) (Or.inl ⟨by rfl,?_⟩) hHeld ?_ ?_
    rotate_left
    ·rintro w' ⟨s0,s1,s2,s3,s4,s5,s6,s7,s8,s9⟩
     go_simp
     with_reducible rfl
    rotate_left
    ·simp only[Act.put,List.setIfInBounds_toArray,List.set_cons_zero,List.set_cons_succ,i64_w,i32_w]
     rfl
    refine one_ (i:=1) (N:=some 36) #[true,true,true,false,true,false,true,false,false,false,false,false,false] rfl rfl (one_of HT_.out (by kernel_rfl)) (by decide) (fun K hK => ?_)
    refine goes_ Try.func24 (by kernel_rfl) rfl #[.slice A0 l0.length c0] (by rfl) rfl rfl (by(try simp only[List.map_toArray,List.map_cons,List.map_nil]);first|done|rfl|(simp only[List.length_drop,List.length_take];rfl)) ?_
    with_reducible refine(laws_toContactS.calls k _ _ l0 t340 _ ?side1 ?side2 A15.out).mono ?_
    (case side1=>exact bC HR0.out)
    (case side2=>exact HC0.out)
    rintro e w28 ⟨v341,rfl,ho0,hb⟩
    refine⟨_,rfl,?_⟩
    have n0_:=Aside0.mk (Kd.R_lower ho0 (below_size (bS GE337.out)))
    have n1_:=Aside0.mk (blk_below (g:=gb337) (o:=.cells #[.int .i64 a1_0,.int .i64 a1_1,.bool a1_2,.int .i64 a1_3,.int .i64 a1_4,.int .i64 a1_5,.int .i64 a1_6,.int .i64 a1_7,.int .i64 a1_8,.string a1_9] 82 (0,0)) (bL BK337.out) hb)
    have n2_:=Aside0.mk (below_step (bS GE337.out) hb)
    clear BK337 HB
    have HO342:=n0_
    have BK337:=n1_
    have HB:=n2_
    clear n0_ n1_ n2_
    (try clear hb)
    (try clear hb2)
    (try clear hk)
    (try clear hi)
    (try clear ho0)
    refine hK.out _ _ ⟨(blk_cell BK337.out 0).trans rfl,(blk_cell BK337.out 1).trans rfl,(blk_cell BK337.out 2).trans rfl,(blk_cell BK337.out 3).trans rfl,(blk_cell BK337.out 4).trans rfl,(blk_cell BK337.out 5).trans rfl,(blk_cell BK337.out 6).trans rfl,(blk_cell BK337.out 7).trans rfl,(blk_cell BK337.out 8).trans rfl,(blk_cell BK337.out 9).trans rfl⟩ (fun hHeld => ?_)
    clear hK K
    refine norm_ (a':=?_) ?_ ?_
    rotate_left
    ·show Act.put _ (some 36) _=_
     simp only[Act.put,List.setIfInBounds_toArray,List.set_cons_zero,List.set_cons_succ,i64_w,i32_w]
     rfl
    refine one_ (i:=3) (N:=some 38) #[true,true,true,true,true,false,true,false,false,false,false,false,false] rfl rfl (one_of HT_.out (by kernel_rfl)) (by decide) (fun K hK => ?_)
    refine goes_ Try.func53 (by kernel_rfl) rfl #[.agg #[.int .i64 a1_0,.int .i64 a1_1,.bool a1_2,.int .i64 a1_3,.int .i64 a1_4,.int .i64 a1_5,.int .i64 a1_6,.int .i64 a1_7,.int .i64 a1_8,.string a1_9]] (by rfl) rfl rfl (by(try simp only[List.map_toArray,List.map_cons,List.map_nil]);first|done|rfl|(simp only[List.length_drop,List.length_take];rfl)) ?_
    with_reducible refine(laws_toBundle.calls a1_0 a1_1 a1_2 a1_3 a1_4 a1_5 a1_6 a1_7 a1_8 a1_9 t343 t344 t345 t346 t347 t348 t349 t350 t351 t352 _ A16.out).mono ?_
    rintro e w29 ⟨rfl,hb⟩
    refine⟨_,rfl,?_⟩
    have n0_:=Aside0.mk (Kd.R_below (bK HO342.out) hb)
    have n1_:=Aside0.mk (blk_below (g:=gb337) (o:=.cells #[.int .i64 a1_0,.int .i64 a1_1,.bool a1_2,.int .i64 a1_3,.int .i64 a1_4,.int .i64 a1_5,.int .i64 a1_6,.int .i64 a1_7,.int .i64 a1_8,.string a1_9] 82 (0,0)) (bL BK337.out) hb)
    have n2_:=Aside0.mk (below_step (bS GE337.out) hb)
    clear HO342 BK337 HB
    have HO342:=n0_
    have BK337:=n1_
    have HB:=n2_
    clear n0_ n1_ n2_
    (try clear hb)
    (try clear hb2)
    (try clear hk)
    (try clear hi)
    refine hK.out _ _ ⟨(blk_cell BK337.out 0).trans rfl,(blk_cell BK337.out 1).trans rfl,(blk_cell BK337.out 2).trans rfl,(blk_cell BK337.out 3).trans rfl,(blk_cell BK337.out 4).trans rfl,(blk_cell BK337.out 5).trans rfl,(blk_cell BK337.out 6).trans rfl,(blk_cell BK337.out 7).trans rfl,(blk_cell BK337.out 8).trans rfl,(blk_cell BK337.out 9).trans rfl⟩ (fun hHeld => ?_)
    clear hK K
    refine norm_ (a':=?_) ?_ ?_
    rotate_left
    ·show Act.put _ (some 38) _=_
     simp only[Act.put,List.setIfInBounds_toArray,List.set_cons_zero,List.set_cons_succ,i64_w,i32_w]
     rfl
    refine one_ (i:=5) (N:=some 40) #[true,true,true,true,true,true,true,false,false,false,false,false,false] rfl rfl (one_of HT_.out (by kernel_rfl)) (by decide) (fun K hK => ?_)
    refine goes_ Try.func32 (by kernel_rfl) rfl #[.slice A2 l2.length c2] (by rfl) rfl rfl (by(try simp only[List.map_toArray,List.map_cons,List.map_nil]);first|done|rfl|(simp only[List.length_drop,List.length_take];rfl)) ?_
    with_reducible refine(laws_toIntS.calls k _ _ l2 t353 _ ?side1 ?side2 A17.out).mono ?_
    (case side1=>exact bC HR2.out)
    (case side2=>exact HC2.out)
    rintro e w30 ⟨v354,rfl,ho0,hb⟩
    refine⟨_,rfl,?_⟩
    have n0_:=Aside0.mk (Kd.R_below (bK HO342.out) hb)
    have n1_:=Aside0.mk (Kd.R_lower ho0 (below_size (bS GE337.out)))
    have n2_:=Aside0.mk (blk_below (g:=gb337) (o:=.cells #[.int .i64 a1_0,.int .i64 a1_1,.bool a1_2,.int .i64 a1_3,.int .i64 a1_4,.int .i64 a1_5,.int .i64 a1_6,.int .i64 a1_7,.int .i64 a1_8,.string a1_9] 82 (0,0)) (bL BK337.out) hb)
    have n3_:=Aside0.mk (below_step (bS GE337.out) hb)
    clear HO342 BK337 HB
    have HO342:=n0_
    have HO355:=n1_
    have BK337:=n2_
    have HB:=n3_
    clear n0_ n1_ n2_ n3_
    (try clear hb)
    (try clear hb2)
    (try clear hk)
    (try clear hi)
    (try clear ho0)
    obtain⟨Ao31,co31,eo31⟩:=Kd.R_slice HO342.out
    (first|subst eo31|(injection eo31 with f1_ f2_ f3_;have f4_:=f1_.symm;have f5_:=f3_.symm;clear f1_ f2_ f3_;subst f4_;subst f5_))
    obtain⟨Ao32,co32,eo32⟩:=Kd.R_slice HO355.out
    (first|subst eo32|(injection eo32 with f1_ f2_ f3_;have f4_:=f1_.symm;have f5_:=f3_.symm;clear f1_ f2_ f3_;subst f4_;subst f5_))
    refine hK.out _ _ ⟨(blk_cell BK337.out 0).trans rfl,(blk_cell BK337.out 1).trans rfl,(blk_cell BK337.out 2).trans rfl,(blk_cell BK337.out 3).trans rfl,(blk_cell BK337.out 4).trans rfl,(blk_cell BK337.out 5).trans rfl,(blk_cell BK337.out 6).trans rfl,(blk_cell BK337.out 7).trans rfl,(blk_cell BK337.out 8).trans rfl,(blk_cell BK337.out 9).trans rfl⟩ (fun hHeld => ?_)
    clear hK K
    refine norm_ (a':=?_) ?_ ?_
    rotate_left
    ·show Act.put _ (some 40) _=_
     simp only[Act.put,List.setIfInBounds_toArray,List.set_cons_zero,List.set_cons_succ,i64_w,i32_w]
     rfl
    refine one_ (i:=7) (N:=some 42) #[true,true,true,true,true,true,true,true,false,false,false,false,false] rfl rfl (one_of HT_.out (by kernel_rfl)) (by decide) (fun K hK => ?_)
    refine goes_ Try.func59 (by kernel_rfl) rfl #[.slice Ao31 t340.length co31,.agg #[.int .i64 t343,.int .i64 t344,.bool t345,.int .i64 t346,.int .i64 t347,.int .i64 t348,.int .i64 t349,.int .i64 t350,.int .i64 t351,.string t352],.slice Ao32 t353.length co32,.int .i64 a3] (by rfl) rfl rfl (by(try simp only[List.map_toArray,List.map_cons,List.map_nil]);first|done|rfl|(simp only[List.length_drop,List.length_take];rfl)) ?_
    with_reducible refine(spec_DeliveredBy.calls k _ _ t340 t343 t344 t345 t346 t347 t348 t349 t350 t351 t352 _ _ t353 a3 t356 t359 _ ?side1 ?side2 ?side3 ?side4 A18.out).mono ?_
    (case side1=>exact bT HO342.out)
    (case side2=>exact(Kd.R_reads' HO342.out).2.1)
    (case side3=>exact bT HO355.out)
    (case side4=>exact(Kd.R_reads' HO355.out).2.1)
    rintro e w33 ⟨v357,rfl,ho0,hb⟩
    refine⟨_,rfl,?_⟩
    have n0_:=Aside0.mk (Kd.R_below (bK HO342.out) hb)
    have n1_:=Aside0.mk (Kd.R_elder' (bK HO355.out) (Kd.R_base ho0) hb)
    have n2_:=Aside0.mk (Kd.R_lower (Kd.R_new' ho0 (Kd.R_lt (bK HO355.out))) (below_size (bS GE337.out)))
    have n3_:=Aside0.mk (blk_below (g:=gb337) (o:=.cells #[.int .i64 a1_0,.int .i64 a1_1,.bool a1_2,.int .i64 a1_3,.int .i64 a1_4,.int .i64 a1_5,.int .i64 a1_6,.int .i64 a1_7,.int .i64 a1_8,.string a1_9] 82 (0,0)) (bL BK337.out) hb)
    have n4_:=Aside0.mk (below_step (bS GE337.out) hb)
    clear HO342 HO355 BK337 HB
    have HO342:=n0_
    have HO355:=n1_
    have HO358:=n2_
    have BK337:=n3_
    have HB:=n4_
    clear n0_ n1_ n2_ n3_ n4_
    (try clear hb)
    (try clear hb2)
    (try clear hk)
    (try clear hi)
    (try clear ho0)
    refine hK.out _ _ ⟨(blk_cell BK337.out 0).trans rfl,(blk_cell BK337.out 1).trans rfl,(blk_cell BK337.out 2).trans rfl,(blk_cell BK337.out 3).trans rfl,(blk_cell BK337.out 4).trans rfl,(blk_cell BK337.out 5).trans rfl,(blk_cell BK337.out 6).trans rfl,(blk_cell BK337.out 7).trans rfl,(blk_cell BK337.out 8).trans rfl,(blk_cell BK337.out 9).trans rfl⟩ (fun hHeld => ?_)
    clear hK K
    refine norm_ (a':=?_) ?_ ?_
    rotate_left
    ·show Act.put _ (some 42) _=_
     simp only[Act.put,List.setIfInBounds_toArray,List.set_cons_zero,List.set_cons_succ,i64_w,i32_w]
     rfl
    refine pure_ (i:=8) (N:=some 34) (v:=?_) (a':=?_) #[true,true,true,true,true,true,true,true,true,false,false,false,false] rfl rfl (any_of HT_.out (by kernel_rfl)) (fun _ _ _ h=>h) (Or.inl ⟨by rfl,?_⟩) ?_ ?_
    rotate_left
    ·intro w'
     go_simp
     with_reducible rfl
    rotate_left
    ·simp only[Act.put,List.setIfInBounds_toArray,List.set_cons_zero,List.set_cons_succ,i64_w,i32_w]
     rfl
    refine pure_ (i:=9) (N:=some 43) (v:=?_) (a':=?_) #[true,true,true,true,true,true,true,true,true,true,false,false,false] rfl rfl (any_of HT_.out (by kernel_rfl)) (fun _ _ _ h=>h) (Or.inl ⟨by rfl,?_⟩) ?_ ?_
    rotate_left
    ·intro w'
     go_simp
     with_reducible rfl
    rotate_left
    ·simp only[Act.put,List.setIfInBounds_toArray,List.set_cons_zero,List.set_cons_succ,i64_w,i32_w]
     rfl
    refine pure_ (i:=10) (N:=some 44) (v:=?_) (a':=?_) #[true,true,true,true,true,true,true,true,true,true,true,false,false] rfl rfl (any_of HT_.out (by kernel_rfl)) (fun _ _ _ h=>h) (Or.inl ⟨by rfl,?_⟩) ?_ ?_
    rotate_left
    ·intro w'
     go_simp
     with_reducible rfl
    rotate_left
    ·simp only[Act.put,List.setIfInBounds_toArray,List.set_cons_zero,List.set_cons_succ,i64_w,i32_w]
     rfl
    refine pure_ (i:=11) (N:=some 10) (v:=?_) (a':=?_) #[true,true,true,true,true,true,true,true,true,true,true,true,false] rfl rfl (any_of HT_.out (by kernel_rfl)) (fun _ _ _ h=>h) (Or.inl ⟨by rfl,?_⟩) ?_ ?_
    rotate_left
    ·intro w'
     go_simp
     with_reducible rfl
    rotate_left
    ·simp only[Act.put,List.setIfInBounds_toArray,List.set_cons_zero,List.set_cons_succ,i64_w,i32_w]
     rfl
    refine pure_ (i:=12) (N:=some 11) (v:=?_) (a':=?_) #[true,true,true,true,true,true,true,true,true,true,true,true,true] rfl rfl (any_of HT_.out (by kernel_rfl)) (fun _ _ _ h=>h) (Or.inl ⟨by rfl,?_⟩) ?_ ?_
    rotate_left
    ·intro w'
     go_simp
     with_reducible rfl
    rotate_left
    ·simp only[Act.put,List.setIfInBounds_toArray,List.set_cons_zero,List.set_cons_succ,i64_w,i32_w]
     rfl
    refine done_ (done_of HT_.out (by kernel_rfl)) ?_
    go_upto_region 14 with (first|((with_reducible refine gate_callee (f:=24) rfl ?_);refine goesA (some 46) rfl rfl Try.func24 #[.slice A0 l0.length c0] rfl ?_;(with_reducible refine(laws_toContactS.calls k _ _ l0 t360 _ ?side1 ?side2 A19.out).mono ?_);(case side1=>exact bC HR0.out);(case side2=>exact HC0.out);rintro e w34 ⟨v361,rfl,ho0,hb⟩;refine⟨_,rfl,?_⟩;have n0_:=Aside0.mk (Kd.R_elder' (bK HO342.out) (Kd.R_base ho0) hb);have n1_:=Aside0.mk (Kd.R_below (bK HO355.out) hb);have n2_:=Aside0.mk (Kd.R_below (bK HO358.out) hb);have n3_:=Aside0.mk (Kd.R_lower (Kd.R_new' ho0 (Kd.R_lt (bK HO342.out))) (below_size (bS GE337.out)));have n4_:=Aside0.mk (blk_below (g:=gb337) (o:=.cells #[.int .i64 a1_0,.int .i64 a1_1,.bool a1_2,.int .i64 a1_3,.int .i64 a1_4,.int .i64 a1_5,.int .i64 a1_6,.int .i64 a1_7,.int .i64 a1_8,.string a1_9] 82 (0,0)) (bL BK337.out) hb);have n5_:=Aside0.mk (below_step (bS GE337.out) hb);clear HO342 HO355 HO358 BK337 HB;have HO342:=n0_;have HO355:=n1_;have HO358:=n2_;have HO362:=n3_;have BK337:=n4_;have HB:=n5_;clear n0_ n1_ n2_ n3_ n4_ n5_;(try clear hb);(try clear hb2);(try clear hk);(try clear hi);(try clear ho0))|((with_reducible refine gate_callee (f:=32) rfl ?_);refine goesA (some 48) rfl rfl Try.func32 #[.slice A2 l2.length c2] rfl ?_;(with_reducible refine(laws_toIntS.calls k _ _ l2 t363 _ ?side1 ?side2 A20.out).mono ?_);(case side1=>exact bC HR2.out);(case side2=>exact HC2.out);rintro e w35 ⟨v364,rfl,ho0,hb⟩;refine⟨_,rfl,?_⟩;have n0_:=Aside0.mk (Kd.R_below (bK HO342.out) hb);have n1_:=Aside0.mk (Kd.R_elder' (bK HO355.out) (Kd.R_base ho0) hb);have n2_:=Aside0.mk (Kd.R_elder' (bK HO358.out) (Kd.R_base ho0) hb);have n3_:=Aside0.mk (Kd.R_below (bK HO362.out) hb);have n4_:=Aside0.mk (Kd.R_lower (Kd.R_new' (Kd.R_new' ho0 (Kd.R_lt (bK HO355.out))) (Kd.R_lt (bK HO358.out))) (below_size (bS GE337.out)));have n5_:=Aside0.mk (blk_below (g:=gb337) (o:=.cells #[.int .i64 a1_0,.int .i64 a1_1,.bool a1_2,.int .i64 a1_3,.int .i64 a1_4,.int .i64 a1_5,.int .i64 a1_6,.int .i64 a1_7,.int .i64 a1_8,.string a1_9] 82 (0,0)) (bL BK337.out) hb);have n6_:=Aside0.mk (below_step (bS GE337.out) hb);clear HO342 HO355 HO358 HO362 BK337 HB;have HO342:=n0_;have HO355:=n1_;have HO358:=n2_;have HO362:=n3_;have HO365:=n4_;have BK337:=n5_;have HB:=n6_;clear n0_ n1_ n2_ n3_ n4_ n5_ n6_;(try clear hb);(try clear hb2);(try clear hk);(try clear hi);(try clear ho0);have hcz36_0:w35.cell? ⟨gb337,0,none⟩=some (.int .i64 a1_0):=(blk_cell BK337.out 0).trans rfl;have hcz36_1:w35.cell? ⟨gb337,1,none⟩=some (.int .i64 a1_1):=(blk_cell BK337.out 1).trans rfl;have hcz36_2:w35.cell? ⟨gb337,2,none⟩=some (.bool a1_2):=(blk_cell BK337.out 2).trans rfl;have hcz36_3:w35.cell? ⟨gb337,3,none⟩=some (.int .i64 a1_3):=(blk_cell BK337.out 3).trans rfl;have hcz36_4:w35.cell? ⟨gb337,4,none⟩=some (.int .i64 a1_4):=(blk_cell BK337.out 4).trans rfl;have hcz36_5:w35.cell? ⟨gb337,5,none⟩=some (.int .i64 a1_5):=(blk_cell BK337.out 5).trans rfl;have hcz36_6:w35.cell? ⟨gb337,6,none⟩=some (.int .i64 a1_6):=(blk_cell BK337.out 6).trans rfl;have hcz36_7:w35.cell? ⟨gb337,7,none⟩=some (.int .i64 a1_7):=(blk_cell BK337.out 7).trans rfl;have hcz36_8:w35.cell? ⟨gb337,8,none⟩=some (.int .i64 a1_8):=(blk_cell BK337.out 8).trans rfl;have hcz36_9:w35.cell? ⟨gb337,9,none⟩=some (.string a1_9):=(blk_cell BK337.out 9).trans rfl;have hfz36_0:=blk_frozen BK337.out 0;have hfz36_1:=blk_frozen BK337.out 1;have hfz36_2:=blk_frozen BK337.out 2;have hfz36_3:=blk_frozen BK337.out 3;have hfz36_4:=blk_frozen BK337.out 4;have hfz36_5:=blk_frozen BK337.out 5;have hfz36_6:=blk_frozen BK337.out 6;have hfz36_7:=blk_frozen BK337.out 7;have hfz36_8:=blk_frozen BK337.out 8;have hfz36_9:=blk_frozen BK337.out 9)|((with_reducible refine gate_callee (f:=53) rfl ?_);refine goesA (some 52) rfl rfl Try.func53 #[.agg #[.int .i64 a1_0,.int .i64 a1_1,.bool a1_2,.int .i64 a1_3,.int .i64 a1_4,.int .i64 a1_5,.int .i64 a1_6,.int .i64 a1_7,.int .i64 a1_8,.string a1_9]] rfl ?_;(with_reducible refine(laws_toBundle.calls a1_0 a1_1 a1_2 a1_3 a1_4 a1_5 a1_6 a1_7 a1_8 a1_9 t366 t367 t368 t369 t370 t371 t372 t373 t374 t375 _ A21.out).mono ?_);rintro e w37 ⟨rfl,hb⟩;refine⟨_,rfl,?_⟩;have n0_:=Aside0.mk (Kd.R_below (bK HO342.out) hb);have n1_:=Aside0.mk (Kd.R_below (bK HO355.out) hb);have n2_:=Aside0.mk (Kd.R_below (bK HO358.out) hb);have n3_:=Aside0.mk (Kd.R_below (bK HO362.out) hb);have n4_:=Aside0.mk (Kd.R_below (bK HO365.out) hb);have n5_:=Aside0.mk (blk_below (g:=gb337) (o:=.cells #[.int .i64 a1_0,.int .i64 a1_1,.bool a1_2,.int .i64 a1_3,.int .i64 a1_4,.int .i64 a1_5,.int .i64 a1_6,.int .i64 a1_7,.int .i64 a1_8,.string a1_9] 82 (0,0)) (bL BK337.out) hb);have n6_:=Aside0.mk (below_step (bS GE337.out) hb);clear HO342 HO355 HO358 HO362 HO365 BK337 HB;have HO342:=n0_;have HO355:=n1_;have HO358:=n2_;have HO362:=n3_;have HO365:=n4_;have BK337:=n5_;have HB:=n6_;clear n0_ n1_ n2_ n3_ n4_ n5_ n6_;(try clear hb);(try clear hb2);(try clear hk);(try clear hi);obtain⟨Ao38,co38,eo38⟩:=Kd.R_slice HO362.out;subst eo38;obtain⟨Ao39,co39,eo39⟩:=Kd.R_slice HO365.out;subst eo39)|((with_reducible refine gate_callee (f:=60) rfl ?_);refine goesA (some 55) rfl rfl Try.func60 #[.slice Ao38 t360.length co38,.agg #[.int .i64 t366,.int .i64 t367,.bool t368,.int .i64 t369,.int .i64 t370,.int .i64 t371,.int .i64 t372,.int .i64 t373,.int .i64 t374,.string t375],.slice Ao39 t363.length co39,.int .i64 a3] rfl ?_;(with_reducible refine(impl_DeliveredBy.calls k _ _ t360 t366 t367 t368 t369 t370 t371 t372 t373 t374 t375 _ _ t363 a3 t376 t379 _ ?side1 ?side2 ?side3 ?side4 A22.out).mono ?_);(case side1=>exact bT HO362.out);(case side2=>exact(Kd.R_reads' HO362.out).2.1);(case side3=>exact bT HO365.out);(case side4=>exact(Kd.R_reads' HO365.out).2.1);rintro e w40 ⟨v377,rfl,ho0,hb⟩;refine⟨_,rfl,?_⟩;have n0_:=Aside0.mk (Kd.R_below (bK HO342.out) hb);have n1_:=Aside0.mk (Kd.R_elder' (bK HO355.out) (Kd.R_base ho0) hb);have n2_:=Aside0.mk (Kd.R_elder' (bK HO358.out) (Kd.R_base ho0) hb);have n3_:=Aside0.mk (Kd.R_below (bK HO362.out) hb);have n4_:=Aside0.mk (Kd.R_elder' (bK HO365.out) (Kd.R_base ho0) hb);have n5_:=Aside0.mk (Kd.R_lower (Kd.R_new' (Kd.R_new' (Kd.R_new' ho0 (Kd.R_lt (bK HO355.out))) (Kd.R_lt (bK HO358.out))) (Kd.R_lt (bK HO365.out))) (below_size (bS GE337.out)));have n6_:=Aside0.mk (blk_below (g:=gb337) (o:=.cells #[.int .i64 a1_0,.int .i64 a1_1,.bool a1_2,.int .i64 a1_3,.int .i64 a1_4,.int .i64 a1_5,.int .i64 a1_6,.int .i64 a1_7,.int .i64 a1_8,.string a1_9] 82 (0,0)) (bL BK337.out) hb);have n7_:=Aside0.mk (below_step (bS GE337.out) hb);clear HO342 HO355 HO358 HO362 HO365 BK337 HB;have HO342:=n0_;have HO355:=n1_;have HO358:=n2_;have HO362:=n3_;have HO365:=n4_;have HO378:=n5_;have BK337:=n6_;have HB:=n7_;clear n0_ n1_ n2_ n3_ n4_ n5_ n6_ n7_;(try clear hb);(try clear hb2);(try clear hk);(try clear hi);(try clear ho0)))
    (try simp only[Act.put,List.setIfInBounds_toArray,List.set_cons_zero,List.set_cons_succ])
    go_cut [66] (fun v66 wc => ∃ (kq:Nat) (x66_22:Bool),v66=.bool x66_22∧Aside0 (laws_FnExactDeliveredBy.j0 kq l0 l2 a3 t356 t359 t360 t363 t376 t379 x66_22 a1_0 a1_1 a1_2 a1_3 a1_4 a1_5 a1_6 a1_7 a1_8 a1_9=some r)∧Aside0 (kq≤k)∧Aside0 (Kd.R (Kd.int .i64) 3 wc w.heap.size (fun k_=>some k_≠((.slice Ao39 t363.length co39):Value).ownBlock∧some k_≠(v377:Value).ownBlock) v357 t356)∧Aside0 (Kd.R k104 104 wc w.heap.size (fun _=>True) (.slice Ao38 t360.length co38) t360)∧Aside0 (Kd.R (Kd.int .i64) 3 wc w.heap.size (fun k_=>some k_≠(v357:Value).ownBlock∧some k_≠(v377:Value).ownBlock) (.slice Ao39 t363.length co39) t363)∧Aside0 (Kd.R (Kd.int .i64) 3 wc w.heap.size (fun k_=>some k_≠(v357:Value).ownBlock∧some k_≠((.slice Ao39 t363.length co39):Value).ownBlock) v377 t376)∧Aside0 (wc.heap[gb337]?=some (.cells #[.int .i64 a1_0,.int .i64 a1_1,.bool a1_2,.int .i64 a1_3,.int .i64 a1_4,.int .i64 a1_5,.int .i64 a1_6,.int .i64 a1_7,.int .i64 a1_8,.string a1_9] 82 (0,0)))∧Aside0 (Below w.heap.size w wc))
    case first =>
     have H:=HC23.out
     clear HC23
     replace H:=Option.bind_eq_some_iff.mp H
     obtain⟨t380,A410,H⟩:=H
     have A41:=Aside0.mk A410
     clear A410
     by_cases c42:t380=true
     ·subst c42
      have H1:(laws_FnExactDeliveredBy.j0 k l0 l2 a3 t356 t359 t360 t363 t376 t379 (t379 != t359) a1_0 a1_1 a1_2 a1_3 a1_4 a1_5 a1_6 a1_7 a1_8 a1_9)=some r:=by rw[if_pos rfl] at H;exact H
      clear H
      have H:=H1
      clear H1
      have H':=Aside0.mk H
      clear H
      obtain⟨Ao43,co43,eo43⟩:=Kd.R_slice HO378.out
      subst eo43
      obtain⟨Ao44,co44,eo44⟩:=Kd.R_slice HO358.out
      subst eo44
      go_wp2_with (first|((with_reducible refine gate_callee (f:=26) rfl ?_);refine goesA (some 60) rfl rfl Try.func26 #[.slice Ao43 t376.length co43,.slice Ao44 t356.length co44] rfl ?_;(with_reducible refine(laws_eqIntS.calls k _ _ t376 _ _ t356 true _ ?side1 ?side2 ?side3 ?side4 A41.out).mono ?_);(case side1=>exact bT HO378.out);(case side2=>exact(Kd.R_reads' HO378.out).2.1);(case side3=>exact bT HO358.out);(case side4=>exact(Kd.R_reads' HO358.out).2.1);rintro e w' ⟨rfl,⟨nd,rfl⟩⟩;refine⟨_,rfl,?_⟩))
      go_meet
      case rel=>exact⟨_,((t379 != t359)),(bR),H',⟨by first|omega|exact Nat.le_refl _⟩,⟨by(with_reducible repeat (first|apply Kd.R_alloc|apply Kd.R_drewN|apply Kd.R_drew));exact Kd.R_mono HO358.out (fun _ hk=>⟨hk.1.2,hk.2⟩)⟩,⟨by(with_reducible repeat (first|apply Kd.R_alloc|apply Kd.R_drewN|apply Kd.R_drew));exact Kd.R_mono HO362.out (fun _ hk=>trivial)⟩,⟨by(with_reducible repeat (first|apply Kd.R_alloc|apply Kd.R_drewN|apply Kd.R_drew));exact Kd.R_mono HO365.out (fun _ hk=>⟨hk.1.2,hk.2⟩)⟩,⟨by(with_reducible repeat (first|apply Kd.R_alloc|apply Kd.R_drewN|apply Kd.R_drew));exact Kd.R_mono HO378.out (fun _ hk=>⟨hk.1.2,hk.2⟩)⟩,⟨by(with_reducible repeat (first|refine blk_drewN ?_ _|refine blk_drew ?_|refine blk_alloc ?_ _));exact BK337.out⟩,⟨bS GE337.out⟩⟩
     ·replace c42:=Bool.eq_false_iff.mpr c42
      subst c42
      have H1:(laws_FnExactDeliveredBy.j0 k l0 l2 a3 t356 t359 t360 t363 t376 t379 true a1_0 a1_1 a1_2 a1_3 a1_4 a1_5 a1_6 a1_7 a1_8 a1_9)=some r:=by rw[if_neg (show ¬ (false=true) by decide)] at H;exact H
      clear H
      have H:=H1
      clear H1
      have H':=Aside0.mk H
      clear H
      obtain⟨Ao45,co45,eo45⟩:=Kd.R_slice HO378.out
      subst eo45
      obtain⟨Ao46,co46,eo46⟩:=Kd.R_slice HO358.out
      subst eo46
      go_wp2_with (first|((with_reducible refine gate_callee (f:=26) rfl ?_);refine goesA (some 60) rfl rfl Try.func26 #[.slice Ao45 t376.length co45,.slice Ao46 t356.length co46] rfl ?_;(with_reducible refine(laws_eqIntS.calls k _ _ t376 _ _ t356 false _ ?side1 ?side2 ?side3 ?side4 A41.out).mono ?_);(case side1=>exact bT HO378.out);(case side2=>exact(Kd.R_reads' HO378.out).2.1);(case side3=>exact bT HO358.out);(case side4=>exact(Kd.R_reads' HO358.out).2.1);rintro e w' ⟨rfl,⟨nd,rfl⟩⟩;refine⟨_,rfl,?_⟩))
      go_meet
      case rel=>exact⟨_,(true),(bR),H',⟨by first|omega|exact Nat.le_refl _⟩,⟨by(with_reducible repeat (first|apply Kd.R_alloc|apply Kd.R_drewN|apply Kd.R_drew));exact Kd.R_mono HO358.out (fun _ hk=>⟨hk.1.2,hk.2⟩)⟩,⟨by(with_reducible repeat (first|apply Kd.R_alloc|apply Kd.R_drewN|apply Kd.R_drew));exact Kd.R_mono HO362.out (fun _ hk=>trivial)⟩,⟨by(with_reducible repeat (first|apply Kd.R_alloc|apply Kd.R_drewN|apply Kd.R_drew));exact Kd.R_mono HO365.out (fun _ hk=>⟨hk.1.2,hk.2⟩)⟩,⟨by(with_reducible repeat (first|apply Kd.R_alloc|apply Kd.R_drewN|apply Kd.R_drew));exact Kd.R_mono HO378.out (fun _ hk=>⟨hk.1.2,hk.2⟩)⟩,⟨by(with_reducible repeat (first|refine blk_drewN ?_ _|refine blk_drew ?_|refine blk_alloc ?_ _));exact BK337.out⟩,⟨bS GE337.out⟩⟩
    case rest =>
     clear HC23
     try clear c1
     try clear c2
     try clear p2
     try clear c3
     try clear c4
     try clear c5
     try clear c5b0
     try clear c5b1
     try clear c6
     try clear c8
     try clear c8b0
     try clear c11
     try clear c11b0
     try clear c22
     try clear c24
     try clear c26
     try clear c32
     try clear c42
     try clear hcz13_0
     try clear hcz13_1
     try clear hcz13_2
     try clear hcz13_3
     try clear hcz13_4
     try clear hcz13_5
     try clear hcz13_6
     try clear hcz13_7
     try clear hcz13_8
     try clear hcz13_9
     try clear hcz25_0
     try clear hcz25_1
     try clear hcz25_2
     try clear hcz25_3
     try clear hcz25_4
     try clear hcz25_5
     try clear hcz25_6
     try clear hcz25_7
     try clear hcz25_8
     try clear hcz25_9
     try clear hcz36_0
     try clear hcz36_1
     try clear hcz36_2
     try clear hcz36_3
     try clear hcz36_4
     try clear hcz36_5
     try clear hcz36_6
     try clear hcz36_7
     try clear hcz36_8
     try clear hcz36_9
     try clear hfz13_0
     try clear hfz13_1
     try clear hfz13_2
     try clear hfz13_3
     try clear hfz13_4
     try clear hfz13_5
     try clear hfz13_6
     try clear hfz13_7
     try clear hfz13_8
     try clear hfz13_9
     try clear hfz25_0
     try clear hfz25_1
     try clear hfz25_2
     try clear hfz25_3
     try clear hfz25_4
     try clear hfz25_5
     try clear hfz25_6
     try clear hfz25_7
     try clear hfz25_8
     try clear hfz25_9
     try clear hfz36_0
     try clear hfz36_1
     try clear hfz36_2
     try clear hfz36_3
     try clear hfz36_4
     try clear hfz36_5
     try clear hfz36_6
     try clear hfz36_7
     try clear hfz36_8
     try clear hfz36_9
     obtain⟨kq,x66_22,rfl,HA,HJ22,HO_10,HO_12,HO_13,HO_14,BK337,HB⟩:=hcut
     cases kq with
     | zero=>exact absurd HA.out (by simp[laws_FnExactDeliveredBy.j0])
     | succ kj22 =>
      have H:=HA.out
      clear HA
      simp only[laws_FnExactDeliveredBy.j0] at H
      by_cases c47:x66_22=true
      ·subst c47
       have H1:(some false)=some r:=by rw[if_pos rfl] at H;exact H
       clear H
       have H:=H1
       clear H1
       obtain rfl:=Option.some.inj H
       go_wp2
       go_ret
       exact⟨bE,bS GE337.out⟩
      ·replace c47:=Bool.eq_false_iff.mpr c47
       subst c47
       have H1:((laws_toContactS.f kj22 l0).bind fun t381=>((laws_eqContactS.f kj22 t360 t381).bind fun t384=>(if t384=true then ((laws_toIntS.f kj22 l2).bind fun t385=>((laws_eqIntS.f kj22 t363 t385).bind fun t388=>(if t388=true then ((laws_markContactS.f kj22 t360 1).bind fun bt389=>((laws_markIntS.f kj22 t363 bt389.1).bind fun bt391=>(if bt391.1 < 0 then (laws_FnExactDeliveredBy.j1 kj22 l0 l2 a3 t356 t359 t376 true a1_0 a1_1 a1_2 a1_3 a1_4 a1_5 a1_6 a1_7 a1_8 a1_9) else ((laws_eqIntS.f kj22 t376 t356).bind fun t393=>(if t393=true then (laws_FnExactDeliveredBy.j1 kj22 l0 l2 a3 t356 t359 t376 (t379 != t359) a1_0 a1_1 a1_2 a1_3 a1_4 a1_5 a1_6 a1_7 a1_8 a1_9) else (laws_FnExactDeliveredBy.j1 kj22 l0 l2 a3 t356 t359 t376 true a1_0 a1_1 a1_2 a1_3 a1_4 a1_5 a1_6 a1_7 a1_8 a1_9)))))) else (some false)))) else (some false))))=some r:=by rw[if_neg (show ¬ (false=true) by decide)] at H;exact H
       clear H
       have H:=H1
       clear H1
       replace H:=Option.bind_eq_some_iff.mp H
       obtain⟨t381,A480,H⟩:=H
       have A48:=Aside0.mk A480
       clear A480
       replace H:=Option.bind_eq_some_iff.mp H
       obtain⟨t384,A490,H⟩:=H
       have A49:=Aside0.mk A490
       clear A490
       by_cases c50:t384=true
       ·subst c50
        have H1:((laws_toIntS.f kj22 l2).bind fun t385=>((laws_eqIntS.f kj22 t363 t385).bind fun t388=>(if t388=true then ((laws_markContactS.f kj22 t360 1).bind fun bt389=>((laws_markIntS.f kj22 t363 bt389.1).bind fun bt391=>(if bt391.1 < 0 then (laws_FnExactDeliveredBy.j1 kj22 l0 l2 a3 t356 t359 t376 true a1_0 a1_1 a1_2 a1_3 a1_4 a1_5 a1_6 a1_7 a1_8 a1_9) else ((laws_eqIntS.f kj22 t376 t356).bind fun t393=>(if t393=true then (laws_FnExactDeliveredBy.j1 kj22 l0 l2 a3 t356 t359 t376 (t379 != t359) a1_0 a1_1 a1_2 a1_3 a1_4 a1_5 a1_6 a1_7 a1_8 a1_9) else (laws_FnExactDeliveredBy.j1 kj22 l0 l2 a3 t356 t359 t376 true a1_0 a1_1 a1_2 a1_3 a1_4 a1_5 a1_6 a1_7 a1_8 a1_9)))))) else (some false))))=some r:=by rw[if_pos rfl] at H;exact H
        clear H
        have H:=H1
        clear H1
        replace H:=Option.bind_eq_some_iff.mp H
        obtain⟨t385,A510,H⟩:=H
        have A51:=Aside0.mk A510
        clear A510
        replace H:=Option.bind_eq_some_iff.mp H
        obtain⟨t388,A520,H⟩:=H
        have A52:=Aside0.mk A520
        clear A520
        by_cases c53:t388=true
        ·subst c53
         have H1:((laws_markContactS.f kj22 t360 1).bind fun bt389=>((laws_markIntS.f kj22 t363 bt389.1).bind fun bt391=>(if bt391.1 < 0 then (laws_FnExactDeliveredBy.j1 kj22 l0 l2 a3 t356 t359 t376 true a1_0 a1_1 a1_2 a1_3 a1_4 a1_5 a1_6 a1_7 a1_8 a1_9) else ((laws_eqIntS.f kj22 t376 t356).bind fun t393=>(if t393=true then (laws_FnExactDeliveredBy.j1 kj22 l0 l2 a3 t356 t359 t376 (t379 != t359) a1_0 a1_1 a1_2 a1_3 a1_4 a1_5 a1_6 a1_7 a1_8 a1_9) else (laws_FnExactDeliveredBy.j1 kj22 l0 l2 a3 t356 t359 t376 true a1_0 a1_1 a1_2 a1_3 a1_4 a1_5 a1_6 a1_7 a1_8 a1_9))))))=some r:=by rw[if_pos rfl] at H;exact H
         clear H
         have H:=H1
         clear H1
         replace H:=Option.bind_eq_some_iff.mp H
         obtain⟨⟨t389,t390⟩,A540,H⟩:=H
         have A54:=Aside0.mk A540
         clear A540
         replace H:=Option.bind_eq_some_iff.mp H
         obtain⟨⟨t391,t392⟩,A550,H⟩:=H
         have A55:=Aside0.mk A550
         clear A550
         have HC56:=Aside0.mk H
         clear H
         go_upto_region 23 with (first|((with_reducible refine gate_callee (f:=24) rfl ?_);refine goesA (some 69) rfl rfl Try.func24 #[.slice A0 l0.length c0] rfl ?_;(with_reducible refine(laws_toContactS.calls kj22 _ _ l0 t381 _ ?side1 ?side2 A48.out).mono ?_);(case side1=>exact bC HR0.out);(case side2=>exact HC0.out);rintro e w57 ⟨v382,rfl,ho0,hb⟩;refine⟨_,rfl,?_⟩;have n0_:=Aside0.mk (Kd.R_below (bK HO_10.out) hb);have n1_:=Aside0.mk (Kd.R_elder' (bK HO_12.out) (Kd.R_base ho0) hb);have n2_:=Aside0.mk (Kd.R_below (bK HO_13.out) hb);have n3_:=Aside0.mk (Kd.R_below (bK HO_14.out) hb);have n4_:=Aside0.mk (Kd.R_lower (Kd.R_new' ho0 (Kd.R_lt (bK HO_12.out))) (below_size (bS GE337.out)));have n5_:=Aside0.mk (blk_below (g:=gb337) (o:=.cells #[.int .i64 a1_0,.int .i64 a1_1,.bool a1_2,.int .i64 a1_3,.int .i64 a1_4,.int .i64 a1_5,.int .i64 a1_6,.int .i64 a1_7,.int .i64 a1_8,.string a1_9] 82 (0,0)) (bL BK337.out) hb);have n6_:=Aside0.mk (below_step (bS GE337.out) hb);clear HO_10 HO_12 HO_13 HO_14 BK337 HB;have HO_10:=n0_;have HO_12:=n1_;have HO_13:=n2_;have HO_14:=n3_;have HO383:=n4_;have BK337:=n5_;have HB:=n6_;clear n0_ n1_ n2_ n3_ n4_ n5_ n6_;(try clear hb);(try clear hb2);(try clear hk);(try clear hi);(try clear ho0);obtain⟨Ao58,co58,eo58⟩:=Kd.R_slice HO383.out;subst eo58)|((with_reducible refine gate_callee (f:=27) rfl ?_);refine goesA (some 70) rfl rfl Try.func27 #[.slice Ao38 t360.length co38,.slice Ao58 t381.length co58] rfl ?_;(with_reducible refine(laws_eqContactS.calls kj22 _ _ t360 _ _ t381 true _ ?side1 ?side2 ?side3 ?side4 A49.out).mono ?_);(case side1=>exact bT HO_12.out);(case side2=>exact(Kd.R_reads' HO_12.out).2.1);(case side3=>exact bT HO383.out);(case side4=>exact(Kd.R_reads' HO383.out).2.1);rintro e w59 ⟨rfl,hb⟩;refine⟨_,rfl,?_⟩;have n0_:=Aside0.mk (Kd.R_below (bK HO_10.out) hb);have n1_:=Aside0.mk (Kd.R_below (bK HO_12.out) hb);have n2_:=Aside0.mk (Kd.R_below (bK HO_13.out) hb);have n3_:=Aside0.mk (Kd.R_below (bK HO_14.out) hb);have n4_:=Aside0.mk (Kd.R_below (bK HO383.out) hb);have n5_:=Aside0.mk (blk_below (g:=gb337) (o:=.cells #[.int .i64 a1_0,.int .i64 a1_1,.bool a1_2,.int .i64 a1_3,.int .i64 a1_4,.int .i64 a1_5,.int .i64 a1_6,.int .i64 a1_7,.int .i64 a1_8,.string a1_9] 82 (0,0)) (bL BK337.out) hb);have n6_:=Aside0.mk (below_step (bS GE337.out) hb);clear HO_10 HO_12 HO_13 HO_14 HO383 BK337 HB;have HO_10:=n0_;have HO_12:=n1_;have HO_13:=n2_;have HO_14:=n3_;have HO383:=n4_;have BK337:=n5_;have HB:=n6_;clear n0_ n1_ n2_ n3_ n4_ n5_ n6_;(try clear hb);(try clear hb2);(try clear hk);(try clear hi))|((with_reducible refine gate_callee (f:=32) rfl ?_);refine goesA (some 74) rfl rfl Try.func32 #[.slice A2 l2.length c2] rfl ?_;(with_reducible refine(laws_toIntS.calls kj22 _ _ l2 t385 _ ?side1 ?side2 A51.out).mono ?_);(case side1=>exact bC HR2.out);(case side2=>exact HC2.out);rintro e w60 ⟨v386,rfl,ho0,hb⟩;refine⟨_,rfl,?_⟩;have n0_:=Aside0.mk (Kd.R_elder' (bK HO_10.out) (Kd.R_base ho0) hb);have n1_:=Aside0.mk (Kd.R_below (bK HO_12.out) hb);have n2_:=Aside0.mk (Kd.R_elder' (bK HO_13.out) (Kd.R_base ho0) hb);have n3_:=Aside0.mk (Kd.R_elder' (bK HO_14.out) (Kd.R_base ho0) hb);have n4_:=Aside0.mk (Kd.R_below (bK HO383.out) hb);have n5_:=Aside0.mk (Kd.R_lower (Kd.R_new' (Kd.R_new' (Kd.R_new' ho0 (Kd.R_lt (bK HO_10.out))) (Kd.R_lt (bK HO_13.out))) (Kd.R_lt (bK HO_14.out))) (below_size (bS GE337.out)));have n6_:=Aside0.mk (blk_below (g:=gb337) (o:=.cells #[.int .i64 a1_0,.int .i64 a1_1,.bool a1_2,.int .i64 a1_3,.int .i64 a1_4,.int .i64 a1_5,.int .i64 a1_6,.int .i64 a1_7,.int .i64 a1_8,.string a1_9] 82 (0,0)) (bL BK337.out) hb);have n7_:=Aside0.mk (below_step (bS GE337.out) hb);clear HO_10 HO_12 HO_13 HO_14 HO383 BK337 HB;have HO_10:=n0_;have HO_12:=n1_;have HO_13:=n2_;have HO_14:=n3_;have HO383:=n4_;have HO387:=n5_;have BK337:=n6_;have HB:=n7_;clear n0_ n1_ n2_ n3_ n4_ n5_ n6_ n7_;(try clear hb);(try clear hb2);(try clear hk);(try clear hi);(try clear ho0);obtain⟨Ao61,co61,eo61⟩:=Kd.R_slice HO387.out;subst eo61)|((with_reducible refine gate_callee (f:=26) rfl ?_);refine goesA (some 75) rfl rfl Try.func26 #[.slice Ao39 t363.length co39,.slice Ao61 t385.length co61] rfl ?_;(with_reducible refine(laws_eqIntS.calls kj22 _ _ t363 _ _ t385 true _ ?side1 ?side2 ?side3 ?side4 A52.out).mono ?_);(case side1=>exact bT HO_13.out);(case side2=>exact(Kd.R_reads' HO_13.out).2.1);(case side3=>exact bT HO387.out);(case side4=>exact(Kd.R_reads' HO387.out).2.1);rintro e w' ⟨rfl,⟨nd,rfl⟩⟩;refine⟨_,rfl,?_⟩)|((with_reducible refine gate_callee (f:=28) rfl ?_);refine goesA (some 79) rfl rfl Try.func28 #[.slice Ao38 t360.length co38,.int .i64 1] rfl ?_;(with_reducible refine(laws_markContactS.calls kj22 (fun k_=>some k_=(.slice Ao38 t360.length co38:Value).ownBlock) (.slice Ao38 t360.length co38) t360 1 t389 t390 w _ ?side1 ?side2 A54.out).mono ?_);(case side1=>repeat (first|(with_reducible first|exact HB.out|apply below_alloc|apply pw_below_drewN|apply below_drew1|refine below_set ?_ GE337.out)|exact HB.out));(case side2=>exact Kd.R_tight rfl HO_12.out);rintro e w62 ⟨rfl,hy0,hb,hkp⟩;refine⟨_,rfl,?_⟩;have n0_:=Aside0.mk (Kd.R_mono (ok':=fun k_=>some k_≠(.slice Ao39 t363.length co39:Value).ownBlock∧some k_≠(v377:Value).ownBlock∧some k_≠(.slice Ao61 t385.length co61:Value).ownBlock) (Kd.R_keptB ((Kd.R_apart' HO_10.out (Kd.R_typed HO_12.out) (by decide))) hkp (fun k_ hk_ hs_=>(hk_.2) hs_)) (fun k_ hk_=>⟨hk_.1.1.1.1,hk_.1.1.1.2,hk_.1.1.2⟩));have n1_:=Aside0.mk (Kd.R_reok rfl hy0 (fun k_ e_=>HO_12.out.1 k_ e_));have n2_:=Aside0.mk (Kd.R_mono (ok':=fun k_=>some k_≠(v357:Value).ownBlock∧some k_≠(v377:Value).ownBlock∧some k_≠(.slice Ao61 t385.length co61:Value).ownBlock) (Kd.R_keptB ((Kd.R_apart' HO_13.out (Kd.R_typed HO_12.out) (by decide))) hkp (fun k_ hk_ hs_=>(hk_.2) hs_)) (fun k_ hk_=>⟨hk_.1.1.1.1,hk_.1.1.1.2,hk_.1.1.2⟩));have n3_:=Aside0.mk (Kd.R_mono (ok':=fun k_=>some k_≠(v357:Value).ownBlock∧some k_≠(.slice Ao39 t363.length co39:Value).ownBlock∧some k_≠(.slice Ao61 t385.length co61:Value).ownBlock) (Kd.R_keptB ((Kd.R_apart' HO_14.out (Kd.R_typed HO_12.out) (by decide))) hkp (fun k_ hk_ hs_=>(hk_.2) hs_)) (fun k_ hk_=>⟨hk_.1.1.1.1,hk_.1.1.1.2,hk_.1.1.2⟩));have n4_:=Aside0.mk (blk_kept (bL BK337.out) hkp (fun hs_=>(fun e_=>(Kd.R_ne HO_12.out BK337.out (by decide)) e_) hs_));have n5_:=Aside0.mk (Kd.R_mono (ok':=fun k_=>some k_≠(.slice Ao38 t360.length co38:Value).ownBlock) (Kd.R_keptB (HO383.out) hkp (fun k_ hk_ hs_=>(hk_.2) hs_)) (fun k_ hk_=>hk_.1.2));have n6_:=Aside0.mk (Kd.R_mono (ok':=fun k_=>some k_≠(v357:Value).ownBlock∧some k_≠(.slice Ao39 t363.length co39:Value).ownBlock∧some k_≠(v377:Value).ownBlock) (Kd.R_keptB ((Kd.R_apart' HO387.out (Kd.R_typed HO_12.out) (by decide))) hkp (fun k_ hk_ hs_=>(hk_.2) hs_)) (fun k_ hk_=>⟨hk_.1.1.1.1.2,hk_.1.1.1.2,hk_.1.1.2⟩));have n7_:=Aside0.mk (hb);clear HO_10 HO_12 HO_13 HO_14 BK337 HO383 HO387 HB;have HO_10:=n0_;have HO_12:=n1_;have HO_13:=n2_;have HO_14:=n3_;have BK337:=n4_;have HO383:=n5_;have HO387:=n6_;have HB:=n7_;clear n0_ n1_ n2_ n3_ n4_ n5_ n6_ n7_;(try clear hb);(try clear hkp);(try clear hy0))|((with_reducible refine gate_callee (f:=29) rfl ?_);refine goesA (some 82) rfl rfl Try.func29 #[.slice Ao39 t363.length co39,.int .i64 t389] rfl ?_;(with_reducible refine(laws_markIntS.calls kj22 (fun k_=>some k_=(.slice Ao39 t363.length co39:Value).ownBlock) (.slice Ao39 t363.length co39) t363 t389 t391 t392 w _ ?side1 ?side2 A55.out).mono ?_);(case side1=>repeat (first|(with_reducible first|exact HB.out|apply below_alloc|apply pw_below_drewN|apply below_drew1|refine below_set ?_ GE337.out)|exact HB.out));(case side2=>exact Kd.R_tight rfl HO_13.out);rintro e w63 ⟨rfl,hy0,hb,hkp⟩;refine⟨_,rfl,?_⟩;have n0_:=Aside0.mk (Kd.R_mono (ok':=fun k_=>some k_≠(.slice Ao39 t363.length co39:Value).ownBlock∧some k_≠(v377:Value).ownBlock∧some k_≠(.slice Ao61 t385.length co61:Value).ownBlock) (Kd.R_keptB (HO_10.out) hkp (fun k_ hk_ hs_=>(hk_.1) hs_)) (fun k_ hk_=>⟨hk_.1.1,hk_.1.2.1,hk_.1.2.2⟩));have n1_:=Aside0.mk (Kd.R_mono (ok':=fun k_=>some k_≠(.slice Ao58 t381.length co58:Value).ownBlock) (Kd.R_keptB ((Kd.R_apart' HO_12.out (Kd.R_typed HO_13.out) (by decide))) hkp (fun k_ hk_ hs_=>(hk_.2) hs_)) (fun k_ hk_=>hk_.1.1.2));have n2_:=Aside0.mk (Kd.R_reok rfl hy0 (fun k_ e_=>HO_13.out.1 k_ e_));have n3_:=Aside0.mk (Kd.R_mono (ok':=fun k_=>some k_≠(v357:Value).ownBlock∧some k_≠(.slice Ao39 t363.length co39:Value).ownBlock∧some k_≠(.slice Ao61 t385.length co61:Value).ownBlock) (Kd.R_keptB (HO_14.out) hkp (fun k_ hk_ hs_=>(hk_.2.1) hs_)) (fun k_ hk_=>⟨hk_.1.1,hk_.1.2.1,hk_.1.2.2⟩));have n4_:=Aside0.mk (blk_kept (bL BK337.out) hkp (fun hs_=>(fun e_=>(Kd.R_ne HO_13.out BK337.out (by decide)) e_) hs_));have n5_:=Aside0.mk (Kd.R_mono (ok':=fun k_=>some k_≠(.slice Ao38 t360.length co38:Value).ownBlock) (Kd.R_keptB ((Kd.R_apart' HO383.out (Kd.R_typed HO_13.out) (by decide))) hkp (fun k_ hk_ hs_=>(hk_.2) hs_)) (fun k_ hk_=>hk_.1.1));have n6_:=Aside0.mk (Kd.R_mono (ok':=fun k_=>some k_≠(v357:Value).ownBlock∧some k_≠(.slice Ao39 t363.length co39:Value).ownBlock∧some k_≠(v377:Value).ownBlock) (Kd.R_keptB (HO387.out) hkp (fun k_ hk_ hs_=>(hk_.2.1) hs_)) (fun k_ hk_=>⟨hk_.1.1,hk_.1.2.1,hk_.1.2.2⟩));have n7_:=Aside0.mk (hb);clear HO_10 HO_12 HO_13 HO_14 BK337 HO383 HO387 HB;have HO_10:=n0_;have HO_12:=n1_;have HO_13:=n2_;have HO_14:=n3_;have BK337:=n4_;have HO383:=n5_;have HO387:=n6_;have HB:=n7_;clear n0_ n1_ n2_ n3_ n4_ n5_ n6_ n7_;(try clear hb);(try clear hkp);(try clear hy0)))
         (try simp only[Act.put,List.setIfInBounds_toArray,List.set_cons_zero,List.set_cons_succ])
         go_cut [95] (fun v95 wc => ∃ (kq:Nat) (x95_55:Bool),v95=.bool x95_55∧Aside0 (laws_FnExactDeliveredBy.j1 kq l0 l2 a3 t356 t359 t376 x95_55 a1_0 a1_1 a1_2 a1_3 a1_4 a1_5 a1_6 a1_7 a1_8 a1_9=some r)∧Aside0 (kq≤kj22)∧Aside0 (Kd.R (Kd.int .i64) 3 wc w.heap.size (fun k_=>some k_≠(v377:Value).ownBlock) v357 t356)∧Aside0 (Kd.R (Kd.int .i64) 3 wc w.heap.size (fun k_=>some k_≠(v357:Value).ownBlock) v377 t376)∧Aside0 (wc.heap[gb337]?=some (.cells #[.int .i64 a1_0,.int .i64 a1_1,.bool a1_2,.int .i64 a1_3,.int .i64 a1_4,.int .i64 a1_5,.int .i64 a1_6,.int .i64 a1_7,.int .i64 a1_8,.string a1_9] 82 (0,0)))∧Aside0 (Below w.heap.size w wc))
         case first =>
          have H:=HC56.out
          clear HC56
          by_cases c64:t391 < 0
          ·rw[if_pos c64] at H
           have c64b0:decide (t391 < 0)=true:=decide_eq_true c64
           clear c64
           (first|rw[c64b0]|(simp only[i64_w,i32_w];rw[c64b0])|skip)
           have H':=Aside0.mk H
           clear H
           go_wp2
           go_meet
           case rel=>exact⟨_,(true),(bR),H',⟨by have:=HJ22.out;first|omega|exact Nat.le_refl _⟩,⟨by(with_reducible repeat (first|apply Kd.R_alloc|apply Kd.R_drewN|apply Kd.R_drew));exact Kd.R_mono HO_10.out (fun _ hk=>hk.2.1)⟩,⟨by(with_reducible repeat (first|apply Kd.R_alloc|apply Kd.R_drewN|apply Kd.R_drew));exact Kd.R_mono HO_14.out (fun _ hk=>hk.1)⟩,⟨by(with_reducible repeat (first|refine blk_drewN ?_ _|refine blk_drew ?_|refine blk_alloc ?_ _));exact BK337.out⟩,⟨bS GE337.out⟩⟩
          ·rw[if_neg c64] at H
           have c64b0:decide (t391 < 0)=false:=decide_eq_false c64
           clear c64
           (first|rw[c64b0]|(simp only[i64_w,i32_w];rw[c64b0])|skip)
           replace H:=Option.bind_eq_some_iff.mp H
           obtain⟨t393,A650,H⟩:=H
           have A65:=Aside0.mk A650
           clear A650
           by_cases c66:t393=true
           ·subst c66
            have H1:(laws_FnExactDeliveredBy.j1 kj22 l0 l2 a3 t356 t359 t376 (t379 != t359) a1_0 a1_1 a1_2 a1_3 a1_4 a1_5 a1_6 a1_7 a1_8 a1_9)=some r:=by rw[if_pos rfl] at H;exact H
            clear H
            have H:=H1
            clear H1
            have H':=Aside0.mk H
            clear H
            obtain⟨Ao67,co67,eo67⟩:=Kd.R_slice HO_14.out
            subst eo67
            obtain⟨Ao68,co68,eo68⟩:=Kd.R_slice HO_10.out
            subst eo68
            go_wp2_with (first|(go_at_call 26;(with_reducible refine(laws_eqIntS.calls kj22 _ _ t376 _ _ t356 true _ ?side1 ?side2 ?side3 ?side4 A65.out).mono ?_);(case side1=>exact bT HO_14.out);(case side2=>exact(Kd.R_reads' HO_14.out).2.1);(case side3=>exact bT HO_10.out);(case side4=>exact(Kd.R_reads' HO_10.out).2.1);rintro e w' ⟨rfl,⟨nd,rfl⟩⟩))
            go_meet
            case rel=>exact⟨_,((t379 != t359)),(bR),H',⟨by have:=HJ22.out;first|omega|exact Nat.le_refl _⟩,⟨by(with_reducible repeat (first|apply Kd.R_alloc|apply Kd.R_drewN|apply Kd.R_drew));exact Kd.R_mono HO_10.out (fun _ hk=>hk.2.1)⟩,⟨by(with_reducible repeat (first|apply Kd.R_alloc|apply Kd.R_drewN|apply Kd.R_drew));exact Kd.R_mono HO_14.out (fun _ hk=>hk.1)⟩,⟨by(with_reducible repeat (first|refine blk_drewN ?_ _|refine blk_drew ?_|refine blk_alloc ?_ _));exact BK337.out⟩,⟨bS GE337.out⟩⟩
           ·replace c66:=Bool.eq_false_iff.mpr c66
            subst c66
            have H1:(laws_FnExactDeliveredBy.j1 kj22 l0 l2 a3 t356 t359 t376 true a1_0 a1_1 a1_2 a1_3 a1_4 a1_5 a1_6 a1_7 a1_8 a1_9)=some r:=by rw[if_neg (show ¬ (false=true) by decide)] at H;exact H
            clear H
            have H:=H1
            clear H1
            have H':=Aside0.mk H
            clear H
            obtain⟨Ao69,co69,eo69⟩:=Kd.R_slice HO_14.out
            subst eo69
            obtain⟨Ao70,co70,eo70⟩:=Kd.R_slice HO_10.out
            subst eo70
            go_wp2_with (first|(go_at_call 26;(with_reducible refine(laws_eqIntS.calls kj22 _ _ t376 _ _ t356 false _ ?side1 ?side2 ?side3 ?side4 A65.out).mono ?_);(case side1=>exact bT HO_14.out);(case side2=>exact(Kd.R_reads' HO_14.out).2.1);(case side3=>exact bT HO_10.out);(case side4=>exact(Kd.R_reads' HO_10.out).2.1);rintro e w' ⟨rfl,⟨nd,rfl⟩⟩))
            go_meet
            case rel=>exact⟨_,(true),(bR),H',⟨by have:=HJ22.out;first|omega|exact Nat.le_refl _⟩,⟨by(with_reducible repeat (first|apply Kd.R_alloc|apply Kd.R_drewN|apply Kd.R_drew));exact Kd.R_mono HO_10.out (fun _ hk=>hk.2.1)⟩,⟨by(with_reducible repeat (first|apply Kd.R_alloc|apply Kd.R_drewN|apply Kd.R_drew));exact Kd.R_mono HO_14.out (fun _ hk=>hk.1)⟩,⟨by(with_reducible repeat (first|refine blk_drewN ?_ _|refine blk_drew ?_|refine blk_alloc ?_ _));exact BK337.out⟩,⟨bS GE337.out⟩⟩
         case rest =>
          clear HC56
          try clear c1
          try clear c2
          try clear p2
          try clear c3
          try clear c4
          try clear c5
          try clear c5b0
          try clear c5b1
          try clear c6
          try clear c8
          try clear c8b0
          try clear c11
          try clear c11b0
          try clear c22
          try clear c24
          try clear c26
          try clear c27
          try clear c28
          try clear c29
          try clear c32
          try clear c42
          try clear c47
          try clear c50
          try clear c51
          try clear c53
          try clear c59
          try clear c60
          try clear c64
          try clear c64b0
          try clear c66
          try clear hcz13_0
          try clear hcz13_1
          try clear hcz13_2
          try clear hcz13_3
          try clear hcz13_4
          try clear hcz13_5
          try clear hcz13_6
          try clear hcz13_7
          try clear hcz13_8
          try clear hcz13_9
          try clear hcz25_0
          try clear hcz25_1
          try clear hcz25_2
          try clear hcz25_3
          try clear hcz25_4
          try clear hcz25_5
          try clear hcz25_6
          try clear hcz25_7
          try clear hcz25_8
          try clear hcz25_9
          try clear hcz36_0
          try clear hcz36_1
          try clear hcz36_2
          try clear hcz36_3
          try clear hcz36_4
          try clear hcz36_5
          try clear hcz36_6
          try clear hcz36_7
          try clear hcz36_8
          try clear hcz36_9
          try clear hfz13_0
          try clear hfz13_1
          try clear hfz13_2
          try clear hfz13_3
          try clear hfz13_4
          try clear hfz13_5
          try clear hfz13_6
          try clear hfz13_7
          try clear hfz13_8
          try clear hfz13_9
          try clear hfz25_0
          try clear hfz25_1
          try clear hfz25_2
          try clear hfz25_3
          try clear hfz25_4
          try clear hfz25_5
          try clear hfz25_6
          try clear hfz25_7
          try clear hfz25_8
          try clear hfz25_9
          try clear hfz36_0
          try clear hfz36_1
          try clear hfz36_2
          try clear hfz36_3
          try clear hfz36_4
          try clear hfz36_5
          try clear hfz36_6
          try clear hfz36_7
          try clear hfz36_8
          try clear hfz36_9
          try clear p2
          obtain⟨kq,x95_55,rfl,HA,HJ55,HO_10,HO_14,BK337,HB⟩:=hcut
          cases kq with
          | zero=>exact absurd HA.out (by simp[laws_FnExactDeliveredBy.j1])
          | succ kj55 =>
           have H:=HA.out
           clear HA
           simp only[laws_FnExactDeliveredBy.j1] at H
           by_cases c71:x95_55=true
           ·subst c71
            have H1:(some false)=some r:=by rw[if_pos rfl] at H;exact H
            clear H
            have H:=H1
            clear H1
            obtain rfl:=Option.some.inj H
            go_wp2
            go_ret
            exact⟨bE,bS GE337.out⟩
           ·replace c71:=Bool.eq_false_iff.mpr c71
            subst c71
            have H1:((laws_markIntS.f kj55 t376 1).bind fun bt394=>((laws_heldIntS.f kj55 bt394.2 1).bind fun t396=>(if t396 < 0 then (some false) else (if t396=bt394.1 then ((laws_toContactS.f kj55 l0).bind fun t397=>((laws_toBundle.f a1_0 a1_1 a1_2 a1_3 a1_4 a1_5 a1_6 a1_7 a1_8 a1_9).bind fun bt400=>((laws_toIntS.f kj55 l2).bind fun t410=>((impl_DeliveredBy.f kj55 t397 bt400.1 bt400.2.1 bt400.2.2.1 bt400.2.2.2.1 bt400.2.2.2.2.1 bt400.2.2.2.2.2.1 bt400.2.2.2.2.2.2.1 bt400.2.2.2.2.2.2.2.1 bt400.2.2.2.2.2.2.2.2.1 bt400.2.2.2.2.2.2.2.2.2 t410 a3).bind fun bt413=>((laws_eqIntS.f kj55 bt413.1 t356).bind fun t417=>(if t417=true then (laws_FnExactDeliveredBy.j2 kj55 bt394.2 bt394.1 (bt413.2 != t359)) else (laws_FnExactDeliveredBy.j2 kj55 bt394.2 bt394.1 true))))))) else (some false)))))=some r:=by rw[if_neg (show ¬ (false=true) by decide)] at H;exact H
            clear H
            have H:=H1
            clear H1
            replace H:=Option.bind_eq_some_iff.mp H
            obtain⟨⟨t394,t395⟩,A720,H⟩:=H
            have A72:=Aside0.mk A720
            clear A720
            replace H:=Option.bind_eq_some_iff.mp H
            obtain⟨t396,A730,H⟩:=H
            have A73:=Aside0.mk A730
            clear A730
            by_cases c74:t396 < 0
            ·rw[if_pos c74] at H
             have c74b0:decide (t396 < 0)=true:=decide_eq_true c74
             clear c74
             obtain rfl:=Option.some.inj H
             obtain⟨Ao75,co75,eo75⟩:=Kd.R_slice HO_14.out
             subst eo75
             go_wp2_with (first|((with_reducible refine gate_callee (f:=29) rfl ?_);refine goesA (some 98) rfl rfl Try.func29 #[.slice Ao75 t376.length co75,.int .i64 1] rfl ?_;(with_reducible refine(laws_markIntS.calls kj55 (fun k_=>some k_=(.slice Ao75 t376.length co75:Value).ownBlock) (.slice Ao75 t376.length co75) t376 1 t394 t395 w _ ?side1 ?side2 A72.out).mono ?_);(case side1=>repeat (first|(with_reducible first|exact HB.out|apply below_alloc|apply pw_below_drewN|apply below_drew1|refine below_set ?_ GE337.out)|exact HB.out));(case side2=>exact Kd.R_tight rfl HO_14.out);rintro e w76 ⟨rfl,hy0,hb,hkp⟩;refine⟨_,rfl,?_⟩;have n0_:=Aside0.mk (Kd.R_mono (ok':=fun k_=>some k_≠(.slice Ao75 t376.length co75:Value).ownBlock) (Kd.R_keptB (HO_10.out) hkp (fun k_ hk_ hs_=>(hk_) hs_)) (fun k_ hk_=>hk_.1));have n1_:=Aside0.mk (Kd.R_reok rfl hy0 (fun k_ e_=>HO_14.out.1 k_ e_));have n2_:=Aside0.mk (blk_kept (bL BK337.out) hkp (fun hs_=>(fun e_=>(Kd.R_ne HO_14.out BK337.out (by decide)) e_) hs_));have n3_:=Aside0.mk (hb);clear HO_10 HO_14 BK337 HB;have HO_10:=n0_;have HO_14:=n1_;have BK337:=n2_;have HB:=n3_;clear n0_ n1_ n2_ n3_;(try clear hb);(try clear hkp);(try clear hy0))|((with_reducible refine gate_callee (f:=30) rfl ?_);refine goesL_ (some 101) rfl rfl Try.func30 (by kernel_rfl) rfl #[.slice Ao75 t395.length co75,.int .i64 1] rfl (by(try simp only[List.map_toArray,List.map_cons,List.map_nil]);first|done|(rw[show t395.length=t376.length from (Kd.R_reads' HO_14.out).1.symm]<;>rfl)|rfl|(simp only[List.length_drop,List.length_take];rfl)) ?_;(with_reducible refine(laws_heldIntS.calls kj55 _ _ t395 1 t396 _ ?side1 ?side2 A73.out).mono ?_);(case side1=>exact bT HO_14.out);(case side2=>rw[show t395.length=t376.length from (Kd.R_reads' HO_14.out).1.symm];exact(Kd.R_reads' HO_14.out).2.1);rintro e w' ⟨rfl,⟨nd,rfl⟩⟩;refine⟨_,rfl,?_⟩))
             go_ret
             exact⟨bE,bS GE337.out⟩
            ·rw[if_neg c74] at H
             have c74b0:decide (t396 < 0)=false:=decide_eq_false c74
             clear c74
             by_cases c77:t396=t394
             ·rw[if_pos c77] at H
              have c77b0:(t396 == t394)=true:=beq_iff_eq.mpr c77
              have c77b1:(t396 != t394)=false:=bne_eq_false_iff_eq.mpr c77
              clear c77
              replace H:=Option.bind_eq_some_iff.mp H
              obtain⟨t397,A780,H⟩:=H
              have A78:=Aside0.mk A780
              clear A780
              replace H:=Option.bind_eq_some_iff.mp H
              obtain⟨⟨t400,t401,t402,t403,t404,t405,t406,t407,t408,t409⟩,A790,H⟩:=H
              have A79:=Aside0.mk A790
              clear A790
              replace H:=Option.bind_eq_some_iff.mp H
              obtain⟨t410,A800,H⟩:=H
              have A80:=Aside0.mk A800
              clear A800
              replace H:=Option.bind_eq_some_iff.mp H
              obtain⟨⟨t413,t416⟩,A810,H⟩:=H
              have A81:=Aside0.mk A810
              clear A810
              have HC82:=Aside0.mk H
              clear H
              obtain⟨Ao83,co83,eo83⟩:=Kd.R_slice HO_14.out
              subst eo83
              try go_wp2_with (first|((with_reducible refine gate_callee (f:=29) rfl ?_);refine goesA (some 98) rfl rfl Try.func29 #[.slice Ao83 t376.length co83,.int .i64 1] rfl ?_;(with_reducible refine(laws_markIntS.calls kj55 (fun k_=>some k_=(.slice Ao83 t376.length co83:Value).ownBlock) (.slice Ao83 t376.length co83) t376 1 t394 t395 w _ ?side1 ?side2 A72.out).mono ?_);(case side1=>repeat (first|(with_reducible first|exact HB.out|apply below_alloc|apply pw_below_drewN|apply below_drew1|refine below_set ?_ GE337.out)|exact HB.out));(case side2=>exact Kd.R_tight rfl HO_14.out);rintro e w84 ⟨rfl,hy0,hb,hkp⟩;refine⟨_,rfl,?_⟩;have n0_:=Aside0.mk (Kd.R_mono (ok':=fun k_=>some k_≠(.slice Ao83 t376.length co83:Value).ownBlock) (Kd.R_keptB (HO_10.out) hkp (fun k_ hk_ hs_=>(hk_) hs_)) (fun k_ hk_=>hk_.1));have n1_:=Aside0.mk (Kd.R_reok rfl hy0 (fun k_ e_=>HO_14.out.1 k_ e_));have n2_:=Aside0.mk (blk_kept (bL BK337.out) hkp (fun hs_=>(fun e_=>(Kd.R_ne HO_14.out BK337.out (by decide)) e_) hs_));have n3_:=Aside0.mk (hb);clear HO_10 HO_14 BK337 HB;have HO_10:=n0_;have HO_14:=n1_;have BK337:=n2_;have HB:=n3_;clear n0_ n1_ n2_ n3_;(try clear hb);(try clear hkp);(try clear hy0))|((with_reducible refine gate_callee (f:=30) rfl ?_);refine goesL_ (some 101) rfl rfl Try.func30 (by kernel_rfl) rfl #[.slice Ao83 t395.length co83,.int .i64 1] rfl (by(try simp only[List.map_toArray,List.map_cons,List.map_nil]);first|done|(rw[show t395.length=t376.length from (Kd.R_reads' HO_14.out).1.symm]<;>rfl)|rfl|(simp only[List.length_drop,List.length_take];rfl)) ?_;(with_reducible refine(laws_heldIntS.calls kj55 _ _ t395 1 t396 _ ?side1 ?side2 A73.out).mono ?_);(case side1=>exact bT HO_14.out);(case side2=>rw[show t395.length=t376.length from (Kd.R_reads' HO_14.out).1.symm];exact(Kd.R_reads' HO_14.out).2.1);rintro e w' ⟨rfl,⟨nd,rfl⟩⟩;refine⟨_,rfl,?_⟩))
              (try (rw[drewN_self w84];generalize hq_:World.drewN w84 _=w84;have n0_:Aside0 (Kd.R (Kd.int .i64) 3 w84 w.heap.size (fun k_=>some k_≠(.slice Ao83 t376.length co83:Value).ownBlock) v357 t356):=⟨by rw[← hq_];exact(bK HO_10.out)⟩;have n1_:Aside0 (Kd.R (Kd.int .i64) 3 w84 w.heap.size (fun k_=>some k_≠(v357:Value).ownBlock) (.slice Ao83 t376.length co83) t395):=⟨by rw[← hq_];exact(bK HO_14.out)⟩;have n2_:Aside0 (w84.heap[gb337]?=some (.cells #[.int .i64 a1_0,.int .i64 a1_1,.bool a1_2,.int .i64 a1_3,.int .i64 a1_4,.int .i64 a1_5,.int .i64 a1_6,.int .i64 a1_7,.int .i64 a1_8,.string a1_9] 82 (0,0))):=⟨by rw[← hq_];exact(bL BK337.out)⟩;have n3_:Aside0 (Below w.heap.size w w84):=⟨by rw[← hq_];exact(bS GE337.out)⟩;clear HO_10 HO_14 BK337 HB hq_;have HO_10:=n0_;have HO_14:=n1_;have BK337:=n2_;have HB:=n3_;clear n0_ n1_ n2_ n3_))
              have n0_:=Aside0.mk (Kd.R_drew HO_10.out)
              have n1_:=Aside0.mk (Kd.R_drew HO_14.out)
              have n2_:=Aside0.mk (blk_drew BK337.out)
              have n3_:=Aside0.mk (below_drew1 HB.out)
              clear HO_10 HO_14 BK337 HB
              have HO_10:=n0_
              have HO_14:=n1_
              have BK337:=n2_
              have HB:=n3_
              clear n0_ n1_ n2_ n3_
              refine start_ (n:=13) (S:=fun w'=>w'.cell? ⟨gb337,0,none⟩=some (.int .i64 a1_0)∧w'.cell? ⟨gb337,1,none⟩=some (.int .i64 a1_1)∧w'.cell? ⟨gb337,2,none⟩=some (.bool a1_2)∧w'.cell? ⟨gb337,3,none⟩=some (.int .i64 a1_3)∧w'.cell? ⟨gb337,4,none⟩=some (.int .i64 a1_4)∧w'.cell? ⟨gb337,5,none⟩=some (.int .i64 a1_5)∧w'.cell? ⟨gb337,6,none⟩=some (.int .i64 a1_6)∧w'.cell? ⟨gb337,7,none⟩=some (.int .i64 a1_7)∧w'.cell? ⟨gb337,8,none⟩=some (.int .i64 a1_8)∧w'.cell? ⟨gb337,9,none⟩=some (.string a1_9)) (ds:=[]) #[false,false,false,false,false,false,false,false,false,false,false,false,false] (by kernel_rfl) rfl rfl ⟨(blk_cell BK337.out 0).trans rfl,(blk_cell BK337.out 1).trans rfl,(blk_cell BK337.out 2).trans rfl,(blk_cell BK337.out 3).trans rfl,(blk_cell BK337.out 4).trans rfl,(blk_cell BK337.out 5).trans rfl,(blk_cell BK337.out 6).trans rfl,(blk_cell BK337.out 7).trans rfl,(blk_cell BK337.out 8).trans rfl,(blk_cell BK337.out 9).trans rfl⟩ (fun hHeld => ?_);refine with_tabW laws_FnExactDeliveredBy.tab33 laws_FnExactDeliveredBy.bits33 (fun HT_ HW_ => ?_)
              generalize w84.drew=w85 at HO_10 HO_14 BK337 HB hHeld ⊢
              refine pure_ (i:=0) (N:=some 108) (v:=?_) (a':=?_) #[true,false,false,false,false,false,false,false,false,false,false,false,false] rfl rfl (any_of HT_.out (by kernel_rfl)) (fun _ _ _ h=>h) (Or.inl ⟨by rfl,?_⟩) ?_ ?_
              rotate_left
              ·intro w'
               go_simp
               with_reducible rfl
              rotate_left
              ·simp only[Act.put,List.setIfInBounds_toArray,List.set_cons_zero,List.set_cons_succ,i64_w,i32_w]
               rfl
              refine pure_ (i:=4) (N:=some 112) (v:=?_) (a':=?_) #[true,false,false,false,true,false,false,false,false,false,false,false,false] rfl rfl (any_of HT_.out (by kernel_rfl)) (fun _ _ _ h=>h) (Or.inl ⟨by rfl,?_⟩) ?_ ?_
              rotate_left
              ·intro w'
               go_simp
               with_reducible rfl
              rotate_left
              ·simp only[Act.put,List.setIfInBounds_toArray,List.set_cons_zero,List.set_cons_succ,i64_w,i32_w]
               rfl
              refine pure_ (i:=6) (N:=some 114) (v:=?_) (a':=?_) #[true,false,false,false,true,false,true,false,false,false,false,false,false] rfl rfl (any_of HT_.out (by kernel_rfl)) (fun _ _ _ h=>h) (Or.inl ⟨by rfl,?_⟩) ?_ ?_
              rotate_left
              ·intro w'
               go_simp
               with_reducible rfl
              rotate_left
              ·simp only[Act.put,List.setIfInBounds_toArray,List.set_cons_zero,List.set_cons_succ,i64_w,i32_w]
               rfl
              refine take_ (i:=2) (N:=some 110) (v:=?_) (a':=?_) #[true,false,true,false,true,false,true,false,false,false,false,false,false] rfl rfl (take_ofW HT_.out HW_.out (by kernel_rfl)) (fun _ _ _ h=>h) (Or.inl ⟨by rfl,?_⟩) hHeld ?_ ?_
              rotate_left
              ·rintro w' ⟨s0,s1,s2,s3,s4,s5,s6,s7,s8,s9⟩
               go_simp
               with_reducible rfl
              rotate_left
              ·simp only[Act.put,List.setIfInBounds_toArray,List.set_cons_zero,List.set_cons_succ,i64_w,i32_w]
               rfl
              refine one_ (i:=1) (N:=some 109) #[true,true,true,false,true,false,true,false,false,false,false,false,false] rfl rfl (one_of HT_.out (by kernel_rfl)) (by decide) (fun K hK => ?_)
              refine goes_ Try.func24 (by kernel_rfl) rfl #[.slice A0 l0.length c0] (by rfl) rfl rfl (by(try simp only[List.map_toArray,List.map_cons,List.map_nil]);first|done|rfl|(simp only[List.length_drop,List.length_take];rfl)) ?_
              with_reducible refine(laws_toContactS.calls kj55 _ _ l0 t397 _ ?side1 ?side2 A78.out).mono ?_
              (case side1=>exact bC HR0.out)
              (case side2=>exact HC0.out)
              rintro e w86 ⟨v398,rfl,ho0,hb⟩
              refine⟨_,rfl,?_⟩
              have n0_:=Aside0.mk (Kd.R_below (bK HO_10.out) hb)
              have n1_:=Aside0.mk (Kd.R_below (bK HO_14.out) hb)
              have n2_:=Aside0.mk (Kd.R_lower ho0 (below_size (bS GE337.out)))
              have n3_:=Aside0.mk (blk_below (g:=gb337) (o:=.cells #[.int .i64 a1_0,.int .i64 a1_1,.bool a1_2,.int .i64 a1_3,.int .i64 a1_4,.int .i64 a1_5,.int .i64 a1_6,.int .i64 a1_7,.int .i64 a1_8,.string a1_9] 82 (0,0)) (bL BK337.out) hb)
              have n4_:=Aside0.mk (below_step (bS GE337.out) hb)
              clear HO_10 HO_14 BK337 HB
              have HO_10:=n0_
              have HO_14:=n1_
              have HO399:=n2_
              have BK337:=n3_
              have HB:=n4_
              clear n0_ n1_ n2_ n3_ n4_
              (try clear hb)
              (try clear hb2)
              (try clear hk)
              (try clear hi)
              (try clear ho0)
              refine hK.out _ _ ⟨(blk_cell BK337.out 0).trans rfl,(blk_cell BK337.out 1).trans rfl,(blk_cell BK337.out 2).trans rfl,(blk_cell BK337.out 3).trans rfl,(blk_cell BK337.out 4).trans rfl,(blk_cell BK337.out 5).trans rfl,(blk_cell BK337.out 6).trans rfl,(blk_cell BK337.out 7).trans rfl,(blk_cell BK337.out 8).trans rfl,(blk_cell BK337.out 9).trans rfl⟩ (fun hHeld => ?_)
              clear hK K
              refine norm_ (a':=?_) ?_ ?_
              rotate_left
              ·show Act.put _ (some 109) _=_
               simp only[Act.put,List.setIfInBounds_toArray,List.set_cons_zero,List.set_cons_succ,i64_w,i32_w]
               rfl
              refine one_ (i:=3) (N:=some 111) #[true,true,true,true,true,false,true,false,false,false,false,false,false] rfl rfl (one_of HT_.out (by kernel_rfl)) (by decide) (fun K hK => ?_)
              refine goes_ Try.func53 (by kernel_rfl) rfl #[.agg #[.int .i64 a1_0,.int .i64 a1_1,.bool a1_2,.int .i64 a1_3,.int .i64 a1_4,.int .i64 a1_5,.int .i64 a1_6,.int .i64 a1_7,.int .i64 a1_8,.string a1_9]] (by rfl) rfl rfl (by(try simp only[List.map_toArray,List.map_cons,List.map_nil]);first|done|rfl|(simp only[List.length_drop,List.length_take];rfl)) ?_
              with_reducible refine(laws_toBundle.calls a1_0 a1_1 a1_2 a1_3 a1_4 a1_5 a1_6 a1_7 a1_8 a1_9 t400 t401 t402 t403 t404 t405 t406 t407 t408 t409 _ A79.out).mono ?_
              rintro e w87 ⟨rfl,hb⟩
              refine⟨_,rfl,?_⟩
              have n0_:=Aside0.mk (Kd.R_below (bK HO_10.out) hb)
              have n1_:=Aside0.mk (Kd.R_below (bK HO_14.out) hb)
              have n2_:=Aside0.mk (Kd.R_below (bK HO399.out) hb)
              have n3_:=Aside0.mk (blk_below (g:=gb337) (o:=.cells #[.int .i64 a1_0,.int .i64 a1_1,.bool a1_2,.int .i64 a1_3,.int .i64 a1_4,.int .i64 a1_5,.int .i64 a1_6,.int .i64 a1_7,.int .i64 a1_8,.string a1_9] 82 (0,0)) (bL BK337.out) hb)
              have n4_:=Aside0.mk (below_step (bS GE337.out) hb)
              clear HO_10 HO_14 HO399 BK337 HB
              have HO_10:=n0_
              have HO_14:=n1_
              have HO399:=n2_
              have BK337:=n3_
              have HB:=n4_
              clear n0_ n1_ n2_ n3_ n4_
              (try clear hb)
              (try clear hb2)
              (try clear hk)
              (try clear hi)
              refine hK.out _ _ ⟨(blk_cell BK337.out 0).trans rfl,(blk_cell BK337.out 1).trans rfl,(blk_cell BK337.out 2).trans rfl,(blk_cell BK337.out 3).trans rfl,(blk_cell BK337.out 4).trans rfl,(blk_cell BK337.out 5).trans rfl,(blk_cell BK337.out 6).trans rfl,(blk_cell BK337.out 7).trans rfl,(blk_cell BK337.out 8).trans rfl,(blk_cell BK337.out 9).trans rfl⟩ (fun hHeld => ?_)
              clear hK K
              refine norm_ (a':=?_) ?_ ?_
              rotate_left
              ·show Act.put _ (some 111) _=_
               simp only[Act.put,List.setIfInBounds_toArray,List.set_cons_zero,List.set_cons_succ,i64_w,i32_w]
               rfl
              refine one_ (i:=5) (N:=some 113) #[true,true,true,true,true,true,true,false,false,false,false,false,false] rfl rfl (one_of HT_.out (by kernel_rfl)) (by decide) (fun K hK => ?_)
              refine goes_ Try.func32 (by kernel_rfl) rfl #[.slice A2 l2.length c2] (by rfl) rfl rfl (by(try simp only[List.map_toArray,List.map_cons,List.map_nil]);first|done|rfl|(simp only[List.length_drop,List.length_take];rfl)) ?_
              with_reducible refine(laws_toIntS.calls kj55 _ _ l2 t410 _ ?side1 ?side2 A80.out).mono ?_
              (case side1=>exact bC HR2.out)
              (case side2=>exact HC2.out)
              rintro e w88 ⟨v411,rfl,ho0,hb⟩
              refine⟨_,rfl,?_⟩
              have n0_:=Aside0.mk (Kd.R_elder' (bK HO_10.out) (Kd.R_base ho0) hb)
              have n1_:=Aside0.mk (Kd.R_elder' (bK HO_14.out) (Kd.R_base ho0) hb)
              have n2_:=Aside0.mk (Kd.R_below (bK HO399.out) hb)
              have n3_:=Aside0.mk (Kd.R_lower (Kd.R_new' (Kd.R_new' ho0 (Kd.R_lt (bK HO_10.out))) (Kd.R_lt (bK HO_14.out))) (below_size (bS GE337.out)))
              have n4_:=Aside0.mk (blk_below (g:=gb337) (o:=.cells #[.int .i64 a1_0,.int .i64 a1_1,.bool a1_2,.int .i64 a1_3,.int .i64 a1_4,.int .i64 a1_5,.int .i64 a1_6,.int .i64 a1_7,.int .i64 a1_8,.string a1_9] 82 (0,0)) (bL BK337.out) hb)
              have n5_:=Aside0.mk (below_step (bS GE337.out) hb)
              clear HO_10 HO_14 HO399 BK337 HB
              have HO_10:=n0_
              have HO_14:=n1_
              have HO399:=n2_
              have HO412:=n3_
              have BK337:=n4_
              have HB:=n5_
              clear n0_ n1_ n2_ n3_ n4_ n5_
              (try clear hb)
              (try clear hb2)
              (try clear hk)
              (try clear hi)
              (try clear ho0)
              obtain⟨Ao89,co89,eo89⟩:=Kd.R_slice HO399.out
              (first|subst eo89|(injection eo89 with f1_ f2_ f3_;have f4_:=f1_.symm;have f5_:=f3_.symm;clear f1_ f2_ f3_;subst f4_;subst f5_))
              obtain⟨Ao90,co90,eo90⟩:=Kd.R_slice HO412.out
              (first|subst eo90|(injection eo90 with f1_ f2_ f3_;have f4_:=f1_.symm;have f5_:=f3_.symm;clear f1_ f2_ f3_;subst f4_;subst f5_))
              refine hK.out _ _ ⟨(blk_cell BK337.out 0).trans rfl,(blk_cell BK337.out 1).trans rfl,(blk_cell BK337.out 2).trans rfl,(blk_cell BK337.out 3).trans rfl,(blk_cell BK337.out 4).trans rfl,(blk_cell BK337.out 5).trans rfl,(blk_cell BK337.out 6).trans rfl,(blk_cell BK337.out 7).trans rfl,(blk_cell BK337.out 8).trans rfl,(blk_cell BK337.out 9).trans rfl⟩ (fun hHeld => ?_)
              clear hK K
              refine norm_ (a':=?_) ?_ ?_
              rotate_left
              ·show Act.put _ (some 113) _=_
               simp only[Act.put,List.setIfInBounds_toArray,List.set_cons_zero,List.set_cons_succ,i64_w,i32_w]
               rfl
              refine one_ (i:=7) (N:=some 115) #[true,true,true,true,true,true,true,true,false,false,false,false,false] rfl rfl (one_of HT_.out (by kernel_rfl)) (by decide) (fun K hK => ?_)
              refine goes_ Try.func60 (by kernel_rfl) rfl #[.slice Ao89 t397.length co89,.agg #[.int .i64 t400,.int .i64 t401,.bool t402,.int .i64 t403,.int .i64 t404,.int .i64 t405,.int .i64 t406,.int .i64 t407,.int .i64 t408,.string t409],.slice Ao90 t410.length co90,.int .i64 a3] (by rfl) rfl rfl (by(try simp only[List.map_toArray,List.map_cons,List.map_nil]);first|done|rfl|(simp only[List.length_drop,List.length_take];rfl)) ?_
              with_reducible refine(impl_DeliveredBy.calls kj55 _ _ t397 t400 t401 t402 t403 t404 t405 t406 t407 t408 t409 _ _ t410 a3 t413 t416 _ ?side1 ?side2 ?side3 ?side4 A81.out).mono ?_
              (case side1=>exact bT HO399.out)
              (case side2=>exact(Kd.R_reads' HO399.out).2.1)
              (case side3=>exact bT HO412.out)
              (case side4=>exact(Kd.R_reads' HO412.out).2.1)
              rintro e w91 ⟨v414,rfl,ho0,hb⟩
              refine⟨_,rfl,?_⟩
              have n0_:=Aside0.mk (Kd.R_elder' (bK HO_10.out) (Kd.R_base ho0) hb)
              have n1_:=Aside0.mk (Kd.R_elder' (bK HO_14.out) (Kd.R_base ho0) hb)
              have n2_:=Aside0.mk (Kd.R_below (bK HO399.out) hb)
              have n3_:=Aside0.mk (Kd.R_elder' (bK HO412.out) (Kd.R_base ho0) hb)
              have n4_:=Aside0.mk (Kd.R_lower (Kd.R_new' (Kd.R_new' (Kd.R_new' ho0 (Kd.R_lt (bK HO_10.out))) (Kd.R_lt (bK HO_14.out))) (Kd.R_lt (bK HO412.out))) (below_size (bS GE337.out)))
              have n5_:=Aside0.mk (blk_below (g:=gb337) (o:=.cells #[.int .i64 a1_0,.int .i64 a1_1,.bool a1_2,.int .i64 a1_3,.int .i64 a1_4,.int .i64 a1_5,.int .i64 a1_6,.int .i64 a1_7,.int .i64 a1_8,.string a1_9] 82 (0,0)) (bL BK337.out) hb)
              have n6_:=Aside0.mk (below_step (bS GE337.out) hb)
              clear HO_10 HO_14 HO399 HO412 BK337 HB
              have HO_10:=n0_
              have HO_14:=n1_
              have HO399:=n2_
              have HO412:=n3_
              have HO415:=n4_
              have BK337:=n5_
              have HB:=n6_
              clear n0_ n1_ n2_ n3_ n4_ n5_ n6_
              (try clear hb)
              (try clear hb2)
              (try clear hk)
              (try clear hi)
              (try clear ho0)
              refine hK.out _ _ ⟨(blk_cell BK337.out 0).trans rfl,(blk_cell BK337.out 1).trans rfl,(blk_cell BK337.out 2).trans rfl,(blk_cell BK337.out 3).trans rfl,(blk_cell BK337.out 4).trans rfl,(blk_cell BK337.out 5).trans rfl,(blk_cell BK337.out 6).trans rfl,(blk_cell BK337.out 7).trans rfl,(blk_cell BK337.out 8).trans rfl,(blk_cell BK337.out 9).trans rfl⟩ (fun hHeld => ?_)
              clear hK K
              refine norm_ (a':=?_) ?_ ?_
              rotate_left
              ·show Act.put _ (some 115) _=_
               simp only[Act.put,List.setIfInBounds_toArray,List.set_cons_zero,List.set_cons_succ,i64_w,i32_w]
               rfl
              refine pure_ (i:=8) (N:=some 107) (v:=?_) (a':=?_) #[true,true,true,true,true,true,true,true,true,false,false,false,false] rfl rfl (any_of HT_.out (by kernel_rfl)) (fun _ _ _ h=>h) (Or.inl ⟨by rfl,?_⟩) ?_ ?_
              rotate_left
              ·intro w'
               go_simp
               with_reducible rfl
              rotate_left
              ·simp only[Act.put,List.setIfInBounds_toArray,List.set_cons_zero,List.set_cons_succ,i64_w,i32_w]
               rfl
              refine pure_ (i:=9) (N:=some 116) (v:=?_) (a':=?_) #[true,true,true,true,true,true,true,true,true,true,false,false,false] rfl rfl (any_of HT_.out (by kernel_rfl)) (fun _ _ _ h=>h) (Or.inl ⟨by rfl,?_⟩) ?_ ?_
              rotate_left
              ·intro w'
               go_simp
               with_reducible rfl
              rotate_left
              ·simp only[Act.put,List.setIfInBounds_toArray,List.set_cons_zero,List.set_cons_succ,i64_w,i32_w]
               rfl
              refine pure_ (i:=10) (N:=some 117) (v:=?_) (a':=?_) #[true,true,true,true,true,true,true,true,true,true,true,false,false] rfl rfl (any_of HT_.out (by kernel_rfl)) (fun _ _ _ h=>h) (Or.inl ⟨by rfl,?_⟩) ?_ ?_
              rotate_left
              ·intro w'
               go_simp
               with_reducible rfl
              rotate_left
              ·simp only[Act.put,List.setIfInBounds_toArray,List.set_cons_zero,List.set_cons_succ,i64_w,i32_w]
               rfl
              refine pure_ (i:=11) (N:=some 19) (v:=?_) (a':=?_) #[true,true,true,true,true,true,true,true,true,true,true,true,false] rfl rfl (any_of HT_.out (by kernel_rfl)) (fun _ _ _ h=>h) (Or.inl ⟨by rfl,?_⟩) ?_ ?_
              rotate_left
              ·intro w'
               go_simp
               with_reducible rfl
              rotate_left
              ·simp only[Act.put,List.setIfInBounds_toArray,List.set_cons_zero,List.set_cons_succ,i64_w,i32_w]
               rfl
              refine pure_ (i:=12) (N:=some 20) (v:=?_) (a':=?_) #[true,true,true,true,true,true,true,true,true,true,true,true,true] rfl rfl (any_of HT_.out (by kernel_rfl)) (fun _ _ _ h=>h) (Or.inl ⟨by rfl,?_⟩) ?_ ?_
              rotate_left
              ·intro w'
               go_simp
               with_reducible rfl
              rotate_left
              ·simp only[Act.put,List.setIfInBounds_toArray,List.set_cons_zero,List.set_cons_succ,i64_w,i32_w]
               rfl
              refine done_ (done_of HT_.out (by kernel_rfl)) ?_
              go_upto_region 34 with (fail)
              go_cut [126] (fun v126 wc => ∃ (kq:Nat) (x126_81:Bool),v126=.bool x126_81∧Aside0 (laws_FnExactDeliveredBy.j2 kq t395 t394 x126_81=some r)∧Aside0 (kq≤kj55)∧Aside0 (Kd.R (Kd.int .i64) 3 wc w.heap.size (fun _=>True) (.slice Ao83 t376.length co83) t395)∧Aside0 (wc.heap[gb337]?=some (.cells #[.int .i64 a1_0,.int .i64 a1_1,.bool a1_2,.int .i64 a1_3,.int .i64 a1_4,.int .i64 a1_5,.int .i64 a1_6,.int .i64 a1_7,.int .i64 a1_8,.string a1_9] 82 (0,0)))∧Aside0 (Below w.heap.size w wc))
              case first =>
               have H:=HC82.out
               clear HC82
               replace H:=Option.bind_eq_some_iff.mp H
               obtain⟨t417,A920,H⟩:=H
               have A92:=Aside0.mk A920
               clear A920
               by_cases c93:t417=true
               ·subst c93
                have H1:(laws_FnExactDeliveredBy.j2 kj55 t395 t394 (t416 != t359))=some r:=by rw[if_pos rfl] at H;exact H
                clear H
                have H:=H1
                clear H1
                have H':=Aside0.mk H
                clear H
                obtain⟨Ao94,co94,eo94⟩:=Kd.R_slice HO415.out
                subst eo94
                obtain⟨Ao95,co95,eo95⟩:=Kd.R_slice HO_10.out
                subst eo95
                go_wp2_with (first|((with_reducible refine gate_callee (f:=26) rfl ?_);refine goesA (some 120) rfl rfl Try.func26 #[.slice Ao94 t413.length co94,.slice Ao95 t356.length co95] rfl ?_;(with_reducible refine(laws_eqIntS.calls kj55 _ _ t413 _ _ t356 true _ ?side1 ?side2 ?side3 ?side4 A92.out).mono ?_);(case side1=>exact bT HO415.out);(case side2=>exact(Kd.R_reads' HO415.out).2.1);(case side3=>exact bT HO_10.out);(case side4=>exact(Kd.R_reads' HO_10.out).2.1);rintro e w' ⟨rfl,⟨nd,rfl⟩⟩;refine⟨_,rfl,?_⟩))
                go_meet
                case rel=>exact⟨_,((t416 != t359)),(bR),H',⟨by have:=HJ22.out;have:=HJ55.out;first|omega|exact Nat.le_refl _⟩,⟨by(with_reducible repeat (first|apply Kd.R_alloc|apply Kd.R_drewN|apply Kd.R_drew));exact Kd.R_mono HO_14.out (fun _ hk=>trivial)⟩,⟨by(with_reducible repeat (first|refine blk_drewN ?_ _|refine blk_drew ?_|refine blk_alloc ?_ _));exact BK337.out⟩,⟨bS GE337.out⟩⟩
               ·replace c93:=Bool.eq_false_iff.mpr c93
                subst c93
                have H1:(laws_FnExactDeliveredBy.j2 kj55 t395 t394 true)=some r:=by rw[if_neg (show ¬ (false=true) by decide)] at H;exact H
                clear H
                have H:=H1
                clear H1
                have H':=Aside0.mk H
                clear H
                obtain⟨Ao96,co96,eo96⟩:=Kd.R_slice HO415.out
                subst eo96
                obtain⟨Ao97,co97,eo97⟩:=Kd.R_slice HO_10.out
                subst eo97
                go_wp2_with (first|((with_reducible refine gate_callee (f:=26) rfl ?_);refine goesA (some 120) rfl rfl Try.func26 #[.slice Ao96 t413.length co96,.slice Ao97 t356.length co97] rfl ?_;(with_reducible refine(laws_eqIntS.calls kj55 _ _ t413 _ _ t356 false _ ?side1 ?side2 ?side3 ?side4 A92.out).mono ?_);(case side1=>exact bT HO415.out);(case side2=>exact(Kd.R_reads' HO415.out).2.1);(case side3=>exact bT HO_10.out);(case side4=>exact(Kd.R_reads' HO_10.out).2.1);rintro e w' ⟨rfl,⟨nd,rfl⟩⟩;refine⟨_,rfl,?_⟩))
                go_meet
                case rel=>exact⟨_,(true),(bR),H',⟨by have:=HJ22.out;have:=HJ55.out;first|omega|exact Nat.le_refl _⟩,⟨by(with_reducible repeat (first|apply Kd.R_alloc|apply Kd.R_drewN|apply Kd.R_drew));exact Kd.R_mono HO_14.out (fun _ hk=>trivial)⟩,⟨by(with_reducible repeat (first|refine blk_drewN ?_ _|refine blk_drew ?_|refine blk_alloc ?_ _));exact BK337.out⟩,⟨bS GE337.out⟩⟩
              case rest =>
               clear HC82
               try clear c1
               try clear c2
               try clear p2
               try clear c3
               try clear c4
               try clear c5
               try clear c5b0
               try clear c5b1
               try clear c6
               try clear c7
               try clear c8
               try clear c8b0
               try clear c9
               try clear c11
               try clear c11b0
               try clear c22
               try clear c24
               try clear c26
               try clear c27
               try clear c28
               try clear c29
               try clear c30
               try clear c32
               try clear c42
               try clear c47
               try clear c50
               try clear c51
               try clear c53
               try clear c59
               try clear c60
               try clear c64
               try clear c64b0
               try clear c66
               try clear c71
               try clear c74
               try clear c74b0
               try clear c77
               try clear c77b0
               try clear c77b1
               try clear c93
               try clear hcz13_0
               try clear hcz13_1
               try clear hcz13_2
               try clear hcz13_3
               try clear hcz13_4
               try clear hcz13_5
               try clear hcz13_6
               try clear hcz13_7
               try clear hcz13_8
               try clear hcz13_9
               try clear hcz25_0
               try clear hcz25_1
               try clear hcz25_2
               try clear hcz25_3
               try clear hcz25_4
               try clear hcz25_5
               try clear hcz25_6
               try clear hcz25_7
               try clear hcz25_8
               try clear hcz25_9
               try clear hcz36_0
               try clear hcz36_1
               try clear hcz36_2
               try clear hcz36_3
               try clear hcz36_4
               try clear hcz36_5
               try clear hcz36_6
               try clear hcz36_7
               try clear hcz36_8
               try clear hcz36_9
               try clear hfz13_0
               try clear hfz13_1
               try clear hfz13_2
               try clear hfz13_3
               try clear hfz13_4
               try clear hfz13_5
               try clear hfz13_6
               try clear hfz13_7
               try clear hfz13_8
               try clear hfz13_9
               try clear hfz25_0
               try clear hfz25_1
               try clear hfz25_2
               try clear hfz25_3
               try clear hfz25_4
               try clear hfz25_5
               try clear hfz25_6
               try clear hfz25_7
               try clear hfz25_8
               try clear hfz25_9
               try clear hfz36_0
               try clear hfz36_1
               try clear hfz36_2
               try clear hfz36_3
               try clear hfz36_4
               try clear hfz36_5
               try clear hfz36_6
               try clear hfz36_7
               try clear hfz36_8
               try clear hfz36_9
               try clear p2
               obtain⟨kq,x126_81,rfl,HA,HJ81,HO_14,BK337,HB⟩:=hcut
               have hl14_81:=(Kd.R_reads' HO_14.out).1
               rw[hl14_81] at HO_14
               (try simp only[hl14_81])
               (try simp only[hl14_81] at BK337)
               cases kq with
               | zero=>exact absurd HA.out (by simp[laws_FnExactDeliveredBy.j2])
               | succ kj81 =>
                have H:=HA.out
                clear HA
                simp only[laws_FnExactDeliveredBy.j2] at H
                by_cases c98:x126_81=true
                ·subst c98
                 have H1:(some false)=some r:=by rw[if_pos rfl] at H;exact H
                 clear H
                 have H:=H1
                 clear H1
                 obtain rfl:=Option.some.inj H
                 go_wp2
                 go_ret
                 exact⟨bE,bS GE337.out⟩
                ·replace c98:=Bool.eq_false_iff.mpr c98
                 subst c98
                 have H1:((laws_heldIntS.f kj81 t395 1).bind fun t418=>(if t418 < 0 then (some false) else (if t418=t394 then (some true) else (some false))))=some r:=by rw[if_neg (show ¬ (false=true) by decide)] at H;exact H
                 clear H
                 have H:=H1
                 clear H1
                 replace H:=Option.bind_eq_some_iff.mp H
                 obtain⟨t418,A990,H⟩:=H
                 have A99:=Aside0.mk A990
                 clear A990
                 by_cases c100:t418 < 0
                 ·rw[if_pos c100] at H
                  have c100b0:decide (t418 < 0)=true:=decide_eq_true c100
                  clear c100
                  obtain rfl:=Option.some.inj H
                  go_wp2_with (first|((with_reducible refine gate_callee (f:=30) rfl ?_);refine goesA (some 129) rfl rfl Try.func30 #[.slice Ao83 t395.length co83,.int .i64 1] rfl ?_;(with_reducible refine(laws_heldIntS.calls kj81 _ _ t395 1 t418 _ ?side1 ?side2 A99.out).mono ?_);(case side1=>exact bT HO_14.out);(case side2=>exact(Kd.R_reads' HO_14.out).2.1);rintro e w' ⟨rfl,⟨nd,rfl⟩⟩;refine⟨_,rfl,?_⟩))
                  go_ret
                  exact⟨bE,bS GE337.out⟩
                 ·rw[if_neg c100] at H
                  have c100b0:decide (t418 < 0)=false:=decide_eq_false c100
                  clear c100
                  by_cases c101:t418=t394
                  ·rw[if_pos c101] at H
                   have c101b0:(t418 == t394)=true:=beq_iff_eq.mpr c101
                   have c101b1:(t418 != t394)=false:=bne_eq_false_iff_eq.mpr c101
                   clear c101
                   obtain rfl:=Option.some.inj H
                   go_wp2_with (first|((with_reducible refine gate_callee (f:=30) rfl ?_);refine goesA (some 129) rfl rfl Try.func30 #[.slice Ao83 t395.length co83,.int .i64 1] rfl ?_;(with_reducible refine(laws_heldIntS.calls kj81 _ _ t395 1 t418 _ ?side1 ?side2 A99.out).mono ?_);(case side1=>exact bT HO_14.out);(case side2=>exact(Kd.R_reads' HO_14.out).2.1);rintro e w' ⟨rfl,⟨nd,rfl⟩⟩;refine⟨_,rfl,?_⟩))
                   go_ret
                   exact⟨bE,bS GE337.out⟩
                  ·rw[if_neg c101] at H
                   have c101b0:(t418 == t394)=false:=beq_eq_false_iff_ne.mpr c101
                   have c101b1:(t418 != t394)=true:=bne_iff_ne.mpr c101
                   obtain rfl:=Option.some.inj H
                   go_wp2_with (first|((with_reducible refine gate_callee (f:=30) rfl ?_);refine goesA (some 129) rfl rfl Try.func30 #[.slice Ao83 t395.length co83,.int .i64 1] rfl ?_;(with_reducible refine(laws_heldIntS.calls kj81 _ _ t395 1 t418 _ ?side1 ?side2 A99.out).mono ?_);(case side1=>exact bT HO_14.out);(case side2=>exact(Kd.R_reads' HO_14.out).2.1);rintro e w' ⟨rfl,⟨nd,rfl⟩⟩;refine⟨_,rfl,?_⟩))
                   go_ret
                   exact⟨bE,bS GE337.out⟩
             ·rw[if_neg c77] at H
              have c77b0:(t396 == t394)=false:=beq_eq_false_iff_ne.mpr c77
              have c77b1:(t396 != t394)=true:=bne_iff_ne.mpr c77
              obtain rfl:=Option.some.inj H
              obtain⟨Ao102,co102,eo102⟩:=Kd.R_slice HO_14.out
              subst eo102
              go_wp2_with (first|((with_reducible refine gate_callee (f:=29) rfl ?_);refine goesA (some 98) rfl rfl Try.func29 #[.slice Ao102 t376.length co102,.int .i64 1] rfl ?_;(with_reducible refine(laws_markIntS.calls kj55 (fun k_=>some k_=(.slice Ao102 t376.length co102:Value).ownBlock) (.slice Ao102 t376.length co102) t376 1 t394 t395 w _ ?side1 ?side2 A72.out).mono ?_);(case side1=>repeat (first|(with_reducible first|exact HB.out|apply below_alloc|apply pw_below_drewN|apply below_drew1|refine below_set ?_ GE337.out)|exact HB.out));(case side2=>exact Kd.R_tight rfl HO_14.out);rintro e w103 ⟨rfl,hy0,hb,hkp⟩;refine⟨_,rfl,?_⟩;have n0_:=Aside0.mk (Kd.R_mono (ok':=fun k_=>some k_≠(.slice Ao102 t376.length co102:Value).ownBlock) (Kd.R_keptB (HO_10.out) hkp (fun k_ hk_ hs_=>(hk_) hs_)) (fun k_ hk_=>hk_.1));have n1_:=Aside0.mk (Kd.R_reok rfl hy0 (fun k_ e_=>HO_14.out.1 k_ e_));have n2_:=Aside0.mk (blk_kept (bL BK337.out) hkp (fun hs_=>(fun e_=>(Kd.R_ne HO_14.out BK337.out (by decide)) e_) hs_));have n3_:=Aside0.mk (hb);clear HO_10 HO_14 BK337 HB;have HO_10:=n0_;have HO_14:=n1_;have BK337:=n2_;have HB:=n3_;clear n0_ n1_ n2_ n3_;(try clear hb);(try clear hkp);(try clear hy0))|((with_reducible refine gate_callee (f:=30) rfl ?_);refine goesL_ (some 101) rfl rfl Try.func30 (by kernel_rfl) rfl #[.slice Ao102 t395.length co102,.int .i64 1] rfl (by(try simp only[List.map_toArray,List.map_cons,List.map_nil]);first|done|(rw[show t395.length=t376.length from (Kd.R_reads' HO_14.out).1.symm]<;>rfl)|rfl|(simp only[List.length_drop,List.length_take];rfl)) ?_;(with_reducible refine(laws_heldIntS.calls kj55 _ _ t395 1 t396 _ ?side1 ?side2 A73.out).mono ?_);(case side1=>exact bT HO_14.out);(case side2=>rw[show t395.length=t376.length from (Kd.R_reads' HO_14.out).1.symm];exact(Kd.R_reads' HO_14.out).2.1);rintro e w' ⟨rfl,⟨nd,rfl⟩⟩;refine⟨_,rfl,?_⟩))
              go_ret
              exact⟨bE,bS GE337.out⟩
        ·replace c53:=Bool.eq_false_iff.mpr c53
         subst c53
         have H1:(some false)=some r:=by rw[if_neg (show ¬ (false=true) by decide)] at H;exact H
         clear H
         have H:=H1
         clear H1
         obtain rfl:=Option.some.inj H
         go_wp2_with (first|((with_reducible refine gate_callee (f:=24) rfl ?_);refine goesA (some 69) rfl rfl Try.func24 #[.slice A0 l0.length c0] rfl ?_;(with_reducible refine(laws_toContactS.calls kj22 _ _ l0 t381 _ ?side1 ?side2 A48.out).mono ?_);(case side1=>exact bC HR0.out);(case side2=>exact HC0.out);rintro e w104 ⟨v382,rfl,ho0,hb⟩;refine⟨_,rfl,?_⟩;have n0_:=Aside0.mk (Kd.R_below (bK HO_10.out) hb);have n1_:=Aside0.mk (Kd.R_elder' (bK HO_12.out) (Kd.R_base ho0) hb);have n2_:=Aside0.mk (Kd.R_below (bK HO_13.out) hb);have n3_:=Aside0.mk (Kd.R_below (bK HO_14.out) hb);have n4_:=Aside0.mk (Kd.R_lower (Kd.R_new' ho0 (Kd.R_lt (bK HO_12.out))) (below_size (bS GE337.out)));have n5_:=Aside0.mk (blk_below (g:=gb337) (o:=.cells #[.int .i64 a1_0,.int .i64 a1_1,.bool a1_2,.int .i64 a1_3,.int .i64 a1_4,.int .i64 a1_5,.int .i64 a1_6,.int .i64 a1_7,.int .i64 a1_8,.string a1_9] 82 (0,0)) (bL BK337.out) hb);have n6_:=Aside0.mk (below_step (bS GE337.out) hb);clear HO_10 HO_12 HO_13 HO_14 BK337 HB;have HO_10:=n0_;have HO_12:=n1_;have HO_13:=n2_;have HO_14:=n3_;have HO383:=n4_;have BK337:=n5_;have HB:=n6_;clear n0_ n1_ n2_ n3_ n4_ n5_ n6_;(try clear hb);(try clear hb2);(try clear hk);(try clear hi);(try clear ho0);obtain⟨Ao105,co105,eo105⟩:=Kd.R_slice HO383.out;subst eo105)|((with_reducible refine gate_callee (f:=27) rfl ?_);refine goesA (some 70) rfl rfl Try.func27 #[.slice Ao38 t360.length co38,.slice Ao105 t381.length co105] rfl ?_;(with_reducible refine(laws_eqContactS.calls kj22 _ _ t360 _ _ t381 true _ ?side1 ?side2 ?side3 ?side4 A49.out).mono ?_);(case side1=>exact bT HO_12.out);(case side2=>exact(Kd.R_reads' HO_12.out).2.1);(case side3=>exact bT HO383.out);(case side4=>exact(Kd.R_reads' HO383.out).2.1);rintro e w106 ⟨rfl,hb⟩;refine⟨_,rfl,?_⟩;have n0_:=Aside0.mk (Kd.R_below (bK HO_10.out) hb);have n1_:=Aside0.mk (Kd.R_below (bK HO_12.out) hb);have n2_:=Aside0.mk (Kd.R_below (bK HO_13.out) hb);have n3_:=Aside0.mk (Kd.R_below (bK HO_14.out) hb);have n4_:=Aside0.mk (Kd.R_below (bK HO383.out) hb);have n5_:=Aside0.mk (blk_below (g:=gb337) (o:=.cells #[.int .i64 a1_0,.int .i64 a1_1,.bool a1_2,.int .i64 a1_3,.int .i64 a1_4,.int .i64 a1_5,.int .i64 a1_6,.int .i64 a1_7,.int .i64 a1_8,.string a1_9] 82 (0,0)) (bL BK337.out) hb);have n6_:=Aside0.mk (below_step (bS GE337.out) hb);clear HO_10 HO_12 HO_13 HO_14 HO383 BK337 HB;have HO_10:=n0_;have HO_12:=n1_;have HO_13:=n2_;have HO_14:=n3_;have HO383:=n4_;have BK337:=n5_;have HB:=n6_;clear n0_ n1_ n2_ n3_ n4_ n5_ n6_;(try clear hb);(try clear hb2);(try clear hk);(try clear hi))|((with_reducible refine gate_callee (f:=32) rfl ?_);refine goesA (some 74) rfl rfl Try.func32 #[.slice A2 l2.length c2] rfl ?_;(with_reducible refine(laws_toIntS.calls kj22 _ _ l2 t385 _ ?side1 ?side2 A51.out).mono ?_);(case side1=>exact bC HR2.out);(case side2=>exact HC2.out);rintro e w107 ⟨v386,rfl,ho0,hb⟩;refine⟨_,rfl,?_⟩;have n0_:=Aside0.mk (Kd.R_elder' (bK HO_10.out) (Kd.R_base ho0) hb);have n1_:=Aside0.mk (Kd.R_below (bK HO_12.out) hb);have n2_:=Aside0.mk (Kd.R_elder' (bK HO_13.out) (Kd.R_base ho0) hb);have n3_:=Aside0.mk (Kd.R_elder' (bK HO_14.out) (Kd.R_base ho0) hb);have n4_:=Aside0.mk (Kd.R_below (bK HO383.out) hb);have n5_:=Aside0.mk (Kd.R_lower (Kd.R_new' (Kd.R_new' (Kd.R_new' ho0 (Kd.R_lt (bK HO_10.out))) (Kd.R_lt (bK HO_13.out))) (Kd.R_lt (bK HO_14.out))) (below_size (bS GE337.out)));have n6_:=Aside0.mk (blk_below (g:=gb337) (o:=.cells #[.int .i64 a1_0,.int .i64 a1_1,.bool a1_2,.int .i64 a1_3,.int .i64 a1_4,.int .i64 a1_5,.int .i64 a1_6,.int .i64 a1_7,.int .i64 a1_8,.string a1_9] 82 (0,0)) (bL BK337.out) hb);have n7_:=Aside0.mk (below_step (bS GE337.out) hb);clear HO_10 HO_12 HO_13 HO_14 HO383 BK337 HB;have HO_10:=n0_;have HO_12:=n1_;have HO_13:=n2_;have HO_14:=n3_;have HO383:=n4_;have HO387:=n5_;have BK337:=n6_;have HB:=n7_;clear n0_ n1_ n2_ n3_ n4_ n5_ n6_ n7_;(try clear hb);(try clear hb2);(try clear hk);(try clear hi);(try clear ho0);obtain⟨Ao108,co108,eo108⟩:=Kd.R_slice HO387.out;subst eo108)|((with_reducible refine gate_callee (f:=26) rfl ?_);refine goesA (some 75) rfl rfl Try.func26 #[.slice Ao39 t363.length co39,.slice Ao108 t385.length co108] rfl ?_;(with_reducible refine(laws_eqIntS.calls kj22 _ _ t363 _ _ t385 false _ ?side1 ?side2 ?side3 ?side4 A52.out).mono ?_);(case side1=>exact bT HO_13.out);(case side2=>exact(Kd.R_reads' HO_13.out).2.1);(case side3=>exact bT HO387.out);(case side4=>exact(Kd.R_reads' HO387.out).2.1);rintro e w' ⟨rfl,⟨nd,rfl⟩⟩;refine⟨_,rfl,?_⟩))
         go_ret
         exact⟨bE,bS GE337.out⟩
       ·replace c50:=Bool.eq_false_iff.mpr c50
        subst c50
        have H1:(some false)=some r:=by rw[if_neg (show ¬ (false=true) by decide)] at H;exact H
        clear H
        have H:=H1
        clear H1
        obtain rfl:=Option.some.inj H
        go_wp2_with (first|((with_reducible refine gate_callee (f:=24) rfl ?_);refine goesA (some 69) rfl rfl Try.func24 #[.slice A0 l0.length c0] rfl ?_;(with_reducible refine(laws_toContactS.calls kj22 _ _ l0 t381 _ ?side1 ?side2 A48.out).mono ?_);(case side1=>exact bC HR0.out);(case side2=>exact HC0.out);rintro e w109 ⟨v382,rfl,ho0,hb⟩;refine⟨_,rfl,?_⟩;have n0_:=Aside0.mk (Kd.R_below (bK HO_10.out) hb);have n1_:=Aside0.mk (Kd.R_elder' (bK HO_12.out) (Kd.R_base ho0) hb);have n2_:=Aside0.mk (Kd.R_below (bK HO_13.out) hb);have n3_:=Aside0.mk (Kd.R_below (bK HO_14.out) hb);have n4_:=Aside0.mk (Kd.R_lower (Kd.R_new' ho0 (Kd.R_lt (bK HO_12.out))) (below_size (bS GE337.out)));have n5_:=Aside0.mk (blk_below (g:=gb337) (o:=.cells #[.int .i64 a1_0,.int .i64 a1_1,.bool a1_2,.int .i64 a1_3,.int .i64 a1_4,.int .i64 a1_5,.int .i64 a1_6,.int .i64 a1_7,.int .i64 a1_8,.string a1_9] 82 (0,0)) (bL BK337.out) hb);have n6_:=Aside0.mk (below_step (bS GE337.out) hb);clear HO_10 HO_12 HO_13 HO_14 BK337 HB;have HO_10:=n0_;have HO_12:=n1_;have HO_13:=n2_;have HO_14:=n3_;have HO383:=n4_;have BK337:=n5_;have HB:=n6_;clear n0_ n1_ n2_ n3_ n4_ n5_ n6_;(try clear hb);(try clear hb2);(try clear hk);(try clear hi);(try clear ho0);obtain⟨Ao110,co110,eo110⟩:=Kd.R_slice HO383.out;subst eo110)|((with_reducible refine gate_callee (f:=27) rfl ?_);refine goesA (some 70) rfl rfl Try.func27 #[.slice Ao38 t360.length co38,.slice Ao110 t381.length co110] rfl ?_;(with_reducible refine(laws_eqContactS.calls kj22 _ _ t360 _ _ t381 false _ ?side1 ?side2 ?side3 ?side4 A49.out).mono ?_);(case side1=>exact bT HO_12.out);(case side2=>exact(Kd.R_reads' HO_12.out).2.1);(case side3=>exact bT HO383.out);(case side4=>exact(Kd.R_reads' HO383.out).2.1);rintro e w111 ⟨rfl,hb⟩;refine⟨_,rfl,?_⟩;have n0_:=Aside0.mk (Kd.R_below (bK HO_10.out) hb);have n1_:=Aside0.mk (Kd.R_below (bK HO_12.out) hb);have n2_:=Aside0.mk (Kd.R_below (bK HO_13.out) hb);have n3_:=Aside0.mk (Kd.R_below (bK HO_14.out) hb);have n4_:=Aside0.mk (Kd.R_below (bK HO383.out) hb);have n5_:=Aside0.mk (blk_below (g:=gb337) (o:=.cells #[.int .i64 a1_0,.int .i64 a1_1,.bool a1_2,.int .i64 a1_3,.int .i64 a1_4,.int .i64 a1_5,.int .i64 a1_6,.int .i64 a1_7,.int .i64 a1_8,.string a1_9] 82 (0,0)) (bL BK337.out) hb);have n6_:=Aside0.mk (below_step (bS GE337.out) hb);clear HO_10 HO_12 HO_13 HO_14 HO383 BK337 HB;have HO_10:=n0_;have HO_12:=n1_;have HO_13:=n2_;have HO_14:=n3_;have HO383:=n4_;have BK337:=n5_;have HB:=n6_;clear n0_ n1_ n2_ n3_ n4_ n5_ n6_;(try clear hb);(try clear hb2);(try clear hk);(try clear hi)))
        go_ret
        exact⟨bE,bS GE337.out⟩

end Go.Proofs.Yteneeohaoplpbaa.XFnExactDeliveredBy
