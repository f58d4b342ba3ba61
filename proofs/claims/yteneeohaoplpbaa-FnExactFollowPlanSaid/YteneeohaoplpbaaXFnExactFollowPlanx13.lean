-- Written by this session's own program (wip/xprint.py) out of the translation; Lean checks it.
import Derived.Test.YteneeohaoplpbaaXFnExactFollowPlanx0
import Derived.Test.YteneeohaoplpbaaXFnExactFollowPlanx1
import Derived.Test.YteneeohaoplpbaaXFnExactFollowPlanx2
import Derived.Test.YteneeohaoplpbaaXFnExactFollowPlanx6
import Derived.Test.YteneeohaoplpbaaXFnExactFollowPlanx12
namespace Go.Proofs.Yteneeohaoplpbaa.XFnExactFollowPlan
open Go.RowKit Go.Proofs.YteneeohaoplpbaaW.PrintWords Go.Proofs.YteneeohaoplpbaaW.PrintLast Go.Proofs.YteneeohaoplpbaaW.PrintMore
attribute [local go_sem] max2_int min2_int max_two min_two max_three min_three max_four min_four   -- for this text's walks alone
set_option linter.unusedVariables false
set_option linter.unusedSimpArgs false

/-! ### laws_FnExactFollowPlan: function 10 -/
mutual
def laws_FnExactFollowPlan.j0:Nat→List (S125)→Int→List Int→Int→Bool→List (S104)→List Int→Int→Bool→Bool→Int→Int→Bool→Int→Int→Int→Int→Int→Int→ByteArray→Option (Bool)
 | 0,_,_,_,_,_,_,_,_,_,_,_,_,_,_,_,_,_,_,_,_=>none
 | k+1,x0,x2,x8,x9,x10,x11,x12,x13,x14,x65,x321000,x321001,x321002,x321003,x321004,x321005,x321006,x321007,x321008,x321009=>if x65=true then (some false) else ((laws_toContactS.f k x0).bind fun t360=>((laws_eqContactS.f k x11 t360).bind fun t363=>(if t363=true then ((laws_markContactS.f k x11 1).bind fun bt364=>(if bt364.1 < 0 then (laws_FnExactFollowPlan.j1 k x0 x2 x8 x9 x10 x12 true x321000 x321001 x321002 x321003 x321004 x321005 x321006 x321007 x321008 x321009) else ((laws_eqIntS.f k x12 x8).bind fun t366=>(if t366=true then (if x13=x9 then (laws_FnExactFollowPlan.j1 k x0 x2 x8 x9 x10 x12 (x14 != x10) x321000 x321001 x321002 x321003 x321004 x321005 x321006 x321007 x321008 x321009) else (laws_FnExactFollowPlan.j1 k x0 x2 x8 x9 x10 x12 true x321000 x321001 x321002 x321003 x321004 x321005 x321006 x321007 x321008 x321009)) else (laws_FnExactFollowPlan.j1 k x0 x2 x8 x9 x10 x12 true x321000 x321001 x321002 x321003 x321004 x321005 x321006 x321007 x321008 x321009))))) else (some false))))
def laws_FnExactFollowPlan.j1:Nat→List (S125)→Int→List Int→Int→Bool→List Int→Bool→Int→Int→Bool→Int→Int→Int→Int→Int→Int→ByteArray→Option (Bool)
 | 0,_,_,_,_,_,_,_,_,_,_,_,_,_,_,_,_,_=>none
 | k+1,x0,x2,x8,x9,x10,x12,x91,x321000,x321001,x321002,x321003,x321004,x321005,x321006,x321007,x321008,x321009=>if x91=true then (some false) else ((laws_markIntS.f k x12 1).bind fun bt367=>((laws_heldIntS.f k bt367.2 1).bind fun t369=>(if t369 < 0 then (some false) else (if t369=bt367.1 then ((laws_toContactS.f k x0).bind fun t370=>((laws_toBundle.f x321000 x321001 x321002 x321003 x321004 x321005 x321006 x321007 x321008 x321009).bind fun bt373=>((impl_FollowPlan.f k t370 bt373.1 bt373.2.1 bt373.2.2.1 bt373.2.2.2.1 bt373.2.2.2.2.1 bt373.2.2.2.2.2.1 bt373.2.2.2.2.2.2.1 bt373.2.2.2.2.2.2.2.1 bt373.2.2.2.2.2.2.2.2.1 bt373.2.2.2.2.2.2.2.2.2 x2).bind fun bt383=>((laws_eqIntS.f k bt383.1 x8).bind fun t388=>(if t388=true then (if bt383.2.1=x9 then (laws_FnExactFollowPlan.j2 k bt367.2 bt367.1 (bt383.2.2 != x10)) else (laws_FnExactFollowPlan.j2 k bt367.2 bt367.1 true)) else (laws_FnExactFollowPlan.j2 k bt367.2 bt367.1 true)))))) else (some false)))))
def laws_FnExactFollowPlan.j2:Nat→List Int→Int→Bool→Option (Bool)
 | 0,_,_,_=>none
 | k+1,x12,x16,x126=>if x126=true then (some false) else ((laws_heldIntS.f k x12 1).bind fun t389=>(if t389 < 0 then (some false) else (if t389=x16 then (some true) else (some false))))
end
def laws_FnExactFollowPlan.f (k:Nat) (l0:List (S125)) (a1_0:Int) (a1_1:Int) (a1_2:Bool) (a1_3:Int) (a1_4:Int) (a1_5:Int) (a1_6:Int) (a1_7:Int) (a1_8:Int) (a1_9:ByteArray) (a2:Int):Option (Bool):=(laws_szContactS.f l0 1048576).bind fun t321=>(if t321 < 0 then (some true) else ((laws_szBundle.f a1_0 a1_1 a1_2 a1_3 a1_4 a1_5 a1_6 a1_7 a1_8 a1_9 t321).bind fun t322=>(if t322 < 0 then (some true) else ((laws_toContactS.f k l0).bind fun t323=>((laws_toBundle.f a1_0 a1_1 a1_2 a1_3 a1_4 a1_5 a1_6 a1_7 a1_8 a1_9).bind fun bt326=>((spec_FollowPlan.f k t323 bt326.1 bt326.2.1 bt326.2.2.1 bt326.2.2.2.1 bt326.2.2.2.2.1 bt326.2.2.2.2.2.1 bt326.2.2.2.2.2.2.1 bt326.2.2.2.2.2.2.2.1 bt326.2.2.2.2.2.2.2.2.1 bt326.2.2.2.2.2.2.2.2.2 a2).bind fun bt336=>((laws_toContactS.f k l0).bind fun t341=>((laws_toBundle.f a1_0 a1_1 a1_2 a1_3 a1_4 a1_5 a1_6 a1_7 a1_8 a1_9).bind fun bt344=>((impl_FollowPlan.f k t341 bt344.1 bt344.2.1 bt344.2.2.1 bt344.2.2.2.1 bt344.2.2.2.2.1 bt344.2.2.2.2.2.1 bt344.2.2.2.2.2.2.1 bt344.2.2.2.2.2.2.2.1 bt344.2.2.2.2.2.2.2.2.1 bt344.2.2.2.2.2.2.2.2.2 a2).bind fun bt354=>((laws_eqIntS.f k bt354.1 bt336.1).bind fun t359=>(if t359=true then (if bt354.2.1=bt336.2.1 then (laws_FnExactFollowPlan.j0 k l0 a2 bt336.1 bt336.2.1 bt336.2.2 t341 bt354.1 bt354.2.1 bt354.2.2 (bt354.2.2 != bt336.2.2) a1_0 a1_1 a1_2 a1_3 a1_4 a1_5 a1_6 a1_7 a1_8 a1_9) else (laws_FnExactFollowPlan.j0 k l0 a2 bt336.1 bt336.2.1 bt336.2.2 t341 bt354.1 bt354.2.1 bt354.2.2 true a1_0 a1_1 a1_2 a1_3 a1_4 a1_5 a1_6 a1_7 a1_8 a1_9)) else (laws_FnExactFollowPlan.j0 k l0 a2 bt336.1 bt336.2.1 bt336.2.2 t341 bt354.1 bt354.2.1 bt354.2.2 true a1_0 a1_1 a1_2 a1_3 a1_4 a1_5 a1_6 a1_7 a1_8 a1_9))))))))))))
theorem laws_FnExactFollowPlan.mono_l : ∀ k,(∀ y0 y1 y2 y3 y4 y5 y6 y7 y8 y9 y10 y11 y12 y13 y14 y15 y16 y17 y18 y19,LeO (laws_FnExactFollowPlan.j0 k y0 y1 y2 y3 y4 y5 y6 y7 y8 y9 y10 y11 y12 y13 y14 y15 y16 y17 y18 y19) (laws_FnExactFollowPlan.j0 (k+1) y0 y1 y2 y3 y4 y5 y6 y7 y8 y9 y10 y11 y12 y13 y14 y15 y16 y17 y18 y19))∧(∀ y0 y1 y2 y3 y4 y5 y6 y7 y8 y9 y10 y11 y12 y13 y14 y15 y16,LeO (laws_FnExactFollowPlan.j1 k y0 y1 y2 y3 y4 y5 y6 y7 y8 y9 y10 y11 y12 y13 y14 y15 y16) (laws_FnExactFollowPlan.j1 (k+1) y0 y1 y2 y3 y4 y5 y6 y7 y8 y9 y10 y11 y12 y13 y14 y15 y16))∧(∀ y0 y1 y2,LeO (laws_FnExactFollowPlan.j2 k y0 y1 y2) (laws_FnExactFollowPlan.j2 (k+1) y0 y1 y2))
 | 0=>⟨fun _ _ _ _ _ _ _ _ _ _ _ _ _ _ _ _ _ _ _ _ r h=>by simp[laws_FnExactFollowPlan.j0] at h,fun _ _ _ _ _ _ _ _ _ _ _ _ _ _ _ _ _ r h=>by simp[laws_FnExactFollowPlan.j1] at h,fun _ _ _ r h=>by simp[laws_FnExactFollowPlan.j2] at h⟩
 | k+1=>by
  obtain⟨ih0,ih1,ih2⟩:=laws_FnExactFollowPlan.mono_l k
  refine⟨?_,?_,?_⟩
  ·intro y0 y1 y2 y3 y4 y5 y6 y7 y8 y9 y10 y11 y12 y13 y14 y15 y16 y17 y18 y19
   unfold laws_FnExactFollowPlan.j0
   repeat' first
   | (with_reducible exact ih0 _ _ _ _ _ _ _ _ _ _ _ _ _ _ _ _ _ _ _ _)
   | (with_reducible exact ih1 _ _ _ _ _ _ _ _ _ _ _ _ _ _ _ _ _)
   | (with_reducible exact ih2 _ _ _)
   | (with_reducible exact impl_FollowPlan.mono _ _ _ _ _ _ _ _ _ _ _ _ _)
   | (with_reducible exact laws_eqContactS.mono _ _ _)
   | (with_reducible exact laws_eqIntS.mono _ _ _)
   | (with_reducible exact laws_heldIntS.mono _ _ _)
   | (with_reducible exact laws_markContactS.mono _ _ _)
   | (with_reducible exact laws_markIntS.mono _ _ _)
   | (with_reducible exact laws_toContactS.mono _ _)
   | (with_reducible exact spec_FollowPlan.mono _ _ _ _ _ _ _ _ _ _ _ _ _)
   | (with_reducible exact LeO.refl _)
   | (with_reducible exact LeO.none _)
   | (with_reducible refine LeO.ite ?_ ?_)
   | (with_reducible refine LeO.bind ?_ (fun _ => ?_))
   | exact ih0 _ _ _ _ _ _ _ _ _ _ _ _ _ _ _ _ _ _ _ _
   | exact ih1 _ _ _ _ _ _ _ _ _ _ _ _ _ _ _ _ _
   | exact ih2 _ _ _
   | exact impl_FollowPlan.mono _ _ _ _ _ _ _ _ _ _ _ _ _
   | exact laws_eqContactS.mono _ _ _
   | exact laws_eqIntS.mono _ _ _
   | exact laws_heldIntS.mono _ _ _
   | exact laws_markContactS.mono _ _ _
   | exact laws_markIntS.mono _ _ _
   | exact laws_toContactS.mono _ _
   | exact spec_FollowPlan.mono _ _ _ _ _ _ _ _ _ _ _ _ _
   | exact LeO.none _
   | refine LeO.ite ?_ ?_
   | refine LeO.bind ?_ (fun _ => ?_)
  ·intro y0 y1 y2 y3 y4 y5 y6 y7 y8 y9 y10 y11 y12 y13 y14 y15 y16
   unfold laws_FnExactFollowPlan.j1
   repeat' first
   | (with_reducible exact ih0 _ _ _ _ _ _ _ _ _ _ _ _ _ _ _ _ _ _ _ _)
   | (with_reducible exact ih1 _ _ _ _ _ _ _ _ _ _ _ _ _ _ _ _ _)
   | (with_reducible exact ih2 _ _ _)
   | (with_reducible exact impl_FollowPlan.mono _ _ _ _ _ _ _ _ _ _ _ _ _)
   | (with_reducible exact laws_eqContactS.mono _ _ _)
   | (with_reducible exact laws_eqIntS.mono _ _ _)
   | (with_reducible exact laws_heldIntS.mono _ _ _)
   | (with_reducible exact laws_markContactS.mono _ _ _)
   | (with_reducible exact laws_markIntS.mono _ _ _)
   | (with_reducible exact laws_toContactS.mono _ _)
   | (with_reducible exact spec_FollowPlan.mono _ _ _ _ _ _ _ _ _ _ _ _ _)
   | (with_reducible exact LeO.refl _)
   | (with_reducible exact LeO.none _)
   | (with_reducible refine LeO.ite ?_ ?_)
   | (with_reducible refine LeO.bind ?_ (fun _ => ?_))
   | exact ih0 _ _ _ _ _ _ _ _ _ _ _ _ _ _ _ _ _ _ _ _
   | exact ih1 _ _ _ _ _ _ _ _ _ _ _ _ _ _ _ _ _
   | exact ih2 _ _ _
   | exact impl_FollowPlan.mono _ _ _ _ _ _ _ _ _ _ _ _ _
   | exact laws_eqContactS.mono _ _ _
   | exact laws_eqIntS.mono _ _ _
   | exact laws_heldIntS.mono _ _ _
   | exact laws_markContactS.mono _ _ _
   | exact laws_markIntS.mono _ _ _
   | exact laws_toContactS.mono _ _
   | exact spec_FollowPlan.mono _ _ _ _ _ _ _ _ _ _ _ _ _
   | exact LeO.none _
   | refine LeO.ite ?_ ?_
   | refine LeO.bind ?_ (fun _ => ?_)
  ·intro y0 y1 y2
   unfold laws_FnExactFollowPlan.j2
   repeat' first
   | (with_reducible exact ih0 _ _ _ _ _ _ _ _ _ _ _ _ _ _ _ _ _ _ _ _)
   | (with_reducible exact ih1 _ _ _ _ _ _ _ _ _ _ _ _ _ _ _ _ _)
   | (with_reducible exact ih2 _ _ _)
   | (with_reducible exact impl_FollowPlan.mono _ _ _ _ _ _ _ _ _ _ _ _ _)
   | (with_reducible exact laws_eqContactS.mono _ _ _)
   | (with_reducible exact laws_eqIntS.mono _ _ _)
   | (with_reducible exact laws_heldIntS.mono _ _ _)
   | (with_reducible exact laws_markContactS.mono _ _ _)
   | (with_reducible exact laws_markIntS.mono _ _ _)
   | (with_reducible exact laws_toContactS.mono _ _)
   | (with_reducible exact spec_FollowPlan.mono _ _ _ _ _ _ _ _ _ _ _ _ _)
   | (with_reducible exact LeO.refl _)
   | (with_reducible exact LeO.none _)
   | (with_reducible refine LeO.ite ?_ ?_)
   | (with_reducible refine LeO.bind ?_ (fun _ => ?_))
   | exact ih0 _ _ _ _ _ _ _ _ _ _ _ _ _ _ _ _ _ _ _ _
   | exact ih1 _ _ _ _ _ _ _ _ _ _ _ _ _ _ _ _ _
   | exact ih2 _ _ _
   | exact impl_FollowPlan.mono _ _ _ _ _ _ _ _ _ _ _ _ _
   | exact laws_eqContactS.mono _ _ _
   | exact laws_eqIntS.mono _ _ _
   | exact laws_heldIntS.mono _ _ _
   | exact laws_markContactS.mono _ _ _
   | exact laws_markIntS.mono _ _ _
   | exact laws_toContactS.mono _ _
   | exact spec_FollowPlan.mono _ _ _ _ _ _ _ _ _ _ _ _ _
   | exact LeO.none _
   | refine LeO.ite ?_ ?_
   | refine LeO.bind ?_ (fun _ => ?_)
theorem laws_FnExactFollowPlan.mono : ∀ a0 a1 a2 a3 a4 a5 a6 a7 a8 a9 a10 a11 k,LeO (laws_FnExactFollowPlan.f k a0 a1 a2 a3 a4 a5 a6 a7 a8 a9 a10 a11) (laws_FnExactFollowPlan.f (k+1) a0 a1 a2 a3 a4 a5 a6 a7 a8 a9 a10 a11):=by
 intro a0 a1 a2 a3 a4 a5 a6 a7 a8 a9 a10 a11 k
 obtain⟨ih0,ih1,ih2⟩:=laws_FnExactFollowPlan.mono_l k
 unfold laws_FnExactFollowPlan.f
 repeat' first
  | (with_reducible exact ih0 _ _ _ _ _ _ _ _ _ _ _ _ _ _ _ _ _ _ _ _)
  | (with_reducible exact ih1 _ _ _ _ _ _ _ _ _ _ _ _ _ _ _ _ _)
  | (with_reducible exact ih2 _ _ _)
  | (with_reducible exact impl_FollowPlan.mono _ _ _ _ _ _ _ _ _ _ _ _ _)
  | (with_reducible exact laws_eqContactS.mono _ _ _)
  | (with_reducible exact laws_eqIntS.mono _ _ _)
  | (with_reducible exact laws_heldIntS.mono _ _ _)
  | (with_reducible exact laws_markContactS.mono _ _ _)
  | (with_reducible exact laws_markIntS.mono _ _ _)
  | (with_reducible exact laws_toContactS.mono _ _)
  | (with_reducible exact spec_FollowPlan.mono _ _ _ _ _ _ _ _ _ _ _ _ _)
  | (with_reducible exact LeO.refl _)
  | (with_reducible exact LeO.none _)
  | (with_reducible refine LeO.ite ?_ ?_)
  | (with_reducible refine LeO.bind ?_ (fun _ => ?_))
  | exact ih0 _ _ _ _ _ _ _ _ _ _ _ _ _ _ _ _ _ _ _ _
  | exact ih1 _ _ _ _ _ _ _ _ _ _ _ _ _ _ _ _ _
  | exact ih2 _ _ _
  | exact impl_FollowPlan.mono _ _ _ _ _ _ _ _ _ _ _ _ _
  | exact laws_eqContactS.mono _ _ _
  | exact laws_eqIntS.mono _ _ _
  | exact laws_heldIntS.mono _ _ _
  | exact laws_markContactS.mono _ _ _
  | exact laws_markIntS.mono _ _ _
  | exact laws_toContactS.mono _ _
  | exact spec_FollowPlan.mono _ _ _ _ _ _ _ _ _ _ _ _ _
  | exact LeO.none _
  | refine LeO.ite ?_ ?_
  | refine LeO.bind ?_ (fun _ => ?_)
def laws_FnExactFollowPlan.T8:Bool × List (List Nat × List Nat):=(true,[([],[]),([0],[0]),([],[]),([2,1],[2]),([],[]),([1,3,4,3],[1,3,4]),([5],[5]),([6],[6]),([6],[6]),([6],[6]),([7,5,0,1,2,3,4,5,6,7],[7]),([8,10,0,1,2,3,4,5,6,7,8,10],[8]),([9,11,0,1,2,3,4,5,6,7,8,9,10,11],[9])])
def laws_FnExactFollowPlan.B8:List Nat:=[0,1,0,7,0,31,63,127,127,127,255,1535,4095]
theorem laws_FnExactFollowPlan.tab8:rtab .any (opsOf Try.f10 8)=laws_FnExactFollowPlan.T8:=by kernel_rfl
theorem laws_FnExactFollowPlan.bits8:waitsOk laws_FnExactFollowPlan.T8.2 laws_FnExactFollowPlan.B8=true:=by kernel_rfl
def laws_FnExactFollowPlan.T27:Bool × List (List Nat × List Nat):=(true,[([],[]),([0],[0]),([],[]),([2,1],[2]),([],[]),([1,3,4,3],[1,3,4]),([5],[5]),([6],[6]),([6],[6]),([6],[6]),([7,5,0,1,2,3,4,5,6,7],[7]),([8,10,0,1,2,3,4,5,6,7,8,10],[8]),([9,11,0,1,2,3,4,5,6,7,8,9,10,11],[9])])
def laws_FnExactFollowPlan.B27:List Nat:=[0,1,0,7,0,31,63,127,127,127,255,1535,4095]
theorem laws_FnExactFollowPlan.tab27:rtab .any (opsOf Try.f10 27)=laws_FnExactFollowPlan.T27:=by kernel_rfl
theorem laws_FnExactFollowPlan.bits27:waitsOk laws_FnExactFollowPlan.T27.2 laws_FnExactFollowPlan.B27=true:=by kernel_rfl
set_option maxHeartbeats 8000000 in
set_option maxRecDepth 100000 in
theorem laws_FnExactFollowPlan.calls (k:Nat) (A0:Option Addr) (c0:Nat) (l0:List (S125)) (a1_0:Int) (a1_1:Int) (a1_2:Bool) (a1_3:Int) (a1_4:Int) (a1_5:Int) (a1_6:Int) (a1_7:Int) (a1_8:Int) (a1_9:ByteArray) (a2:Int) (r:Bool) (w:World) (hr0:Kd.C k125 w A0 l0.length l0) (hc0:l0.length≤c0) (h:laws_FnExactFollowPlan.f k l0 a1_0 a1_1 a1_2 a1_3 a1_4 a1_5 a1_6 a1_7 a1_8 a1_9 a2=some r) :
  Calls Try.prog 10 #[.slice A0 l0.length c0,.agg #[.int .i64 a1_0,.int .i64 a1_1,.bool a1_2,.int .i64 a1_3,.int .i64 a1_4,.int .i64 a1_5,.int .i64 a1_6,.int .i64 a1_7,.int .i64 a1_8,.string a1_9],.int .i64 a2] w fun e w'=>e=.returned (.bool r)∧Below w.heap.size w w':=by
 have hu82:=Try.underlying82
 have HR0:=Aside0.mk hr0
 have HC0:=Aside0.mk hc0
 clear hr0 hc0
 have HB:=Aside0.mk (Below.refl w.heap.size w)
 have H:((laws_szContactS.f l0 1048576).bind fun t321=>(if t321 < 0 then (some true) else ((laws_szBundle.f a1_0 a1_1 a1_2 a1_3 a1_4 a1_5 a1_6 a1_7 a1_8 a1_9 t321).bind fun t322=>(if t322 < 0 then (some true) else ((laws_toContactS.f k l0).bind fun t323=>((laws_toBundle.f a1_0 a1_1 a1_2 a1_3 a1_4 a1_5 a1_6 a1_7 a1_8 a1_9).bind fun bt326=>((spec_FollowPlan.f k t323 bt326.1 bt326.2.1 bt326.2.2.1 bt326.2.2.2.1 bt326.2.2.2.2.1 bt326.2.2.2.2.2.1 bt326.2.2.2.2.2.2.1 bt326.2.2.2.2.2.2.2.1 bt326.2.2.2.2.2.2.2.2.1 bt326.2.2.2.2.2.2.2.2.2 a2).bind fun bt336=>((laws_toContactS.f k l0).bind fun t341=>((laws_toBundle.f a1_0 a1_1 a1_2 a1_3 a1_4 a1_5 a1_6 a1_7 a1_8 a1_9).bind fun bt344=>((impl_FollowPlan.f k t341 bt344.1 bt344.2.1 bt344.2.2.1 bt344.2.2.2.1 bt344.2.2.2.2.1 bt344.2.2.2.2.2.1 bt344.2.2.2.2.2.2.1 bt344.2.2.2.2.2.2.2.1 bt344.2.2.2.2.2.2.2.2.1 bt344.2.2.2.2.2.2.2.2.2 a2).bind fun bt354=>((laws_eqIntS.f k bt354.1 bt336.1).bind fun t359=>(if t359=true then (if bt354.2.1=bt336.2.1 then (laws_FnExactFollowPlan.j0 k l0 a2 bt336.1 bt336.2.1 bt336.2.2 t341 bt354.1 bt354.2.1 bt354.2.2 (bt354.2.2 != bt336.2.2) a1_0 a1_1 a1_2 a1_3 a1_4 a1_5 a1_6 a1_7 a1_8 a1_9) else (laws_FnExactFollowPlan.j0 k l0 a2 bt336.1 bt336.2.1 bt336.2.2 t341 bt354.1 bt354.2.1 bt354.2.2 true a1_0 a1_1 a1_2 a1_3 a1_4 a1_5 a1_6 a1_7 a1_8 a1_9)) else (laws_FnExactFollowPlan.j0 k l0 a2 bt336.1 bt336.2.1 bt336.2.2 t341 bt354.1 bt354.2.1 bt354.2.2 true a1_0 a1_1 a1_2 a1_3 a1_4 a1_5 a1_6 a1_7 a1_8 a1_9)))))))))))))=some r:=h
 clear h
 replace H:=Option.bind_eq_some_iff.mp H
 obtain⟨t321,A40,H⟩:=H
 have A4:=Aside0.mk A40
 clear A40
 by_cases c5:t321 < 0
 ·rw[if_pos c5] at H
  have c5b0:decide (t321 < 0)=true:=decide_eq_true c5
  clear c5
  obtain rfl:=Option.some.inj H
  go_enter Try.func10,Try.ntmps10
  go_wp2_with (first|((with_reducible refine gate_dst (N:=4) rfl ?_);refine box_event ?hg (N:=4) ?hd (cs:=#[.int .i64 a1_0,.int .i64 a1_1,.bool a1_2,.int .i64 a1_3,.int .i64 a1_4,.int .i64 a1_5,.int .i64 a1_6,.int .i64 a1_7,.int .i64 a1_8,.string a1_9]) (t:=82) ?hr ?_;(case hd=>rfl);(case hg=>rfl);(case hr=>first|(go_simp;done)|(go_simp;rfl));intro gb320 hg w6 hbox hb;have n0_:=Aside0.mk (below_step (bB) hb);have n1_:=Aside0.mk (hbox);have n2_:=Aside0.mk ((bG:w.heap.size≤gb320));have n3_:=Aside0.mk ((bG:w.heap.size≤gb320));clear HB;have HB:=n0_;have BK320:=n1_;have GW320:=n2_;have GE320:=n3_;clear n0_ n1_ n2_ n3_;clear hb hbox hg)|((with_reducible refine gate_callee (f:=22) rfl ?_);refine goesA (some 23) rfl rfl Try.func22 #[.slice A0 l0.length c0,.int .i64 1048576] rfl ?_;(with_reducible refine(laws_szContactS.calls _ _ l0 1048576 t321 _ ?side1 ?side2 A4.out).mono ?_);(case side1=>exact bC HR0.out);(case side2=>exact HC0.out);rintro e w' ⟨rfl,⟨nd,rfl⟩⟩;refine⟨_,rfl,?_⟩))
  go_ret
  exact⟨bE,bS GE320.out⟩
 ·rw[if_neg c5] at H
  have c5b0:decide (t321 < 0)=false:=decide_eq_false c5
  clear c5
  replace H:=Option.bind_eq_some_iff.mp H
  obtain⟨t322,A70,H⟩:=H
  have A7:=Aside0.mk A70
  clear A70
  by_cases c8:t322 < 0
  ·rw[if_pos c8] at H
   have c8b0:decide (t322 < 0)=true:=decide_eq_true c8
   clear c8
   obtain rfl:=Option.some.inj H
   go_enter Try.func10,Try.ntmps10
   go_wp2_with (first|((with_reducible refine gate_dst (N:=4) rfl ?_);refine box_event ?hg (N:=4) ?hd (cs:=#[.int .i64 a1_0,.int .i64 a1_1,.bool a1_2,.int .i64 a1_3,.int .i64 a1_4,.int .i64 a1_5,.int .i64 a1_6,.int .i64 a1_7,.int .i64 a1_8,.string a1_9]) (t:=82) ?hr ?_;(case hd=>rfl);(case hg=>rfl);(case hr=>first|(go_simp;done)|(go_simp;rfl));intro gb320 hg w9 hbox hb;have n0_:=Aside0.mk (below_step (bB) hb);have n1_:=Aside0.mk (hbox);have n2_:=Aside0.mk ((bG:w.heap.size≤gb320));have n3_:=Aside0.mk ((bG:w.heap.size≤gb320));clear HB;have HB:=n0_;have BK320:=n1_;have GW320:=n2_;have GE320:=n3_;clear n0_ n1_ n2_ n3_;clear hb hbox hg)|((with_reducible refine gate_callee (f:=22) rfl ?_);refine goesA (some 23) rfl rfl Try.func22 #[.slice A0 l0.length c0,.int .i64 1048576] rfl ?_;(with_reducible refine(laws_szContactS.calls _ _ l0 1048576 t321 _ ?side1 ?side2 A4.out).mono ?_);(case side1=>exact bC HR0.out);(case side2=>exact HC0.out);rintro e w' ⟨rfl,⟨nd,rfl⟩⟩;refine⟨_,rfl,?_⟩;have hcz10_0:w9.cell? ⟨gb320,0,none⟩=some (.int .i64 a1_0):=(blk_cell BK320.out 0).trans rfl;have hcz10_1:w9.cell? ⟨gb320,1,none⟩=some (.int .i64 a1_1):=(blk_cell BK320.out 1).trans rfl;have hcz10_2:w9.cell? ⟨gb320,2,none⟩=some (.bool a1_2):=(blk_cell BK320.out 2).trans rfl;have hcz10_3:w9.cell? ⟨gb320,3,none⟩=some (.int .i64 a1_3):=(blk_cell BK320.out 3).trans rfl;have hcz10_4:w9.cell? ⟨gb320,4,none⟩=some (.int .i64 a1_4):=(blk_cell BK320.out 4).trans rfl;have hcz10_5:w9.cell? ⟨gb320,5,none⟩=some (.int .i64 a1_5):=(blk_cell BK320.out 5).trans rfl;have hcz10_6:w9.cell? ⟨gb320,6,none⟩=some (.int .i64 a1_6):=(blk_cell BK320.out 6).trans rfl;have hcz10_7:w9.cell? ⟨gb320,7,none⟩=some (.int .i64 a1_7):=(blk_cell BK320.out 7).trans rfl;have hcz10_8:w9.cell? ⟨gb320,8,none⟩=some (.int .i64 a1_8):=(blk_cell BK320.out 8).trans rfl;have hcz10_9:w9.cell? ⟨gb320,9,none⟩=some (.string a1_9):=(blk_cell BK320.out 9).trans rfl;have hfz10_0:=blk_frozen BK320.out 0;have hfz10_1:=blk_frozen BK320.out 1;have hfz10_2:=blk_frozen BK320.out 2;have hfz10_3:=blk_frozen BK320.out 3;have hfz10_4:=blk_frozen BK320.out 4;have hfz10_5:=blk_frozen BK320.out 5;have hfz10_6:=blk_frozen BK320.out 6;have hfz10_7:=blk_frozen BK320.out 7;have hfz10_8:=blk_frozen BK320.out 8;have hfz10_9:=blk_frozen BK320.out 9)|((with_reducible refine gate_callee (f:=51) rfl ?_);refine goesA (some 28) rfl rfl Try.func51 #[.agg #[.int .i64 a1_0,.int .i64 a1_1,.bool a1_2,.int .i64 a1_3,.int .i64 a1_4,.int .i64 a1_5,.int .i64 a1_6,.int .i64 a1_7,.int .i64 a1_8,.string a1_9],.int .i64 t321] rfl ?_;(with_reducible refine(laws_szBundle.calls a1_0 a1_1 a1_2 a1_3 a1_4 a1_5 a1_6 a1_7 a1_8 a1_9 t321 t322 _ A7.out).mono ?_);rintro e w11 ⟨rfl,hb⟩;refine⟨_,rfl,?_⟩;have n0_:=Aside0.mk (blk_below (g:=gb320) (o:=.cells #[.int .i64 a1_0,.int .i64 a1_1,.bool a1_2,.int .i64 a1_3,.int .i64 a1_4,.int .i64 a1_5,.int .i64 a1_6,.int .i64 a1_7,.int .i64 a1_8,.string a1_9] 82 (0,0)) (bL BK320.out) hb);have n1_:=Aside0.mk (below_step (bS GE320.out) hb);clear BK320 HB;have BK320:=n0_;have HB:=n1_;clear n0_ n1_;(try clear hb);(try clear hb2);(try clear hk);(try clear hi)))
   go_ret
   exact⟨bE,bS GE320.out⟩
  ·rw[if_neg c8] at H
   have c8b0:decide (t322 < 0)=false:=decide_eq_false c8
   clear c8
   replace H:=Option.bind_eq_some_iff.mp H
   obtain⟨t323,A120,H⟩:=H
   have A12:=Aside0.mk A120
   clear A120
   replace H:=Option.bind_eq_some_iff.mp H
   obtain⟨⟨t326,t327,t328,t329,t330,t331,t332,t333,t334,t335⟩,A130,H⟩:=H
   have A13:=Aside0.mk A130
   clear A130
   replace H:=Option.bind_eq_some_iff.mp H
   obtain⟨⟨t336,t339,t340⟩,A140,H⟩:=H
   have A14:=Aside0.mk A140
   clear A140
   replace H:=Option.bind_eq_some_iff.mp H
   obtain⟨t341,A150,H⟩:=H
   have A15:=Aside0.mk A150
   clear A150
   replace H:=Option.bind_eq_some_iff.mp H
   obtain⟨⟨t344,t345,t346,t347,t348,t349,t350,t351,t352,t353⟩,A160,H⟩:=H
   have A16:=Aside0.mk A160
   clear A160
   replace H:=Option.bind_eq_some_iff.mp H
   obtain⟨⟨t354,t357,t358⟩,A170,H⟩:=H
   have A17:=Aside0.mk A170
   clear A170
   have HC18:=Aside0.mk H
   clear H
   go_enter Try.func10,Try.ntmps10
   try go_wp2_with (first|((with_reducible refine gate_dst (N:=4) rfl ?_);refine box_event ?hg (N:=4) ?hd (cs:=#[.int .i64 a1_0,.int .i64 a1_1,.bool a1_2,.int .i64 a1_3,.int .i64 a1_4,.int .i64 a1_5,.int .i64 a1_6,.int .i64 a1_7,.int .i64 a1_8,.string a1_9]) (t:=82) ?hr ?_;(case hd=>rfl);(case hg=>rfl);(case hr=>first|(go_simp;done)|(go_simp;rfl));intro gb320 hg w19 hbox hb;have n0_:=Aside0.mk (below_step (bB) hb);have n1_:=Aside0.mk (hbox);have n2_:=Aside0.mk ((bG:w.heap.size≤gb320));have n3_:=Aside0.mk ((bG:w.heap.size≤gb320));clear HB;have HB:=n0_;have BK320:=n1_;have GW320:=n2_;have GE320:=n3_;clear n0_ n1_ n2_ n3_;clear hb hbox hg)|((with_reducible refine gate_callee (f:=22) rfl ?_);refine goesA (some 23) rfl rfl Try.func22 #[.slice A0 l0.length c0,.int .i64 1048576] rfl ?_;(with_reducible refine(laws_szContactS.calls _ _ l0 1048576 t321 _ ?side1 ?side2 A4.out).mono ?_);(case side1=>exact bC HR0.out);(case side2=>exact HC0.out);rintro e w' ⟨rfl,⟨nd,rfl⟩⟩;refine⟨_,rfl,?_⟩;have hcz20_0:w19.cell? ⟨gb320,0,none⟩=some (.int .i64 a1_0):=(blk_cell BK320.out 0).trans rfl;have hcz20_1:w19.cell? ⟨gb320,1,none⟩=some (.int .i64 a1_1):=(blk_cell BK320.out 1).trans rfl;have hcz20_2:w19.cell? ⟨gb320,2,none⟩=some (.bool a1_2):=(blk_cell BK320.out 2).trans rfl;have hcz20_3:w19.cell? ⟨gb320,3,none⟩=some (.int .i64 a1_3):=(blk_cell BK320.out 3).trans rfl;have hcz20_4:w19.cell? ⟨gb320,4,none⟩=some (.int .i64 a1_4):=(blk_cell BK320.out 4).trans rfl;have hcz20_5:w19.cell? ⟨gb320,5,none⟩=some (.int .i64 a1_5):=(blk_cell BK320.out 5).trans rfl;have hcz20_6:w19.cell? ⟨gb320,6,none⟩=some (.int .i64 a1_6):=(blk_cell BK320.out 6).trans rfl;have hcz20_7:w19.cell? ⟨gb320,7,none⟩=some (.int .i64 a1_7):=(blk_cell BK320.out 7).trans rfl;have hcz20_8:w19.cell? ⟨gb320,8,none⟩=some (.int .i64 a1_8):=(blk_cell BK320.out 8).trans rfl;have hcz20_9:w19.cell? ⟨gb320,9,none⟩=some (.string a1_9):=(blk_cell BK320.out 9).trans rfl;have hfz20_0:=blk_frozen BK320.out 0;have hfz20_1:=blk_frozen BK320.out 1;have hfz20_2:=blk_frozen BK320.out 2;have hfz20_3:=blk_frozen BK320.out 3;have hfz20_4:=blk_frozen BK320.out 4;have hfz20_5:=blk_frozen BK320.out 5;have hfz20_6:=blk_frozen BK320.out 6;have hfz20_7:=blk_frozen BK320.out 7;have hfz20_8:=blk_frozen BK320.out 8;have hfz20_9:=blk_frozen BK320.out 9)|((with_reducible refine gate_callee (f:=51) rfl ?_);refine goesA (some 28) rfl rfl Try.func51 #[.agg #[.int .i64 a1_0,.int .i64 a1_1,.bool a1_2,.int .i64 a1_3,.int .i64 a1_4,.int .i64 a1_5,.int .i64 a1_6,.int .i64 a1_7,.int .i64 a1_8,.string a1_9],.int .i64 t321] rfl ?_;(with_reducible refine(laws_szBundle.calls a1_0 a1_1 a1_2 a1_3 a1_4 a1_5 a1_6 a1_7 a1_8 a1_9 t321 t322 _ A7.out).mono ?_);rintro e w21 ⟨rfl,hb⟩;refine⟨_,rfl,?_⟩;have n0_:=Aside0.mk (blk_below (g:=gb320) (o:=.cells #[.int .i64 a1_0,.int .i64 a1_1,.bool a1_2,.int .i64 a1_3,.int .i64 a1_4,.int .i64 a1_5,.int .i64 a1_6,.int .i64 a1_7,.int .i64 a1_8,.string a1_9] 82 (0,0)) (bL BK320.out) hb);have n1_:=Aside0.mk (below_step (bS GE320.out) hb);clear BK320 HB;have BK320:=n0_;have HB:=n1_;clear n0_ n1_;(try clear hb);(try clear hb2);(try clear hk);(try clear hi)))
   (try (rw[drewN_self w21];generalize hq_:World.drewN w21 _=w21;have n0_:=Aside0.mk (blk_at hq_ BK320.out);have n1_:=Aside0.mk (below_at hq_ HB.out);clear hq_ BK320 HB;have BK320:=n0_;have HB:=n1_;clear n0_ n1_))
   have n0_:=Aside0.mk (blk_drew BK320.out)
   have n1_:=Aside0.mk (below_drew1 HB.out)
   clear BK320 HB
   have BK320:=n0_
   have HB:=n1_
   clear n0_ n1_
   refine start_ (n:=13) (S:=fun w'=>w'.cell? ⟨gb320,0,none⟩=some (.int .i64 a1_0)∧w'.cell? ⟨gb320,1,none⟩=some (.int .i64 a1_1)∧w'.cell? ⟨gb320,2,none⟩=some (.bool a1_2)∧w'.cell? ⟨gb320,3,none⟩=some (.int .i64 a1_3)∧w'.cell? ⟨gb320,4,none⟩=some (.int .i64 a1_4)∧w'.cell? ⟨gb320,5,none⟩=some (.int .i64 a1_5)∧w'.cell? ⟨gb320,6,none⟩=some (.int .i64 a1_6)∧w'.cell? ⟨gb320,7,none⟩=some (.int .i64 a1_7)∧w'.cell? ⟨gb320,8,none⟩=some (.int .i64 a1_8)∧w'.cell? ⟨gb320,9,none⟩=some (.string a1_9)) (ds:=[]) #[false,false,false,false,false,false,false,false,false,false,false,false,false] (by kernel_rfl) rfl rfl ⟨(blk_cell BK320.out 0).trans rfl,(blk_cell BK320.out 1).trans rfl,(blk_cell BK320.out 2).trans rfl,(blk_cell BK320.out 3).trans rfl,(blk_cell BK320.out 4).trans rfl,(blk_cell BK320.out 5).trans rfl,(blk_cell BK320.out 6).trans rfl,(blk_cell BK320.out 7).trans rfl,(blk_cell BK320.out 8).trans rfl,(blk_cell BK320.out 9).trans rfl⟩ (fun hHeld => ?_);refine with_tabW laws_FnExactFollowPlan.tab8 laws_FnExactFollowPlan.bits8 (fun HT_ HW_ => ?_)
   generalize w21.drew=w22 at BK320 HB hHeld ⊢
   refine pure_ (i:=0) (N:=some 32) (v:=?_) (a':=?_) #[true,false,false,false,false,false,false,false,false,false,false,false,false] rfl rfl (any_of HT_.out (by kernel_rfl)) (fun _ _ _ h=>h) (Or.inl ⟨by rfl,?_⟩) ?_ ?_
   rotate_left
   ·intro w'
    go_simp
    with_reducible rfl
   rotate_left
   ·simp only[Act.put,List.setIfInBounds_toArray,List.set_cons_zero,List.set_cons_succ,i64_w,i32_w]
    rfl
   refine pure_ (i:=4) (N:=some 36) (v:=?_) (a':=?_) #[true,false,false,false,true,false,false,false,false,false,false,false,false] rfl rfl (any_of HT_.out (by kernel_rfl)) (fun _ _ _ h=>h) (Or.inl ⟨by rfl,?_⟩) ?_ ?_
   rotate_left
   ·intro w'
    go_simp
    with_reducible rfl
   rotate_left
   ·simp only[Act.put,List.setIfInBounds_toArray,List.set_cons_zero,List.set_cons_succ,i64_w,i32_w]
    rfl
   refine take_ (i:=2) (N:=some 34) (v:=?_) (a':=?_) #[true,false,true,false,true,false,false,false,false,false,false,false,false] rfl rfl (take_ofW HT_.out HW_.out (by kernel_rfl)) (fun _ _ _ h=>h) (Or.inl ⟨by rfl,?_⟩) hHeld ?_ ?_
   rotate_left
   ·rintro w' ⟨s0,s1,s2,s3,s4,s5,s6,s7,s8,s9⟩
    go_simp
    with_reducible rfl
   rotate_left
   ·simp only[Act.put,List.setIfInBounds_toArray,List.set_cons_zero,List.set_cons_succ,i64_w,i32_w]
    rfl
   refine one_ (i:=1) (N:=some 33) #[true,true,true,false,true,false,false,false,false,false,false,false,false] rfl rfl (one_of HT_.out (by kernel_rfl)) (by decide) (fun K hK => ?_)
   refine goes_ Try.func24 (by kernel_rfl) rfl #[.slice A0 l0.length c0] (by rfl) rfl rfl (by(try simp only[List.map_toArray,List.map_cons,List.map_nil]);first|done|rfl|(simp only[List.length_drop,List.length_take];rfl)) ?_
   with_reducible refine(laws_toContactS.calls k _ _ l0 t323 _ ?side1 ?side2 A12.out).mono ?_
   (case side1=>exact bC HR0.out)
   (case side2=>exact HC0.out)
   rintro e w23 ⟨v324,rfl,ho0,hb⟩
   refine⟨_,rfl,?_⟩
   have n0_:=Aside0.mk (Kd.R_lower ho0 (below_size (bS GE320.out)))
   have n1_:=Aside0.mk (blk_below (g:=gb320) (o:=.cells #[.int .i64 a1_0,.int .i64 a1_1,.bool a1_2,.int .i64 a1_3,.int .i64 a1_4,.int .i64 a1_5,.int .i64 a1_6,.int .i64 a1_7,.int .i64 a1_8,.string a1_9] 82 (0,0)) (bL BK320.out) hb)
   have n2_:=Aside0.mk (below_step (bS GE320.out) hb)
   clear BK320 HB
   have HO325:=n0_
   have BK320:=n1_
   have HB:=n2_
   clear n0_ n1_ n2_
   (try clear hb)
   (try clear hb2)
   (try clear hk)
   (try clear hi)
   (try clear ho0)
   refine hK.out _ _ ⟨(blk_cell BK320.out 0).trans rfl,(blk_cell BK320.out 1).trans rfl,(blk_cell BK320.out 2).trans rfl,(blk_cell BK320.out 3).trans rfl,(blk_cell BK320.out 4).trans rfl,(blk_cell BK320.out 5).trans rfl,(blk_cell BK320.out 6).trans rfl,(blk_cell BK320.out 7).trans rfl,(blk_cell BK320.out 8).trans rfl,(blk_cell BK320.out 9).trans rfl⟩ (fun hHeld => ?_)
   clear hK K
   refine norm_ (a':=?_) ?_ ?_
   rotate_left
   ·show Act.put _ (some 33) _=_
    simp only[Act.put,List.setIfInBounds_toArray,List.set_cons_zero,List.set_cons_succ,i64_w,i32_w]
    rfl
   refine one_ (i:=3) (N:=some 35) #[true,true,true,true,true,false,false,false,false,false,false,false,false] rfl rfl (one_of HT_.out (by kernel_rfl)) (by decide) (fun K hK => ?_)
   refine goes_ Try.func53 (by kernel_rfl) rfl #[.agg #[.int .i64 a1_0,.int .i64 a1_1,.bool a1_2,.int .i64 a1_3,.int .i64 a1_4,.int .i64 a1_5,.int .i64 a1_6,.int .i64 a1_7,.int .i64 a1_8,.string a1_9]] (by rfl) rfl rfl (by(try simp only[List.map_toArray,List.map_cons,List.map_nil]);first|done|rfl|(simp only[List.length_drop,List.length_take];rfl)) ?_
   with_reducible refine(laws_toBundle.calls a1_0 a1_1 a1_2 a1_3 a1_4 a1_5 a1_6 a1_7 a1_8 a1_9 t326 t327 t328 t329 t330 t331 t332 t333 t334 t335 _ A13.out).mono ?_
   rintro e w24 ⟨rfl,hb⟩
   refine⟨_,rfl,?_⟩
   have n0_:=Aside0.mk (Kd.R_below (bK HO325.out) hb)
   have n1_:=Aside0.mk (blk_below (g:=gb320) (o:=.cells #[.int .i64 a1_0,.int .i64 a1_1,.bool a1_2,.int .i64 a1_3,.int .i64 a1_4,.int .i64 a1_5,.int .i64 a1_6,.int .i64 a1_7,.int .i64 a1_8,.string a1_9] 82 (0,0)) (bL BK320.out) hb)
   have n2_:=Aside0.mk (below_step (bS GE320.out) hb)
   clear HO325 BK320 HB
   have HO325:=n0_
   have BK320:=n1_
   have HB:=n2_
   clear n0_ n1_ n2_
   (try clear hb)
   (try clear hb2)
   (try clear hk)
   (try clear hi)
   obtain⟨Ao25,co25,eo25⟩:=Kd.R_slice HO325.out
   (first|subst eo25|(injection eo25 with f1_ f2_ f3_;have f4_:=f1_.symm;have f5_:=f3_.symm;clear f1_ f2_ f3_;subst f4_;subst f5_))
   refine hK.out _ _ ⟨(blk_cell BK320.out 0).trans rfl,(blk_cell BK320.out 1).trans rfl,(blk_cell BK320.out 2).trans rfl,(blk_cell BK320.out 3).trans rfl,(blk_cell BK320.out 4).trans rfl,(blk_cell BK320.out 5).trans rfl,(blk_cell BK320.out 6).trans rfl,(blk_cell BK320.out 7).trans rfl,(blk_cell BK320.out 8).trans rfl,(blk_cell BK320.out 9).trans rfl⟩ (fun hHeld => ?_)
   clear hK K
   refine norm_ (a':=?_) ?_ ?_
   rotate_left
   ·show Act.put _ (some 35) _=_
    simp only[Act.put,List.setIfInBounds_toArray,List.set_cons_zero,List.set_cons_succ,i64_w,i32_w]
    rfl
   refine one_ (i:=5) (N:=some 37) #[true,true,true,true,true,true,false,false,false,false,false,false,false] rfl rfl (one_of HT_.out (by kernel_rfl)) (by decide) (fun K hK => ?_)
   refine goes_ Try.func57 (by kernel_rfl) rfl #[.slice Ao25 t323.length co25,.agg #[.int .i64 t326,.int .i64 t327,.bool t328,.int .i64 t329,.int .i64 t330,.int .i64 t331,.int .i64 t332,.int .i64 t333,.int .i64 t334,.string t335],.int .i64 a2] (by rfl) rfl rfl (by(try simp only[List.map_toArray,List.map_cons,List.map_nil]);first|done|rfl|(simp only[List.length_drop,List.length_take];rfl)) ?_
   with_reducible refine(spec_FollowPlan.calls k _ _ t323 t326 t327 t328 t329 t330 t331 t332 t333 t334 t335 a2 t336 t339 t340 _ ?side1 ?side2 A14.out).mono ?_
   (case side1=>exact bT HO325.out)
   (case side2=>exact(Kd.R_reads' HO325.out).2.1)
   rintro e w26 ⟨v337,rfl,ho0,hb⟩
   refine⟨_,rfl,?_⟩
   have n0_:=Aside0.mk (Kd.R_below (bK HO325.out) hb)
   have n1_:=Aside0.mk (Kd.R_lower ho0 (below_size (bS GE320.out)))
   have n2_:=Aside0.mk (blk_below (g:=gb320) (o:=.cells #[.int .i64 a1_0,.int .i64 a1_1,.bool a1_2,.int .i64 a1_3,.int .i64 a1_4,.int .i64 a1_5,.int .i64 a1_6,.int .i64 a1_7,.int .i64 a1_8,.string a1_9] 82 (0,0)) (bL BK320.out) hb)
   have n3_:=Aside0.mk (below_step (bS GE320.out) hb)
   clear HO325 BK320 HB
   have HO325:=n0_
   have HO338:=n1_
   have BK320:=n2_
   have HB:=n3_
   clear n0_ n1_ n2_ n3_
   (try clear hb)
   (try clear hb2)
   (try clear hk)
   (try clear hi)
   (try clear ho0)
   refine hK.out _ _ ⟨(blk_cell BK320.out 0).trans rfl,(blk_cell BK320.out 1).trans rfl,(blk_cell BK320.out 2).trans rfl,(blk_cell BK320.out 3).trans rfl,(blk_cell BK320.out 4).trans rfl,(blk_cell BK320.out 5).trans rfl,(blk_cell BK320.out 6).trans rfl,(blk_cell BK320.out 7).trans rfl,(blk_cell BK320.out 8).trans rfl,(blk_cell BK320.out 9).trans rfl⟩ (fun hHeld => ?_)
   clear hK K
   refine norm_ (a':=?_) ?_ ?_
   rotate_left
   ·show Act.put _ (some 37) _=_
    simp only[Act.put,List.setIfInBounds_toArray,List.set_cons_zero,List.set_cons_succ,i64_w,i32_w]
    rfl
   refine pure_ (i:=6) (N:=some 31) (v:=?_) (a':=?_) #[true,true,true,true,true,true,true,false,false,false,false,false,false] rfl rfl (any_of HT_.out (by kernel_rfl)) (fun _ _ _ h=>h) (Or.inl ⟨by rfl,?_⟩) ?_ ?_
   rotate_left
   ·intro w'
    go_simp
    with_reducible rfl
   rotate_left
   ·simp only[Act.put,List.setIfInBounds_toArray,List.set_cons_zero,List.set_cons_succ,i64_w,i32_w]
    rfl
   refine pure_ (i:=7) (N:=some 38) (v:=?_) (a':=?_) #[true,true,true,true,true,true,true,true,false,false,false,false,false] rfl rfl (any_of HT_.out (by kernel_rfl)) (fun _ _ _ h=>h) (Or.inl ⟨by rfl,?_⟩) ?_ ?_
   rotate_left
   ·intro w'
    go_simp
    with_reducible rfl
   rotate_left
   ·simp only[Act.put,List.setIfInBounds_toArray,List.set_cons_zero,List.set_cons_succ,i64_w,i32_w]
    rfl
   refine pure_ (i:=8) (N:=some 39) (v:=?_) (a':=?_) #[true,true,true,true,true,true,true,true,true,false,false,false,false] rfl rfl (any_of HT_.out (by kernel_rfl)) (fun _ _ _ h=>h) (Or.inl ⟨by rfl,?_⟩) ?_ ?_
   rotate_left
   ·intro w'
    go_simp
    with_reducible rfl
   rotate_left
   ·simp only[Act.put,List.setIfInBounds_toArray,List.set_cons_zero,List.set_cons_succ,i64_w,i32_w]
    rfl
   refine pure_ (i:=9) (N:=some 40) (v:=?_) (a':=?_) #[true,true,true,true,true,true,true,true,true,true,false,false,false] rfl rfl (any_of HT_.out (by kernel_rfl)) (fun _ _ _ h=>h) (Or.inl ⟨by rfl,?_⟩) ?_ ?_
   rotate_left
   ·intro w'
    go_simp
    with_reducible rfl
   rotate_left
   ·simp only[Act.put,List.setIfInBounds_toArray,List.set_cons_zero,List.set_cons_succ,i64_w,i32_w]
    rfl
   refine pure_ (i:=10) (N:=some 8) (v:=?_) (a':=?_) #[true,true,true,true,true,true,true,true,true,true,true,false,false] rfl rfl (any_of HT_.out (by kernel_rfl)) (fun _ _ _ h=>h) (Or.inl ⟨by rfl,?_⟩) ?_ ?_
   rotate_left
   ·intro w'
    go_simp
    with_reducible rfl
   rotate_left
   ·simp only[Act.put,List.setIfInBounds_toArray,List.set_cons_zero,List.set_cons_succ,i64_w,i32_w]
    rfl
   refine pure_ (i:=11) (N:=some 9) (v:=?_) (a':=?_) #[true,true,true,true,true,true,true,true,true,true,true,true,false] rfl rfl (any_of HT_.out (by kernel_rfl)) (fun _ _ _ h=>h) (Or.inl ⟨by rfl,?_⟩) ?_ ?_
   rotate_left
   ·intro w'
    go_simp
    with_reducible rfl
   rotate_left
   ·simp only[Act.put,List.setIfInBounds_toArray,List.set_cons_zero,List.set_cons_succ,i64_w,i32_w]
    rfl
   refine pure_ (i:=12) (N:=some 10) (v:=?_) (a':=?_) #[true,true,true,true,true,true,true,true,true,true,true,true,true] rfl rfl (any_of HT_.out (by kernel_rfl)) (fun _ _ _ h=>h) (Or.inl ⟨by rfl,?_⟩) ?_ ?_
   rotate_left
   ·intro w'
    go_simp
    with_reducible rfl
   rotate_left
   ·simp only[Act.put,List.setIfInBounds_toArray,List.set_cons_zero,List.set_cons_succ,i64_w,i32_w]
    rfl
   refine done_ (done_of HT_.out (by kernel_rfl)) ?_
   go_upto_region 11 with (first|((with_reducible refine gate_callee (f:=24) rfl ?_);refine goesA (some 42) rfl rfl Try.func24 #[.slice A0 l0.length c0] rfl ?_;(with_reducible refine(laws_toContactS.calls k _ _ l0 t341 _ ?side1 ?side2 A15.out).mono ?_);(case side1=>exact bC HR0.out);(case side2=>exact HC0.out);rintro e w27 ⟨v342,rfl,ho0,hb⟩;refine⟨_,rfl,?_⟩;have n0_:=Aside0.mk (Kd.R_elder' (bK HO325.out) (Kd.R_base ho0) hb);have n1_:=Aside0.mk (Kd.R_below (bK HO338.out) hb);have n2_:=Aside0.mk (Kd.R_lower (Kd.R_new' ho0 (Kd.R_lt (bK HO325.out))) (below_size (bS GE320.out)));have n3_:=Aside0.mk (blk_below (g:=gb320) (o:=.cells #[.int .i64 a1_0,.int .i64 a1_1,.bool a1_2,.int .i64 a1_3,.int .i64 a1_4,.int .i64 a1_5,.int .i64 a1_6,.int .i64 a1_7,.int .i64 a1_8,.string a1_9] 82 (0,0)) (bL BK320.out) hb);have n4_:=Aside0.mk (below_step (bS GE320.out) hb);clear HO325 HO338 BK320 HB;have HO325:=n0_;have HO338:=n1_;have HO343:=n2_;have BK320:=n3_;have HB:=n4_;clear n0_ n1_ n2_ n3_ n4_;(try clear hb);(try clear hb2);(try clear hk);(try clear hi);(try clear ho0);have hcz28_0:w27.cell? ⟨gb320,0,none⟩=some (.int .i64 a1_0):=(blk_cell BK320.out 0).trans rfl;have hcz28_1:w27.cell? ⟨gb320,1,none⟩=some (.int .i64 a1_1):=(blk_cell BK320.out 1).trans rfl;have hcz28_2:w27.cell? ⟨gb320,2,none⟩=some (.bool a1_2):=(blk_cell BK320.out 2).trans rfl;have hcz28_3:w27.cell? ⟨gb320,3,none⟩=some (.int .i64 a1_3):=(blk_cell BK320.out 3).trans rfl;have hcz28_4:w27.cell? ⟨gb320,4,none⟩=some (.int .i64 a1_4):=(blk_cell BK320.out 4).trans rfl;have hcz28_5:w27.cell? ⟨gb320,5,none⟩=some (.int .i64 a1_5):=(blk_cell BK320.out 5).trans rfl;have hcz28_6:w27.cell? ⟨gb320,6,none⟩=some (.int .i64 a1_6):=(blk_cell BK320.out 6).trans rfl;have hcz28_7:w27.cell? ⟨gb320,7,none⟩=some (.int .i64 a1_7):=(blk_cell BK320.out 7).trans rfl;have hcz28_8:w27.cell? ⟨gb320,8,none⟩=some (.int .i64 a1_8):=(blk_cell BK320.out 8).trans rfl;have hcz28_9:w27.cell? ⟨gb320,9,none⟩=some (.string a1_9):=(blk_cell BK320.out 9).trans rfl;have hfz28_0:=blk_frozen BK320.out 0;have hfz28_1:=blk_frozen BK320.out 1;have hfz28_2:=blk_frozen BK320.out 2;have hfz28_3:=blk_frozen BK320.out 3;have hfz28_4:=blk_frozen BK320.out 4;have hfz28_5:=blk_frozen BK320.out 5;have hfz28_6:=blk_frozen BK320.out 6;have hfz28_7:=blk_frozen BK320.out 7;have hfz28_8:=blk_frozen BK320.out 8;have hfz28_9:=blk_frozen BK320.out 9)|((with_reducible refine gate_callee (f:=53) rfl ?_);refine goesA (some 46) rfl rfl Try.func53 #[.agg #[.int .i64 a1_0,.int .i64 a1_1,.bool a1_2,.int .i64 a1_3,.int .i64 a1_4,.int .i64 a1_5,.int .i64 a1_6,.int .i64 a1_7,.int .i64 a1_8,.string a1_9]] rfl ?_;(with_reducible refine(laws_toBundle.calls a1_0 a1_1 a1_2 a1_3 a1_4 a1_5 a1_6 a1_7 a1_8 a1_9 t344 t345 t346 t347 t348 t349 t350 t351 t352 t353 _ A16.out).mono ?_);rintro e w29 ⟨rfl,hb⟩;refine⟨_,rfl,?_⟩;have n0_:=Aside0.mk (Kd.R_below (bK HO325.out) hb);have n1_:=Aside0.mk (Kd.R_below (bK HO338.out) hb);have n2_:=Aside0.mk (Kd.R_below (bK HO343.out) hb);have n3_:=Aside0.mk (blk_below (g:=gb320) (o:=.cells #[.int .i64 a1_0,.int .i64 a1_1,.bool a1_2,.int .i64 a1_3,.int .i64 a1_4,.int .i64 a1_5,.int .i64 a1_6,.int .i64 a1_7,.int .i64 a1_8,.string a1_9] 82 (0,0)) (bL BK320.out) hb);have n4_:=Aside0.mk (below_step (bS GE320.out) hb);clear HO325 HO338 HO343 BK320 HB;have HO325:=n0_;have HO338:=n1_;have HO343:=n2_;have BK320:=n3_;have HB:=n4_;clear n0_ n1_ n2_ n3_ n4_;(try clear hb);(try clear hb2);(try clear hk);(try clear hi);obtain⟨Ao30,co30,eo30⟩:=Kd.R_slice HO343.out;subst eo30)|((with_reducible refine gate_callee (f:=58) rfl ?_);refine goesA (some 48) rfl rfl Try.func58 #[.slice Ao30 t341.length co30,.agg #[.int .i64 t344,.int .i64 t345,.bool t346,.int .i64 t347,.int .i64 t348,.int .i64 t349,.int .i64 t350,.int .i64 t351,.int .i64 t352,.string t353],.int .i64 a2] rfl ?_;(with_reducible refine(impl_FollowPlan.calls k _ _ t341 t344 t345 t346 t347 t348 t349 t350 t351 t352 t353 a2 t354 t357 t358 _ ?side1 ?side2 A17.out).mono ?_);(case side1=>exact bT HO343.out);(case side2=>exact(Kd.R_reads' HO343.out).2.1);rintro e w31 ⟨v355,rfl,ho0,hb⟩;refine⟨_,rfl,?_⟩;have n0_:=Aside0.mk (Kd.R_below (bK HO325.out) hb);have n1_:=Aside0.mk (Kd.R_elder' (bK HO338.out) (Kd.R_base ho0) hb);have n2_:=Aside0.mk (Kd.R_below (bK HO343.out) hb);have n3_:=Aside0.mk (Kd.R_lower (Kd.R_new' ho0 (Kd.R_lt (bK HO338.out))) (below_size (bS GE320.out)));have n4_:=Aside0.mk (blk_below (g:=gb320) (o:=.cells #[.int .i64 a1_0,.int .i64 a1_1,.bool a1_2,.int .i64 a1_3,.int .i64 a1_4,.int .i64 a1_5,.int .i64 a1_6,.int .i64 a1_7,.int .i64 a1_8,.string a1_9] 82 (0,0)) (bL BK320.out) hb);have n5_:=Aside0.mk (below_step (bS GE320.out) hb);clear HO325 HO338 HO343 BK320 HB;have HO325:=n0_;have HO338:=n1_;have HO343:=n2_;have HO356:=n3_;have BK320:=n4_;have HB:=n5_;clear n0_ n1_ n2_ n3_ n4_ n5_;(try clear hb);(try clear hb2);(try clear hk);(try clear hi);(try clear ho0)))
   (try simp only[Act.put,List.setIfInBounds_toArray,List.set_cons_zero,List.set_cons_succ])
   go_cut [65] (fun v65 wc => ∃ (kq:Nat) (x65_17:Bool),v65=.bool x65_17∧Aside0 (laws_FnExactFollowPlan.j0 kq l0 a2 t336 t339 t340 t341 t354 t357 t358 x65_17 a1_0 a1_1 a1_2 a1_3 a1_4 a1_5 a1_6 a1_7 a1_8 a1_9=some r)∧Aside0 (kq≤k)∧Aside0 (Kd.R (Kd.int .i64) 3 wc w.heap.size (fun k_=>some k_≠(v355:Value).ownBlock) v337 t336)∧Aside0 (Kd.R k104 104 wc w.heap.size (fun _=>True) (.slice Ao30 t341.length co30) t341)∧Aside0 (Kd.R (Kd.int .i64) 3 wc w.heap.size (fun k_=>some k_≠(v337:Value).ownBlock) v355 t354)∧Aside0 (wc.heap[gb320]?=some (.cells #[.int .i64 a1_0,.int .i64 a1_1,.bool a1_2,.int .i64 a1_3,.int .i64 a1_4,.int .i64 a1_5,.int .i64 a1_6,.int .i64 a1_7,.int .i64 a1_8,.string a1_9] 82 (0,0)))∧Aside0 (Below w.heap.size w wc))
   case first =>
    have H:=HC18.out
    clear HC18
    replace H:=Option.bind_eq_some_iff.mp H
    obtain⟨t359,A320,H⟩:=H
    have A32:=Aside0.mk A320
    clear A320
    by_cases c33:t359=true
    ·subst c33
     have H1:(if t357=t339 then (laws_FnExactFollowPlan.j0 k l0 a2 t336 t339 t340 t341 t354 t357 t358 (t358 != t340) a1_0 a1_1 a1_2 a1_3 a1_4 a1_5 a1_6 a1_7 a1_8 a1_9) else (laws_FnExactFollowPlan.j0 k l0 a2 t336 t339 t340 t341 t354 t357 t358 true a1_0 a1_1 a1_2 a1_3 a1_4 a1_5 a1_6 a1_7 a1_8 a1_9))=some r:=by rw[if_pos rfl] at H;exact H
     clear H
     have H:=H1
     clear H1
     by_cases c34:t357=t339
     ·rw[if_pos c34] at H
      have c34b0:(t357 == t339)=true:=beq_iff_eq.mpr c34
      have c34b1:(t357 != t339)=false:=bne_eq_false_iff_eq.mpr c34
      clear c34
      (first|rw[c34b0]|(simp only[i64_w,i32_w];rw[c34b0])|skip)
      have H':=Aside0.mk H
      clear H
      obtain⟨Ao35,co35,eo35⟩:=Kd.R_slice HO356.out
      subst eo35
      obtain⟨Ao36,co36,eo36⟩:=Kd.R_slice HO338.out
      subst eo36
      go_wp2_with (first|((with_reducible refine gate_callee (f:=26) rfl ?_);refine goesA (some 54) rfl rfl Try.func26 #[.slice Ao35 t354.length co35,.slice Ao36 t336.length co36] rfl ?_;(with_reducible refine(laws_eqIntS.calls k _ _ t354 _ _ t336 true _ ?side1 ?side2 ?side3 ?side4 A32.out).mono ?_);(case side1=>exact bT HO356.out);(case side2=>exact(Kd.R_reads' HO356.out).2.1);(case side3=>exact bT HO338.out);(case side4=>exact(Kd.R_reads' HO338.out).2.1);rintro e w' ⟨rfl,⟨nd,rfl⟩⟩;refine⟨_,rfl,?_⟩))
      go_meet
      case rel=>exact⟨_,((t358 != t340)),(bR),H',⟨by first|omega|exact Nat.le_refl _⟩,⟨by(with_reducible repeat (first|apply Kd.R_alloc|apply Kd.R_drewN|apply Kd.R_drew));exact Kd.R_mono HO338.out (fun _ hk=>hk.2)⟩,⟨by(with_reducible repeat (first|apply Kd.R_alloc|apply Kd.R_drewN|apply Kd.R_drew));exact Kd.R_mono HO343.out (fun _ hk=>trivial)⟩,⟨by(with_reducible repeat (first|apply Kd.R_alloc|apply Kd.R_drewN|apply Kd.R_drew));exact Kd.R_mono HO356.out (fun _ hk=>hk.2)⟩,⟨by(with_reducible repeat (first|refine blk_drewN ?_ _|refine blk_drew ?_|refine blk_alloc ?_ _));exact BK320.out⟩,⟨bS GE320.out⟩⟩
     ·rw[if_neg c34] at H
      have c34b0:(t357 == t339)=false:=beq_eq_false_iff_ne.mpr c34
      have c34b1:(t357 != t339)=true:=bne_iff_ne.mpr c34
      (first|rw[c34b0]|(simp only[i64_w,i32_w];rw[c34b0])|skip)
      have H':=Aside0.mk H
      clear H
      obtain⟨Ao37,co37,eo37⟩:=Kd.R_slice HO356.out
      subst eo37
      obtain⟨Ao38,co38,eo38⟩:=Kd.R_slice HO338.out
      subst eo38
      go_wp2_with (first|((with_reducible refine gate_callee (f:=26) rfl ?_);refine goesA (some 54) rfl rfl Try.func26 #[.slice Ao37 t354.length co37,.slice Ao38 t336.length co38] rfl ?_;(with_reducible refine(laws_eqIntS.calls k _ _ t354 _ _ t336 true _ ?side1 ?side2 ?side3 ?side4 A32.out).mono ?_);(case side1=>exact bT HO356.out);(case side2=>exact(Kd.R_reads' HO356.out).2.1);(case side3=>exact bT HO338.out);(case side4=>exact(Kd.R_reads' HO338.out).2.1);rintro e w' ⟨rfl,⟨nd,rfl⟩⟩;refine⟨_,rfl,?_⟩))
      go_meet
      case rel=>exact⟨_,(true),(bR),H',⟨by first|omega|exact Nat.le_refl _⟩,⟨by(with_reducible repeat (first|apply Kd.R_alloc|apply Kd.R_drewN|apply Kd.R_drew));exact Kd.R_mono HO338.out (fun _ hk=>hk.2)⟩,⟨by(with_reducible repeat (first|apply Kd.R_alloc|apply Kd.R_drewN|apply Kd.R_drew));exact Kd.R_mono HO343.out (fun _ hk=>trivial)⟩,⟨by(with_reducible repeat (first|apply Kd.R_alloc|apply Kd.R_drewN|apply Kd.R_drew));exact Kd.R_mono HO356.out (fun _ hk=>hk.2)⟩,⟨by(with_reducible repeat (first|refine blk_drewN ?_ _|refine blk_drew ?_|refine blk_alloc ?_ _));exact BK320.out⟩,⟨bS GE320.out⟩⟩
    ·replace c33:=Bool.eq_false_iff.mpr c33
     subst c33
     have H1:(laws_FnExactFollowPlan.j0 k l0 a2 t336 t339 t340 t341 t354 t357 t358 true a1_0 a1_1 a1_2 a1_3 a1_4 a1_5 a1_6 a1_7 a1_8 a1_9)=some r:=by rw[if_neg (show ¬ (false=true) by decide)] at H;exact H
     clear H
     have H:=H1
     clear H1
     have H':=Aside0.mk H
     clear H
     obtain⟨Ao39,co39,eo39⟩:=Kd.R_slice HO356.out
     subst eo39
     obtain⟨Ao40,co40,eo40⟩:=Kd.R_slice HO338.out
     subst eo40
     go_wp2_with (first|((with_reducible refine gate_callee (f:=26) rfl ?_);refine goesA (some 54) rfl rfl Try.func26 #[.slice Ao39 t354.length co39,.slice Ao40 t336.length co40] rfl ?_;(with_reducible refine(laws_eqIntS.calls k _ _ t354 _ _ t336 false _ ?side1 ?side2 ?side3 ?side4 A32.out).mono ?_);(case side1=>exact bT HO356.out);(case side2=>exact(Kd.R_reads' HO356.out).2.1);(case side3=>exact bT HO338.out);(case side4=>exact(Kd.R_reads' HO338.out).2.1);rintro e w' ⟨rfl,⟨nd,rfl⟩⟩;refine⟨_,rfl,?_⟩))
     go_meet
     case rel=>exact⟨_,(true),(bR),H',⟨by first|omega|exact Nat.le_refl _⟩,⟨by(with_reducible repeat (first|apply Kd.R_alloc|apply Kd.R_drewN|apply Kd.R_drew));exact Kd.R_mono HO338.out (fun _ hk=>hk.2)⟩,⟨by(with_reducible repeat (first|apply Kd.R_alloc|apply Kd.R_drewN|apply Kd.R_drew));exact Kd.R_mono HO343.out (fun _ hk=>trivial)⟩,⟨by(with_reducible repeat (first|apply Kd.R_alloc|apply Kd.R_drewN|apply Kd.R_drew));exact Kd.R_mono HO356.out (fun _ hk=>hk.2)⟩,⟨by(with_reducible repeat (first|refine blk_drewN ?_ _|refine blk_drew ?_|refine blk_alloc ?_ _));exact BK320.out⟩,⟨bS GE320.out⟩⟩
   case rest =>
    clear HC18
    try clear c1
    try clear c2
    try clear p2
    try clear c3
    try clear c5
    try clear c5b0
    try clear c8
    try clear c8b0
    try clear c10
    try clear c22
    try clear c24
    try clear c26
    try clear c33
    try clear c34
    try clear c34b0
    try clear c34b1
    try clear hcz10_0
    try clear hcz10_1
    try clear hcz10_2
    try clear hcz10_3
    try clear hcz10_4
    try clear hcz10_5
    try clear hcz10_6
    try clear hcz10_7
    try clear hcz10_8
    try clear hcz10_9
    try clear hcz20_0
    try clear hcz20_1
    try clear hcz20_2
    try clear hcz20_3
    try clear hcz20_4
    try clear hcz20_5
    try clear hcz20_6
    try clear hcz20_7
    try clear hcz20_8
    try clear hcz20_9
    try clear hcz28_0
    try clear hcz28_1
    try clear hcz28_2
    try clear hcz28_3
    try clear hcz28_4
    try clear hcz28_5
    try clear hcz28_6
    try clear hcz28_7
    try clear hcz28_8
    try clear hcz28_9
    try clear hfz10_0
    try clear hfz10_1
    try clear hfz10_2
    try clear hfz10_3
    try clear hfz10_4
    try clear hfz10_5
    try clear hfz10_6
    try clear hfz10_7
    try clear hfz10_8
    try clear hfz10_9
    try clear hfz20_0
    try clear hfz20_1
    try clear hfz20_2
    try clear hfz20_3
    try clear hfz20_4
    try clear hfz20_5
    try clear hfz20_6
    try clear hfz20_7
    try clear hfz20_8
    try clear hfz20_9
    try clear hfz28_0
    try clear hfz28_1
    try clear hfz28_2
    try clear hfz28_3
    try clear hfz28_4
    try clear hfz28_5
    try clear hfz28_6
    try clear hfz28_7
    try clear hfz28_8
    try clear hfz28_9
    obtain⟨kq,x65_17,rfl,HA,HJ17,HO_8,HO_11,HO_12,BK320,HB⟩:=hcut
    cases kq with
    | zero=>exact absurd HA.out (by simp[laws_FnExactFollowPlan.j0])
    | succ kj17 =>
     have H:=HA.out
     clear HA
     simp only[laws_FnExactFollowPlan.j0] at H
     by_cases c41:x65_17=true
     ·subst c41
      have H1:(some false)=some r:=by rw[if_pos rfl] at H;exact H
      clear H
      have H:=H1
      clear H1
      obtain rfl:=Option.some.inj H
      go_wp2
      go_ret
      exact⟨bE,bS GE320.out⟩
     ·replace c41:=Bool.eq_false_iff.mpr c41
      subst c41
      have H1:((laws_toContactS.f kj17 l0).bind fun t360=>((laws_eqContactS.f kj17 t341 t360).bind fun t363=>(if t363=true then ((laws_markContactS.f kj17 t341 1).bind fun bt364=>(if bt364.1 < 0 then (laws_FnExactFollowPlan.j1 kj17 l0 a2 t336 t339 t340 t354 true a1_0 a1_1 a1_2 a1_3 a1_4 a1_5 a1_6 a1_7 a1_8 a1_9) else ((laws_eqIntS.f kj17 t354 t336).bind fun t366=>(if t366=true then (if t357=t339 then (laws_FnExactFollowPlan.j1 kj17 l0 a2 t336 t339 t340 t354 (t358 != t340) a1_0 a1_1 a1_2 a1_3 a1_4 a1_5 a1_6 a1_7 a1_8 a1_9) else (laws_FnExactFollowPlan.j1 kj17 l0 a2 t336 t339 t340 t354 true a1_0 a1_1 a1_2 a1_3 a1_4 a1_5 a1_6 a1_7 a1_8 a1_9)) else (laws_FnExactFollowPlan.j1 kj17 l0 a2 t336 t339 t340 t354 true a1_0 a1_1 a1_2 a1_3 a1_4 a1_5 a1_6 a1_7 a1_8 a1_9))))) else (some false))))=some r:=by rw[if_neg (show ¬ (false=true) by decide)] at H;exact H
      clear H
      have H:=H1
      clear H1
      replace H:=Option.bind_eq_some_iff.mp H
      obtain⟨t360,A420,H⟩:=H
      have A42:=Aside0.mk A420
      clear A420
      replace H:=Option.bind_eq_some_iff.mp H
      obtain⟨t363,A430,H⟩:=H
      have A43:=Aside0.mk A430
      clear A430
      by_cases c44:t363=true
      ·subst c44
       have H1:((laws_markContactS.f kj17 t341 1).bind fun bt364=>(if bt364.1 < 0 then (laws_FnExactFollowPlan.j1 kj17 l0 a2 t336 t339 t340 t354 true a1_0 a1_1 a1_2 a1_3 a1_4 a1_5 a1_6 a1_7 a1_8 a1_9) else ((laws_eqIntS.f kj17 t354 t336).bind fun t366=>(if t366=true then (if t357=t339 then (laws_FnExactFollowPlan.j1 kj17 l0 a2 t336 t339 t340 t354 (t358 != t340) a1_0 a1_1 a1_2 a1_3 a1_4 a1_5 a1_6 a1_7 a1_8 a1_9) else (laws_FnExactFollowPlan.j1 kj17 l0 a2 t336 t339 t340 t354 true a1_0 a1_1 a1_2 a1_3 a1_4 a1_5 a1_6 a1_7 a1_8 a1_9)) else (laws_FnExactFollowPlan.j1 kj17 l0 a2 t336 t339 t340 t354 true a1_0 a1_1 a1_2 a1_3 a1_4 a1_5 a1_6 a1_7 a1_8 a1_9)))))=some r:=by rw[if_pos rfl] at H;exact H
       clear H
       have H:=H1
       clear H1
       replace H:=Option.bind_eq_some_iff.mp H
       obtain⟨⟨t364,t365⟩,A450,H⟩:=H
       have A45:=Aside0.mk A450
       clear A450
       have HC46:=Aside0.mk H
       clear H
       go_upto_region 17 with (first|((with_reducible refine gate_callee (f:=24) rfl ?_);refine goesA (some 68) rfl rfl Try.func24 #[.slice A0 l0.length c0] rfl ?_;(with_reducible refine(laws_toContactS.calls kj17 _ _ l0 t360 _ ?side1 ?side2 A42.out).mono ?_);(case side1=>exact bC HR0.out);(case side2=>exact HC0.out);rintro e w47 ⟨v361,rfl,ho0,hb⟩;refine⟨_,rfl,?_⟩;have n0_:=Aside0.mk (Kd.R_below (bK HO_8.out) hb);have n1_:=Aside0.mk (Kd.R_elder' (bK HO_11.out) (Kd.R_base ho0) hb);have n2_:=Aside0.mk (Kd.R_below (bK HO_12.out) hb);have n3_:=Aside0.mk (Kd.R_lower (Kd.R_new' ho0 (Kd.R_lt (bK HO_11.out))) (below_size (bS GE320.out)));have n4_:=Aside0.mk (blk_below (g:=gb320) (o:=.cells #[.int .i64 a1_0,.int .i64 a1_1,.bool a1_2,.int .i64 a1_3,.int .i64 a1_4,.int .i64 a1_5,.int .i64 a1_6,.int .i64 a1_7,.int .i64 a1_8,.string a1_9] 82 (0,0)) (bL BK320.out) hb);have n5_:=Aside0.mk (below_step (bS GE320.out) hb);clear HO_8 HO_11 HO_12 BK320 HB;have HO_8:=n0_;have HO_11:=n1_;have HO_12:=n2_;have HO362:=n3_;have BK320:=n4_;have HB:=n5_;clear n0_ n1_ n2_ n3_ n4_ n5_;(try clear hb);(try clear hb2);(try clear hk);(try clear hi);(try clear ho0);obtain⟨Ao48,co48,eo48⟩:=Kd.R_slice HO362.out;subst eo48)|((with_reducible refine gate_callee (f:=27) rfl ?_);refine goesA (some 69) rfl rfl Try.func27 #[.slice Ao30 t341.length co30,.slice Ao48 t360.length co48] rfl ?_;(with_reducible refine(laws_eqContactS.calls kj17 _ _ t341 _ _ t360 true _ ?side1 ?side2 ?side3 ?side4 A43.out).mono ?_);(case side1=>exact bT HO_11.out);(case side2=>exact(Kd.R_reads' HO_11.out).2.1);(case side3=>exact bT HO362.out);(case side4=>exact(Kd.R_reads' HO362.out).2.1);rintro e w49 ⟨rfl,hb⟩;refine⟨_,rfl,?_⟩;have n0_:=Aside0.mk (Kd.R_below (bK HO_8.out) hb);have n1_:=Aside0.mk (Kd.R_below (bK HO_11.out) hb);have n2_:=Aside0.mk (Kd.R_below (bK HO_12.out) hb);have n3_:=Aside0.mk (Kd.R_below (bK HO362.out) hb);have n4_:=Aside0.mk (blk_below (g:=gb320) (o:=.cells #[.int .i64 a1_0,.int .i64 a1_1,.bool a1_2,.int .i64 a1_3,.int .i64 a1_4,.int .i64 a1_5,.int .i64 a1_6,.int .i64 a1_7,.int .i64 a1_8,.string a1_9] 82 (0,0)) (bL BK320.out) hb);have n5_:=Aside0.mk (below_step (bS GE320.out) hb);clear HO_8 HO_11 HO_12 HO362 BK320 HB;have HO_8:=n0_;have HO_11:=n1_;have HO_12:=n2_;have HO362:=n3_;have BK320:=n4_;have HB:=n5_;clear n0_ n1_ n2_ n3_ n4_ n5_;(try clear hb);(try clear hb2);(try clear hk);(try clear hi))|((with_reducible refine gate_callee (f:=28) rfl ?_);refine goesA (some 73) rfl rfl Try.func28 #[.slice Ao30 t341.length co30,.int .i64 1] rfl ?_;(with_reducible refine(laws_markContactS.calls kj17 (fun k_=>some k_=(.slice Ao30 t341.length co30:Value).ownBlock) (.slice Ao30 t341.length co30) t341 1 t364 t365 w _ ?side1 ?side2 A45.out).mono ?_);(case side1=>repeat (first|(with_reducible first|exact HB.out|apply below_alloc|apply pw_below_drewN|apply below_drew1|refine below_set ?_ GE320.out)|exact HB.out));(case side2=>exact Kd.R_tight rfl HO_11.out);rintro e w50 ⟨rfl,hy0,hb,hkp⟩;refine⟨_,rfl,?_⟩;have n0_:=Aside0.mk (Kd.R_mono (ok':=fun k_=>some k_≠(v355:Value).ownBlock) (Kd.R_keptB ((Kd.R_apart' HO_8.out (Kd.R_typed HO_11.out) (by decide))) hkp (fun k_ hk_ hs_=>(hk_.2) hs_)) (fun k_ hk_=>hk_.1.1));have n1_:=Aside0.mk (Kd.R_reok rfl hy0 (fun k_ e_=>HO_11.out.1 k_ e_));have n2_:=Aside0.mk (Kd.R_mono (ok':=fun k_=>some k_≠(v337:Value).ownBlock) (Kd.R_keptB ((Kd.R_apart' HO_12.out (Kd.R_typed HO_11.out) (by decide))) hkp (fun k_ hk_ hs_=>(hk_.2) hs_)) (fun k_ hk_=>hk_.1.1));have n3_:=Aside0.mk (blk_kept (bL BK320.out) hkp (fun hs_=>(fun e_=>(Kd.R_ne HO_11.out BK320.out (by decide)) e_) hs_));have n4_:=Aside0.mk (Kd.R_mono (ok':=fun k_=>some k_≠(.slice Ao30 t341.length co30:Value).ownBlock) (Kd.R_keptB (HO362.out) hkp (fun k_ hk_ hs_=>(hk_.2) hs_)) (fun k_ hk_=>hk_.1.2));have n5_:=Aside0.mk (hb);clear HO_8 HO_11 HO_12 BK320 HO362 HB;have HO_8:=n0_;have HO_11:=n1_;have HO_12:=n2_;have BK320:=n3_;have HO362:=n4_;have HB:=n5_;clear n0_ n1_ n2_ n3_ n4_ n5_;(try clear hb);(try clear hkp);(try clear hy0)))
       (try simp only[Act.put,List.setIfInBounds_toArray,List.set_cons_zero,List.set_cons_succ])
       go_cut [91] (fun v91 wc => ∃ (kq:Nat) (x91_45:Bool),v91=.bool x91_45∧Aside0 (laws_FnExactFollowPlan.j1 kq l0 a2 t336 t339 t340 t354 x91_45 a1_0 a1_1 a1_2 a1_3 a1_4 a1_5 a1_6 a1_7 a1_8 a1_9=some r)∧Aside0 (kq≤kj17)∧Aside0 (Kd.R (Kd.int .i64) 3 wc w.heap.size (fun k_=>some k_≠(v355:Value).ownBlock) v337 t336)∧Aside0 (Kd.R (Kd.int .i64) 3 wc w.heap.size (fun k_=>some k_≠(v337:Value).ownBlock) v355 t354)∧Aside0 (wc.heap[gb320]?=some (.cells #[.int .i64 a1_0,.int .i64 a1_1,.bool a1_2,.int .i64 a1_3,.int .i64 a1_4,.int .i64 a1_5,.int .i64 a1_6,.int .i64 a1_7,.int .i64 a1_8,.string a1_9] 82 (0,0)))∧Aside0 (Below w.heap.size w wc))
       case first =>
        have H:=HC46.out
        clear HC46
        by_cases c51:t364 < 0
        ·rw[if_pos c51] at H
         have c51b0:decide (t364 < 0)=true:=decide_eq_true c51
         clear c51
         (first|rw[c51b0]|(simp only[i64_w,i32_w];rw[c51b0])|skip)
         have H':=Aside0.mk H
         clear H
         go_wp2
         go_meet
         case rel=>exact⟨_,(true),(bR),H',⟨by have:=HJ17.out;first|omega|exact Nat.le_refl _⟩,⟨by(with_reducible repeat (first|apply Kd.R_alloc|apply Kd.R_drewN|apply Kd.R_drew));exact HO_8.out⟩,⟨by(with_reducible repeat (first|apply Kd.R_alloc|apply Kd.R_drewN|apply Kd.R_drew));exact HO_12.out⟩,⟨by(with_reducible repeat (first|refine blk_drewN ?_ _|refine blk_drew ?_|refine blk_alloc ?_ _));exact BK320.out⟩,⟨bS GE320.out⟩⟩
        ·rw[if_neg c51] at H
         have c51b0:decide (t364 < 0)=false:=decide_eq_false c51
         clear c51
         (first|rw[c51b0]|(simp only[i64_w,i32_w];rw[c51b0])|skip)
         replace H:=Option.bind_eq_some_iff.mp H
         obtain⟨t366,A520,H⟩:=H
         have A52:=Aside0.mk A520
         clear A520
         by_cases c53:t366=true
         ·subst c53
          have H1:(if t357=t339 then (laws_FnExactFollowPlan.j1 kj17 l0 a2 t336 t339 t340 t354 (t358 != t340) a1_0 a1_1 a1_2 a1_3 a1_4 a1_5 a1_6 a1_7 a1_8 a1_9) else (laws_FnExactFollowPlan.j1 kj17 l0 a2 t336 t339 t340 t354 true a1_0 a1_1 a1_2 a1_3 a1_4 a1_5 a1_6 a1_7 a1_8 a1_9))=some r:=by rw[if_pos rfl] at H;exact H
          clear H
          have H:=H1
          clear H1
          by_cases c54:t357=t339
          ·rw[if_pos c54] at H
           have c54b0:(t357 == t339)=true:=beq_iff_eq.mpr c54
           have c54b1:(t357 != t339)=false:=bne_eq_false_iff_eq.mpr c54
           clear c54
           have H':=Aside0.mk H
           clear H
           obtain⟨Ao55,co55,eo55⟩:=Kd.R_slice HO_12.out
           subst eo55
           obtain⟨Ao56,co56,eo56⟩:=Kd.R_slice HO_8.out
           subst eo56
           go_wp2_with (first|(go_at_call 26;(with_reducible refine(laws_eqIntS.calls kj17 _ _ t354 _ _ t336 true _ ?side1 ?side2 ?side3 ?side4 A52.out).mono ?_);(case side1=>exact bT HO_12.out);(case side2=>exact(Kd.R_reads' HO_12.out).2.1);(case side3=>exact bT HO_8.out);(case side4=>exact(Kd.R_reads' HO_8.out).2.1);rintro e w' ⟨rfl,⟨nd,rfl⟩⟩))
           go_meet
           case rel=>exact⟨_,((t358 != t340)),(bR),H',⟨by have:=HJ17.out;first|omega|exact Nat.le_refl _⟩,⟨by(with_reducible repeat (first|apply Kd.R_alloc|apply Kd.R_drewN|apply Kd.R_drew));exact HO_8.out⟩,⟨by(with_reducible repeat (first|apply Kd.R_alloc|apply Kd.R_drewN|apply Kd.R_drew));exact HO_12.out⟩,⟨by(with_reducible repeat (first|refine blk_drewN ?_ _|refine blk_drew ?_|refine blk_alloc ?_ _));exact BK320.out⟩,⟨bS GE320.out⟩⟩
          ·rw[if_neg c54] at H
           have c54b0:(t357 == t339)=false:=beq_eq_false_iff_ne.mpr c54
           have c54b1:(t357 != t339)=true:=bne_iff_ne.mpr c54
           have H':=Aside0.mk H
           clear H
           obtain⟨Ao57,co57,eo57⟩:=Kd.R_slice HO_12.out
           subst eo57
           obtain⟨Ao58,co58,eo58⟩:=Kd.R_slice HO_8.out
           subst eo58
           go_wp2_with (first|(go_at_call 26;(with_reducible refine(laws_eqIntS.calls kj17 _ _ t354 _ _ t336 true _ ?side1 ?side2 ?side3 ?side4 A52.out).mono ?_);(case side1=>exact bT HO_12.out);(case side2=>exact(Kd.R_reads' HO_12.out).2.1);(case side3=>exact bT HO_8.out);(case side4=>exact(Kd.R_reads' HO_8.out).2.1);rintro e w' ⟨rfl,⟨nd,rfl⟩⟩))
           go_meet
           case rel=>exact⟨_,(true),(bR),H',⟨by have:=HJ17.out;first|omega|exact Nat.le_refl _⟩,⟨by(with_reducible repeat (first|apply Kd.R_alloc|apply Kd.R_drewN|apply Kd.R_drew));exact HO_8.out⟩,⟨by(with_reducible repeat (first|apply Kd.R_alloc|apply Kd.R_drewN|apply Kd.R_drew));exact HO_12.out⟩,⟨by(with_reducible repeat (first|refine blk_drewN ?_ _|refine blk_drew ?_|refine blk_alloc ?_ _));exact BK320.out⟩,⟨bS GE320.out⟩⟩
         ·replace c53:=Bool.eq_false_iff.mpr c53
          subst c53
          have H1:(laws_FnExactFollowPlan.j1 kj17 l0 a2 t336 t339 t340 t354 true a1_0 a1_1 a1_2 a1_3 a1_4 a1_5 a1_6 a1_7 a1_8 a1_9)=some r:=by rw[if_neg (show ¬ (false=true) by decide)] at H;exact H
          clear H
          have H:=H1
          clear H1
          have H':=Aside0.mk H
          clear H
          obtain⟨Ao59,co59,eo59⟩:=Kd.R_slice HO_12.out
          subst eo59
          obtain⟨Ao60,co60,eo60⟩:=Kd.R_slice HO_8.out
          subst eo60
          go_wp2_with (first|(go_at_call 26;(with_reducible refine(laws_eqIntS.calls kj17 _ _ t354 _ _ t336 false _ ?side1 ?side2 ?side3 ?side4 A52.out).mono ?_);(case side1=>exact bT HO_12.out);(case side2=>exact(Kd.R_reads' HO_12.out).2.1);(case side3=>exact bT HO_8.out);(case side4=>exact(Kd.R_reads' HO_8.out).2.1);rintro e w' ⟨rfl,⟨nd,rfl⟩⟩))
          go_meet
          case rel=>exact⟨_,(true),(bR),H',⟨by have:=HJ17.out;first|omega|exact Nat.le_refl _⟩,⟨by(with_reducible repeat (first|apply Kd.R_alloc|apply Kd.R_drewN|apply Kd.R_drew));exact HO_8.out⟩,⟨by(with_reducible repeat (first|apply Kd.R_alloc|apply Kd.R_drewN|apply Kd.R_drew));exact HO_12.out⟩,⟨by(with_reducible repeat (first|refine blk_drewN ?_ _|refine blk_drew ?_|refine blk_alloc ?_ _));exact BK320.out⟩,⟨bS GE320.out⟩⟩
       case rest =>
        clear HC46
        try clear c1
        try clear c2
        try clear p2
        try clear c3
        try clear c4
        try clear c5
        try clear c5b0
        try clear c8
        try clear c8b0
        try clear c10
        try clear c22
        try clear c24
        try clear c26
        try clear c27
        try clear c28
        try clear c33
        try clear c34
        try clear c34b0
        try clear c34b1
        try clear c41
        try clear c44
        try clear c51
        try clear c51b0
        try clear c53
        try clear c54
        try clear c54b0
        try clear c54b1
        try clear c57
        try clear c58
        try clear hcz10_0
        try clear hcz10_1
        try clear hcz10_2
        try clear hcz10_3
        try clear hcz10_4
        try clear hcz10_5
        try clear hcz10_6
        try clear hcz10_7
        try clear hcz10_8
        try clear hcz10_9
        try clear hcz20_0
        try clear hcz20_1
        try clear hcz20_2
        try clear hcz20_3
        try clear hcz20_4
        try clear hcz20_5
        try clear hcz20_6
        try clear hcz20_7
        try clear hcz20_8
        try clear hcz20_9
        try clear hcz28_0
        try clear hcz28_1
        try clear hcz28_2
        try clear hcz28_3
        try clear hcz28_4
        try clear hcz28_5
        try clear hcz28_6
        try clear hcz28_7
        try clear hcz28_8
        try clear hcz28_9
        try clear hfz10_0
        try clear hfz10_1
        try clear hfz10_2
        try clear hfz10_3
        try clear hfz10_4
        try clear hfz10_5
        try clear hfz10_6
        try clear hfz10_7
        try clear hfz10_8
        try clear hfz10_9
        try clear hfz20_0
        try clear hfz20_1
        try clear hfz20_2
        try clear hfz20_3
        try clear hfz20_4
        try clear hfz20_5
        try clear hfz20_6
        try clear hfz20_7
        try clear hfz20_8
        try clear hfz20_9
        try clear hfz28_0
        try clear hfz28_1
        try clear hfz28_2
        try clear hfz28_3
        try clear hfz28_4
        try clear hfz28_5
        try clear hfz28_6
        try clear hfz28_7
        try clear hfz28_8
        try clear hfz28_9
        try clear p2
        obtain⟨kq,x91_45,rfl,HA,HJ45,HO_8,HO_12,BK320,HB⟩:=hcut
        cases kq with
        | zero=>exact absurd HA.out (by simp[laws_FnExactFollowPlan.j1])
        | succ kj45 =>
         have H:=HA.out
         clear HA
         simp only[laws_FnExactFollowPlan.j1] at H
         by_cases c61:x91_45=true
         ·subst c61
          have H1:(some false)=some r:=by rw[if_pos rfl] at H;exact H
          clear H
          have H:=H1
          clear H1
          obtain rfl:=Option.some.inj H
          go_wp2
          go_ret
          exact⟨bE,bS GE320.out⟩
         ·replace c61:=Bool.eq_false_iff.mpr c61
          subst c61
          have H1:((laws_markIntS.f kj45 t354 1).bind fun bt367=>((laws_heldIntS.f kj45 bt367.2 1).bind fun t369=>(if t369 < 0 then (some false) else (if t369=bt367.1 then ((laws_toContactS.f kj45 l0).bind fun t370=>((laws_toBundle.f a1_0 a1_1 a1_2 a1_3 a1_4 a1_5 a1_6 a1_7 a1_8 a1_9).bind fun bt373=>((impl_FollowPlan.f kj45 t370 bt373.1 bt373.2.1 bt373.2.2.1 bt373.2.2.2.1 bt373.2.2.2.2.1 bt373.2.2.2.2.2.1 bt373.2.2.2.2.2.2.1 bt373.2.2.2.2.2.2.2.1 bt373.2.2.2.2.2.2.2.2.1 bt373.2.2.2.2.2.2.2.2.2 a2).bind fun bt383=>((laws_eqIntS.f kj45 bt383.1 t336).bind fun t388=>(if t388=true then (if bt383.2.1=t339 then (laws_FnExactFollowPlan.j2 kj45 bt367.2 bt367.1 (bt383.2.2 != t340)) else (laws_FnExactFollowPlan.j2 kj45 bt367.2 bt367.1 true)) else (laws_FnExactFollowPlan.j2 kj45 bt367.2 bt367.1 true)))))) else (some false)))))=some r:=by rw[if_neg (show ¬ (false=true) by decide)] at H;exact H
          clear H
          have H:=H1
          clear H1
          replace H:=Option.bind_eq_some_iff.mp H
          obtain⟨⟨t367,t368⟩,A620,H⟩:=H
          have A62:=Aside0.mk A620
          clear A620
          replace H:=Option.bind_eq_some_iff.mp H
          obtain⟨t369,A630,H⟩:=H
          have A63:=Aside0.mk A630
          clear A630
          by_cases c64:t369 < 0
          ·rw[if_pos c64] at H
           have c64b0:decide (t369 < 0)=true:=decide_eq_true c64
           clear c64
           obtain rfl:=Option.some.inj H
           obtain⟨Ao65,co65,eo65⟩:=Kd.R_slice HO_12.out
           subst eo65
           go_wp2_with (first|((with_reducible refine gate_callee (f:=29) rfl ?_);refine goesA (some 94) rfl rfl Try.func29 #[.slice Ao65 t354.length co65,.int .i64 1] rfl ?_;(with_reducible refine(laws_markIntS.calls kj45 (fun k_=>some k_=(.slice Ao65 t354.length co65:Value).ownBlock) (.slice Ao65 t354.length co65) t354 1 t367 t368 w _ ?side1 ?side2 A62.out).mono ?_);(case side1=>repeat (first|(with_reducible first|exact HB.out|apply below_alloc|apply pw_below_drewN|apply below_drew1|refine below_set ?_ GE320.out)|exact HB.out));(case side2=>exact Kd.R_tight rfl HO_12.out);rintro e w66 ⟨rfl,hy0,hb,hkp⟩;refine⟨_,rfl,?_⟩;have n0_:=Aside0.mk (Kd.R_mono (ok':=fun k_=>some k_≠(.slice Ao65 t354.length co65:Value).ownBlock) (Kd.R_keptB (HO_8.out) hkp (fun k_ hk_ hs_=>(hk_) hs_)) (fun k_ hk_=>hk_.1));have n1_:=Aside0.mk (Kd.R_reok rfl hy0 (fun k_ e_=>HO_12.out.1 k_ e_));have n2_:=Aside0.mk (blk_kept (bL BK320.out) hkp (fun hs_=>(fun e_=>(Kd.R_ne HO_12.out BK320.out (by decide)) e_) hs_));have n3_:=Aside0.mk (hb);clear HO_8 HO_12 BK320 HB;have HO_8:=n0_;have HO_12:=n1_;have BK320:=n2_;have HB:=n3_;clear n0_ n1_ n2_ n3_;(try clear hb);(try clear hkp);(try clear hy0))|((with_reducible refine gate_callee (f:=30) rfl ?_);refine goesL_ (some 97) rfl rfl Try.func30 (by kernel_rfl) rfl #[.slice Ao65 t368.length co65,.int .i64 1] rfl (by(try simp only[List.map_toArray,List.map_cons,List.map_nil]);first|done|(rw[show t368.length=t354.length from (Kd.R_reads' HO_12.out).1.symm]<;>rfl)|rfl|(simp only[List.length_drop,List.length_take];rfl)) ?_;(with_reducible refine(laws_heldIntS.calls kj45 _ _ t368 1 t369 _ ?side1 ?side2 A63.out).mono ?_);(case side1=>exact bT HO_12.out);(case side2=>rw[show t368.length=t354.length from (Kd.R_reads' HO_12.out).1.symm];exact(Kd.R_reads' HO_12.out).2.1);rintro e w' ⟨rfl,⟨nd,rfl⟩⟩;refine⟨_,rfl,?_⟩))
           go_ret
           exact⟨bE,bS GE320.out⟩
          ·rw[if_neg c64] at H
           have c64b0:decide (t369 < 0)=false:=decide_eq_false c64
           clear c64
           by_cases c67:t369=t367
           ·rw[if_pos c67] at H
            have c67b0:(t369 == t367)=true:=beq_iff_eq.mpr c67
            have c67b1:(t369 != t367)=false:=bne_eq_false_iff_eq.mpr c67
            clear c67
            replace H:=Option.bind_eq_some_iff.mp H
            obtain⟨t370,A680,H⟩:=H
            have A68:=Aside0.mk A680
            clear A680
            replace H:=Option.bind_eq_some_iff.mp H
            obtain⟨⟨t373,t374,t375,t376,t377,t378,t379,t380,t381,t382⟩,A690,H⟩:=H
            have A69:=Aside0.mk A690
            clear A690
            replace H:=Option.bind_eq_some_iff.mp H
            obtain⟨⟨t383,t386,t387⟩,A700,H⟩:=H
            have A70:=Aside0.mk A700
            clear A700
            have HC71:=Aside0.mk H
            clear H
            obtain⟨Ao72,co72,eo72⟩:=Kd.R_slice HO_12.out
            subst eo72
            try go_wp2_with (first|((with_reducible refine gate_callee (f:=29) rfl ?_);refine goesA (some 94) rfl rfl Try.func29 #[.slice Ao72 t354.length co72,.int .i64 1] rfl ?_;(with_reducible refine(laws_markIntS.calls kj45 (fun k_=>some k_=(.slice Ao72 t354.length co72:Value).ownBlock) (.slice Ao72 t354.length co72) t354 1 t367 t368 w _ ?side1 ?side2 A62.out).mono ?_);(case side1=>repeat (first|(with_reducible first|exact HB.out|apply below_alloc|apply pw_below_drewN|apply below_drew1|refine below_set ?_ GE320.out)|exact HB.out));(case side2=>exact Kd.R_tight rfl HO_12.out);rintro e w73 ⟨rfl,hy0,hb,hkp⟩;refine⟨_,rfl,?_⟩;have n0_:=Aside0.mk (Kd.R_mono (ok':=fun k_=>some k_≠(.slice Ao72 t354.length co72:Value).ownBlock) (Kd.R_keptB (HO_8.out) hkp (fun k_ hk_ hs_=>(hk_) hs_)) (fun k_ hk_=>hk_.1));have n1_:=Aside0.mk (Kd.R_reok rfl hy0 (fun k_ e_=>HO_12.out.1 k_ e_));have n2_:=Aside0.mk (blk_kept (bL BK320.out) hkp (fun hs_=>(fun e_=>(Kd.R_ne HO_12.out BK320.out (by decide)) e_) hs_));have n3_:=Aside0.mk (hb);clear HO_8 HO_12 BK320 HB;have HO_8:=n0_;have HO_12:=n1_;have BK320:=n2_;have HB:=n3_;clear n0_ n1_ n2_ n3_;(try clear hb);(try clear hkp);(try clear hy0))|((with_reducible refine gate_callee (f:=30) rfl ?_);refine goesL_ (some 97) rfl rfl Try.func30 (by kernel_rfl) rfl #[.slice Ao72 t368.length co72,.int .i64 1] rfl (by(try simp only[List.map_toArray,List.map_cons,List.map_nil]);first|done|(rw[show t368.length=t354.length from (Kd.R_reads' HO_12.out).1.symm]<;>rfl)|rfl|(simp only[List.length_drop,List.length_take];rfl)) ?_;(with_reducible refine(laws_heldIntS.calls kj45 _ _ t368 1 t369 _ ?side1 ?side2 A63.out).mono ?_);(case side1=>exact bT HO_12.out);(case side2=>rw[show t368.length=t354.length from (Kd.R_reads' HO_12.out).1.symm];exact(Kd.R_reads' HO_12.out).2.1);rintro e w' ⟨rfl,⟨nd,rfl⟩⟩;refine⟨_,rfl,?_⟩))
            (try (rw[drewN_self w73];generalize hq_:World.drewN w73 _=w73;have n0_:Aside0 (Kd.R (Kd.int .i64) 3 w73 w.heap.size (fun k_=>some k_≠(v337:Value).ownBlock) (.slice Ao72 t354.length co72) t368):=⟨by rw[← hq_];exact(bK HO_12.out)⟩;have n1_:Aside0 (Kd.R (Kd.int .i64) 3 w73 w.heap.size (fun k_=>some k_≠(.slice Ao72 t354.length co72:Value).ownBlock) v337 t336):=⟨by rw[← hq_];exact(bK HO_8.out)⟩;have n2_:Aside0 (w73.heap[gb320]?=some (.cells #[.int .i64 a1_0,.int .i64 a1_1,.bool a1_2,.int .i64 a1_3,.int .i64 a1_4,.int .i64 a1_5,.int .i64 a1_6,.int .i64 a1_7,.int .i64 a1_8,.string a1_9] 82 (0,0))):=⟨by rw[← hq_];exact(bL BK320.out)⟩;have n3_:Aside0 (Below w.heap.size w w73):=⟨by rw[← hq_];exact(bS GE320.out)⟩;clear HO_12 HO_8 BK320 HB hq_;have HO_12:=n0_;have HO_8:=n1_;have BK320:=n2_;have HB:=n3_;clear n0_ n1_ n2_ n3_))
            have n0_:=Aside0.mk (Kd.R_drew HO_8.out)
            have n1_:=Aside0.mk (Kd.R_drew HO_12.out)
            have n2_:=Aside0.mk (blk_drew BK320.out)
            have n3_:=Aside0.mk (below_drew1 HB.out)
            clear HO_8 HO_12 BK320 HB
            have HO_8:=n0_
            have HO_12:=n1_
            have BK320:=n2_
            have HB:=n3_
            clear n0_ n1_ n2_ n3_
            refine start_ (n:=13) (S:=fun w'=>w'.cell? ⟨gb320,0,none⟩=some (.int .i64 a1_0)∧w'.cell? ⟨gb320,1,none⟩=some (.int .i64 a1_1)∧w'.cell? ⟨gb320,2,none⟩=some (.bool a1_2)∧w'.cell? ⟨gb320,3,none⟩=some (.int .i64 a1_3)∧w'.cell? ⟨gb320,4,none⟩=some (.int .i64 a1_4)∧w'.cell? ⟨gb320,5,none⟩=some (.int .i64 a1_5)∧w'.cell? ⟨gb320,6,none⟩=some (.int .i64 a1_6)∧w'.cell? ⟨gb320,7,none⟩=some (.int .i64 a1_7)∧w'.cell? ⟨gb320,8,none⟩=some (.int .i64 a1_8)∧w'.cell? ⟨gb320,9,none⟩=some (.string a1_9)) (ds:=[]) #[false,false,false,false,false,false,false,false,false,false,false,false,false] (by kernel_rfl) rfl rfl ⟨(blk_cell BK320.out 0).trans rfl,(blk_cell BK320.out 1).trans rfl,(blk_cell BK320.out 2).trans rfl,(blk_cell BK320.out 3).trans rfl,(blk_cell BK320.out 4).trans rfl,(blk_cell BK320.out 5).trans rfl,(blk_cell BK320.out 6).trans rfl,(blk_cell BK320.out 7).trans rfl,(blk_cell BK320.out 8).trans rfl,(blk_cell BK320.out 9).trans rfl⟩ (fun hHeld => ?_);refine with_tabW laws_FnExactFollowPlan.tab27 laws_FnExactFollowPlan.bits27 (fun HT_ HW_ => ?_)
            generalize w73.drew=w74 at HO_8 HO_12 BK320 HB hHeld ⊢
            refine pure_ (i:=0) (N:=some 104) (v:=?_) (a':=?_) #[true,false,false,false,false,false,false,false,false,false,false,false,false] rfl rfl (any_of HT_.out (by kernel_rfl)) (fun _ _ _ h=>h) (Or.inl ⟨by rfl,?_⟩) ?_ ?_
            rotate_left
            ·intro w'
             go_simp
             with_reducible rfl
            rotate_left
            ·simp only[Act.put,List.setIfInBounds_toArray,List.set_cons_zero,List.set_cons_succ,i64_w,i32_w]
             rfl
            refine pure_ (i:=4) (N:=some 108) (v:=?_) (a':=?_) #[true,false,false,false,true,false,false,false,false,false,false,false,false] rfl rfl (any_of HT_.out (by kernel_rfl)) (fun _ _ _ h=>h) (Or.inl ⟨by rfl,?_⟩) ?_ ?_
            rotate_left
            ·intro w'
             go_simp
             with_reducible rfl
            rotate_left
            ·simp only[Act.put,List.setIfInBounds_toArray,List.set_cons_zero,List.set_cons_succ,i64_w,i32_w]
             rfl
            refine take_ (i:=2) (N:=some 106) (v:=?_) (a':=?_) #[true,false,true,false,true,false,false,false,false,false,false,false,false] rfl rfl (take_ofW HT_.out HW_.out (by kernel_rfl)) (fun _ _ _ h=>h) (Or.inl ⟨by rfl,?_⟩) hHeld ?_ ?_
            rotate_left
            ·rintro w' ⟨s0,s1,s2,s3,s4,s5,s6,s7,s8,s9⟩
             go_simp
             with_reducible rfl
            rotate_left
            ·simp only[Act.put,List.setIfInBounds_toArray,List.set_cons_zero,List.set_cons_succ,i64_w,i32_w]
             rfl
            refine one_ (i:=1) (N:=some 105) #[true,true,true,false,true,false,false,false,false,false,false,false,false] rfl rfl (one_of HT_.out (by kernel_rfl)) (by decide) (fun K hK => ?_)
            refine goes_ Try.func24 (by kernel_rfl) rfl #[.slice A0 l0.length c0] (by rfl) rfl rfl (by(try simp only[List.map_toArray,List.map_cons,List.map_nil]);first|done|rfl|(simp only[List.length_drop,List.length_take];rfl)) ?_
            with_reducible refine(laws_toContactS.calls kj45 _ _ l0 t370 _ ?side1 ?side2 A68.out).mono ?_
            (case side1=>exact bC HR0.out)
            (case side2=>exact HC0.out)
            rintro e w75 ⟨v371,rfl,ho0,hb⟩
            refine⟨_,rfl,?_⟩
            have n0_:=Aside0.mk (Kd.R_below (bK HO_8.out) hb)
            have n1_:=Aside0.mk (Kd.R_below (bK HO_12.out) hb)
            have n2_:=Aside0.mk (Kd.R_lower ho0 (below_size (bS GE320.out)))
            have n3_:=Aside0.mk (blk_below (g:=gb320) (o:=.cells #[.int .i64 a1_0,.int .i64 a1_1,.bool a1_2,.int .i64 a1_3,.int .i64 a1_4,.int .i64 a1_5,.int .i64 a1_6,.int .i64 a1_7,.int .i64 a1_8,.string a1_9] 82 (0,0)) (bL BK320.out) hb)
            have n4_:=Aside0.mk (below_step (bS GE320.out) hb)
            clear HO_8 HO_12 BK320 HB
            have HO_8:=n0_
            have HO_12:=n1_
            have HO372:=n2_
            have BK320:=n3_
            have HB:=n4_
            clear n0_ n1_ n2_ n3_ n4_
            (try clear hb)
            (try clear hb2)
            (try clear hk)
            (try clear hi)
            (try clear ho0)
            refine hK.out _ _ ⟨(blk_cell BK320.out 0).trans rfl,(blk_cell BK320.out 1).trans rfl,(blk_cell BK320.out 2).trans rfl,(blk_cell BK320.out 3).trans rfl,(blk_cell BK320.out 4).trans rfl,(blk_cell BK320.out 5).trans rfl,(blk_cell BK320.out 6).trans rfl,(blk_cell BK320.out 7).trans rfl,(blk_cell BK320.out 8).trans rfl,(blk_cell BK320.out 9).trans rfl⟩ (fun hHeld => ?_)
            clear hK K
            refine norm_ (a':=?_) ?_ ?_
            rotate_left
            ·show Act.put _ (some 105) _=_
             simp only[Act.put,List.setIfInBounds_toArray,List.set_cons_zero,List.set_cons_succ,i64_w,i32_w]
             rfl
            refine one_ (i:=3) (N:=some 107) #[true,true,true,true,true,false,false,false,false,false,false,false,false] rfl rfl (one_of HT_.out (by kernel_rfl)) (by decide) (fun K hK => ?_)
            refine goes_ Try.func53 (by kernel_rfl) rfl #[.agg #[.int .i64 a1_0,.int .i64 a1_1,.bool a1_2,.int .i64 a1_3,.int .i64 a1_4,.int .i64 a1_5,.int .i64 a1_6,.int .i64 a1_7,.int .i64 a1_8,.string a1_9]] (by rfl) rfl rfl (by(try simp only[List.map_toArray,List.map_cons,List.map_nil]);first|done|rfl|(simp only[List.length_drop,List.length_take];rfl)) ?_
            with_reducible refine(laws_toBundle.calls a1_0 a1_1 a1_2 a1_3 a1_4 a1_5 a1_6 a1_7 a1_8 a1_9 t373 t374 t375 t376 t377 t378 t379 t380 t381 t382 _ A69.out).mono ?_
            rintro e w76 ⟨rfl,hb⟩
            refine⟨_,rfl,?_⟩
            have n0_:=Aside0.mk (Kd.R_below (bK HO_8.out) hb)
            have n1_:=Aside0.mk (Kd.R_below (bK HO_12.out) hb)
            have n2_:=Aside0.mk (Kd.R_below (bK HO372.out) hb)
            have n3_:=Aside0.mk (blk_below (g:=gb320) (o:=.cells #[.int .i64 a1_0,.int .i64 a1_1,.bool a1_2,.int .i64 a1_3,.int .i64 a1_4,.int .i64 a1_5,.int .i64 a1_6,.int .i64 a1_7,.int .i64 a1_8,.string a1_9] 82 (0,0)) (bL BK320.out) hb)
            have n4_:=Aside0.mk (below_step (bS GE320.out) hb)
            clear HO_8 HO_12 HO372 BK320 HB
            have HO_8:=n0_
            have HO_12:=n1_
            have HO372:=n2_
            have BK320:=n3_
            have HB:=n4_
            clear n0_ n1_ n2_ n3_ n4_
            (try clear hb)
            (try clear hb2)
            (try clear hk)
            (try clear hi)
            obtain⟨Ao77,co77,eo77⟩:=Kd.R_slice HO372.out
            (first|subst eo77|(injection eo77 with f1_ f2_ f3_;have f4_:=f1_.symm;have f5_:=f3_.symm;clear f1_ f2_ f3_;subst f4_;subst f5_))
            refine hK.out _ _ ⟨(blk_cell BK320.out 0).trans rfl,(blk_cell BK320.out 1).trans rfl,(blk_cell BK320.out 2).trans rfl,(blk_cell BK320.out 3).trans rfl,(blk_cell BK320.out 4).trans rfl,(blk_cell BK320.out 5).trans rfl,(blk_cell BK320.out 6).trans rfl,(blk_cell BK320.out 7).trans rfl,(blk_cell BK320.out 8).trans rfl,(blk_cell BK320.out 9).trans rfl⟩ (fun hHeld => ?_)
            clear hK K
            refine norm_ (a':=?_) ?_ ?_
            rotate_left
            ·show Act.put _ (some 107) _=_
             simp only[Act.put,List.setIfInBounds_toArray,List.set_cons_zero,List.set_cons_succ,i64_w,i32_w]
             rfl
            refine one_ (i:=5) (N:=some 109) #[true,true,true,true,true,true,false,false,false,false,false,false,false] rfl rfl (one_of HT_.out (by kernel_rfl)) (by decide) (fun K hK => ?_)
            refine goes_ Try.func58 (by kernel_rfl) rfl #[.slice Ao77 t370.length co77,.agg #[.int .i64 t373,.int .i64 t374,.bool t375,.int .i64 t376,.int .i64 t377,.int .i64 t378,.int .i64 t379,.int .i64 t380,.int .i64 t381,.string t382],.int .i64 a2] (by rfl) rfl rfl (by(try simp only[List.map_toArray,List.map_cons,List.map_nil]);first|done|rfl|(simp only[List.length_drop,List.length_take];rfl)) ?_
            with_reducible refine(impl_FollowPlan.calls kj45 _ _ t370 t373 t374 t375 t376 t377 t378 t379 t380 t381 t382 a2 t383 t386 t387 _ ?side1 ?side2 A70.out).mono ?_
            (case side1=>exact bT HO372.out)
            (case side2=>exact(Kd.R_reads' HO372.out).2.1)
            rintro e w78 ⟨v384,rfl,ho0,hb⟩
            refine⟨_,rfl,?_⟩
            have n0_:=Aside0.mk (Kd.R_elder' (bK HO_8.out) (Kd.R_base ho0) hb)
            have n1_:=Aside0.mk (Kd.R_elder' (bK HO_12.out) (Kd.R_base ho0) hb)
            have n2_:=Aside0.mk (Kd.R_below (bK HO372.out) hb)
            have n3_:=Aside0.mk (Kd.R_lower (Kd.R_new' (Kd.R_new' ho0 (Kd.R_lt (bK HO_8.out))) (Kd.R_lt (bK HO_12.out))) (below_size (bS GE320.out)))
            have n4_:=Aside0.mk (blk_below (g:=gb320) (o:=.cells #[.int .i64 a1_0,.int .i64 a1_1,.bool a1_2,.int .i64 a1_3,.int .i64 a1_4,.int .i64 a1_5,.int .i64 a1_6,.int .i64 a1_7,.int .i64 a1_8,.string a1_9] 82 (0,0)) (bL BK320.out) hb)
            have n5_:=Aside0.mk (below_step (bS GE320.out) hb)
            clear HO_8 HO_12 HO372 BK320 HB
            have HO_8:=n0_
            have HO_12:=n1_
            have HO372:=n2_
            have HO385:=n3_
            have BK320:=n4_
            have HB:=n5_
            clear n0_ n1_ n2_ n3_ n4_ n5_
            (try clear hb)
            (try clear hb2)
            (try clear hk)
            (try clear hi)
            (try clear ho0)
            refine hK.out _ _ ⟨(blk_cell BK320.out 0).trans rfl,(blk_cell BK320.out 1).trans rfl,(blk_cell BK320.out 2).trans rfl,(blk_cell BK320.out 3).trans rfl,(blk_cell BK320.out 4).trans rfl,(blk_cell BK320.out 5).trans rfl,(blk_cell BK320.out 6).trans rfl,(blk_cell BK320.out 7).trans rfl,(blk_cell BK320.out 8).trans rfl,(blk_cell BK320.out 9).trans rfl⟩ (fun hHeld => ?_)
            clear hK K
            refine norm_ (a':=?_) ?_ ?_
            rotate_left
            ·show Act.put _ (some 109) _=_
             simp only[Act.put,List.setIfInBounds_toArray,List.set_cons_zero,List.set_cons_succ,i64_w,i32_w]
             rfl
            refine pure_ (i:=6) (N:=some 103) (v:=?_) (a':=?_) #[true,true,true,true,true,true,true,false,false,false,false,false,false] rfl rfl (any_of HT_.out (by kernel_rfl)) (fun _ _ _ h=>h) (Or.inl ⟨by rfl,?_⟩) ?_ ?_
            rotate_left
            ·intro w'
             go_simp
             with_reducible rfl
            rotate_left
            ·simp only[Act.put,List.setIfInBounds_toArray,List.set_cons_zero,List.set_cons_succ,i64_w,i32_w]
             rfl
            refine pure_ (i:=7) (N:=some 110) (v:=?_) (a':=?_) #[true,true,true,true,true,true,true,true,false,false,false,false,false] rfl rfl (any_of HT_.out (by kernel_rfl)) (fun _ _ _ h=>h) (Or.inl ⟨by rfl,?_⟩) ?_ ?_
            rotate_left
            ·intro w'
             go_simp
             with_reducible rfl
            rotate_left
            ·simp only[Act.put,List.setIfInBounds_toArray,List.set_cons_zero,List.set_cons_succ,i64_w,i32_w]
             rfl
            refine pure_ (i:=8) (N:=some 111) (v:=?_) (a':=?_) #[true,true,true,true,true,true,true,true,true,false,false,false,false] rfl rfl (any_of HT_.out (by kernel_rfl)) (fun _ _ _ h=>h) (Or.inl ⟨by rfl,?_⟩) ?_ ?_
            rotate_left
            ·intro w'
             go_simp
             with_reducible rfl
            rotate_left
            ·simp only[Act.put,List.setIfInBounds_toArray,List.set_cons_zero,List.set_cons_succ,i64_w,i32_w]
             rfl
            refine pure_ (i:=9) (N:=some 112) (v:=?_) (a':=?_) #[true,true,true,true,true,true,true,true,true,true,false,false,false] rfl rfl (any_of HT_.out (by kernel_rfl)) (fun _ _ _ h=>h) (Or.inl ⟨by rfl,?_⟩) ?_ ?_
            rotate_left
            ·intro w'
             go_simp
             with_reducible rfl
            rotate_left
            ·simp only[Act.put,List.setIfInBounds_toArray,List.set_cons_zero,List.set_cons_succ,i64_w,i32_w]
             rfl
            refine pure_ (i:=10) (N:=some 18) (v:=?_) (a':=?_) #[true,true,true,true,true,true,true,true,true,true,true,false,false] rfl rfl (any_of HT_.out (by kernel_rfl)) (fun _ _ _ h=>h) (Or.inl ⟨by rfl,?_⟩) ?_ ?_
            rotate_left
            ·intro w'
             go_simp
             with_reducible rfl
            rotate_left
            ·simp only[Act.put,List.setIfInBounds_toArray,List.set_cons_zero,List.set_cons_succ,i64_w,i32_w]
             rfl
            refine pure_ (i:=11) (N:=some 19) (v:=?_) (a':=?_) #[true,true,true,true,true,true,true,true,true,true,true,true,false] rfl rfl (any_of HT_.out (by kernel_rfl)) (fun _ _ _ h=>h) (Or.inl ⟨by rfl,?_⟩) ?_ ?_
            rotate_left
            ·intro w'
             go_simp
             with_reducible rfl
            rotate_left
            ·simp only[Act.put,List.setIfInBounds_toArray,List.set_cons_zero,List.set_cons_succ,i64_w,i32_w]
             rfl
            refine pure_ (i:=12) (N:=some 20) (v:=?_) (a':=?_) #[true,true,true,true,true,true,true,true,true,true,true,true,true] rfl rfl (any_of HT_.out (by kernel_rfl)) (fun _ _ _ h=>h) (Or.inl ⟨by rfl,?_⟩) ?_ ?_
            rotate_left
            ·intro w'
             go_simp
             with_reducible rfl
            rotate_left
            ·simp only[Act.put,List.setIfInBounds_toArray,List.set_cons_zero,List.set_cons_succ,i64_w,i32_w]
             rfl
            refine done_ (done_of HT_.out (by kernel_rfl)) ?_
            go_upto_region 28 with (fail)
            go_cut [126] (fun v126 wc => ∃ (kq:Nat) (x126_70:Bool),v126=.bool x126_70∧Aside0 (laws_FnExactFollowPlan.j2 kq t368 t367 x126_70=some r)∧Aside0 (kq≤kj45)∧Aside0 (Kd.R (Kd.int .i64) 3 wc w.heap.size (fun _=>True) (.slice Ao72 t354.length co72) t368)∧Aside0 (wc.heap[gb320]?=some (.cells #[.int .i64 a1_0,.int .i64 a1_1,.bool a1_2,.int .i64 a1_3,.int .i64 a1_4,.int .i64 a1_5,.int .i64 a1_6,.int .i64 a1_7,.int .i64 a1_8,.string a1_9] 82 (0,0)))∧Aside0 (Below w.heap.size w wc))
            case first =>
             have H:=HC71.out
             clear HC71
             replace H:=Option.bind_eq_some_iff.mp H
             obtain⟨t388,A790,H⟩:=H
             have A79:=Aside0.mk A790
             clear A790
             by_cases c80:t388=true
             ·subst c80
              have H1:(if t386=t339 then (laws_FnExactFollowPlan.j2 kj45 t368 t367 (t387 != t340)) else (laws_FnExactFollowPlan.j2 kj45 t368 t367 true))=some r:=by rw[if_pos rfl] at H;exact H
              clear H
              have H:=H1
              clear H1
              by_cases c81:t386=t339
              ·rw[if_pos c81] at H
               have c81b0:(t386 == t339)=true:=beq_iff_eq.mpr c81
               have c81b1:(t386 != t339)=false:=bne_eq_false_iff_eq.mpr c81
               clear c81
               (first|rw[c81b0]|(simp only[i64_w,i32_w];rw[c81b0])|skip)
               have H':=Aside0.mk H
               clear H
               obtain⟨Ao82,co82,eo82⟩:=Kd.R_slice HO385.out
               subst eo82
               obtain⟨Ao83,co83,eo83⟩:=Kd.R_slice HO_8.out
               subst eo83
               go_wp2_with (first|((with_reducible refine gate_callee (f:=26) rfl ?_);refine goesA (some 115) rfl rfl Try.func26 #[.slice Ao82 t383.length co82,.slice Ao83 t336.length co83] rfl ?_;(with_reducible refine(laws_eqIntS.calls kj45 _ _ t383 _ _ t336 true _ ?side1 ?side2 ?side3 ?side4 A79.out).mono ?_);(case side1=>exact bT HO385.out);(case side2=>exact(Kd.R_reads' HO385.out).2.1);(case side3=>exact bT HO_8.out);(case side4=>exact(Kd.R_reads' HO_8.out).2.1);rintro e w' ⟨rfl,⟨nd,rfl⟩⟩;refine⟨_,rfl,?_⟩))
               go_meet
               case rel=>exact⟨_,((t387 != t340)),(bR),H',⟨by have:=HJ17.out;have:=HJ45.out;first|omega|exact Nat.le_refl _⟩,⟨by(with_reducible repeat (first|apply Kd.R_alloc|apply Kd.R_drewN|apply Kd.R_drew));exact Kd.R_mono HO_12.out (fun _ hk=>trivial)⟩,⟨by(with_reducible repeat (first|refine blk_drewN ?_ _|refine blk_drew ?_|refine blk_alloc ?_ _));exact BK320.out⟩,⟨bS GE320.out⟩⟩
              ·rw[if_neg c81] at H
               have c81b0:(t386 == t339)=false:=beq_eq_false_iff_ne.mpr c81
               have c81b1:(t386 != t339)=true:=bne_iff_ne.mpr c81
               (first|rw[c81b0]|(simp only[i64_w,i32_w];rw[c81b0])|skip)
               have H':=Aside0.mk H
               clear H
               obtain⟨Ao84,co84,eo84⟩:=Kd.R_slice HO385.out
               subst eo84
               obtain⟨Ao85,co85,eo85⟩:=Kd.R_slice HO_8.out
               subst eo85
               go_wp2_with (first|((with_reducible refine gate_callee (f:=26) rfl ?_);refine goesA (some 115) rfl rfl Try.func26 #[.slice Ao84 t383.length co84,.slice Ao85 t336.length co85] rfl ?_;(with_reducible refine(laws_eqIntS.calls kj45 _ _ t383 _ _ t336 true _ ?side1 ?side2 ?side3 ?side4 A79.out).mono ?_);(case side1=>exact bT HO385.out);(case side2=>exact(Kd.R_reads' HO385.out).2.1);(case side3=>exact bT HO_8.out);(case side4=>exact(Kd.R_reads' HO_8.out).2.1);rintro e w' ⟨rfl,⟨nd,rfl⟩⟩;refine⟨_,rfl,?_⟩))
               go_meet
               case rel=>exact⟨_,(true),(bR),H',⟨by have:=HJ17.out;have:=HJ45.out;first|omega|exact Nat.le_refl _⟩,⟨by(with_reducible repeat (first|apply Kd.R_alloc|apply Kd.R_drewN|apply Kd.R_drew));exact Kd.R_mono HO_12.out (fun _ hk=>trivial)⟩,⟨by(with_reducible repeat (first|refine blk_drewN ?_ _|refine blk_drew ?_|refine blk_alloc ?_ _));exact BK320.out⟩,⟨bS GE320.out⟩⟩
             ·replace c80:=Bool.eq_false_iff.mpr c80
              subst c80
              have H1:(laws_FnExactFollowPlan.j2 kj45 t368 t367 true)=some r:=by rw[if_neg (show ¬ (false=true) by decide)] at H;exact H
              clear H
              have H:=H1
              clear H1
              have H':=Aside0.mk H
              clear H
              obtain⟨Ao86,co86,eo86⟩:=Kd.R_slice HO385.out
              subst eo86
              obtain⟨Ao87,co87,eo87⟩:=Kd.R_slice HO_8.out
              subst eo87
              go_wp2_with (first|((with_reducible refine gate_callee (f:=26) rfl ?_);refine goesA (some 115) rfl rfl Try.func26 #[.slice Ao86 t383.length co86,.slice Ao87 t336.length co87] rfl ?_;(with_reducible refine(laws_eqIntS.calls kj45 _ _ t383 _ _ t336 false _ ?side1 ?side2 ?side3 ?side4 A79.out).mono ?_);(case side1=>exact bT HO385.out);(case side2=>exact(Kd.R_reads' HO385.out).2.1);(case side3=>exact bT HO_8.out);(case side4=>exact(Kd.R_reads' HO_8.out).2.1);rintro e w' ⟨rfl,⟨nd,rfl⟩⟩;refine⟨_,rfl,?_⟩))
              go_meet
              case rel=>exact⟨_,(true),(bR),H',⟨by have:=HJ17.out;have:=HJ45.out;first|omega|exact Nat.le_refl _⟩,⟨by(with_reducible repeat (first|apply Kd.R_alloc|apply Kd.R_drewN|apply Kd.R_drew));exact Kd.R_mono HO_12.out (fun _ hk=>trivial)⟩,⟨by(with_reducible repeat (first|refine blk_drewN ?_ _|refine blk_drew ?_|refine blk_alloc ?_ _));exact BK320.out⟩,⟨bS GE320.out⟩⟩
            case rest =>
             clear HC71
             try clear c1
             try clear c2
             try clear p2
             try clear c3
             try clear c4
             try clear c5
             try clear c5b0
             try clear c6
             try clear c8
             try clear c8b0
             try clear c10
             try clear c22
             try clear c24
             try clear c26
             try clear c27
             try clear c28
             try clear c29
             try clear c30
             try clear c33
             try clear c34
             try clear c34b0
             try clear c34b1
             try clear c41
             try clear c44
             try clear c51
             try clear c51b0
             try clear c53
             try clear c54
             try clear c54b0
             try clear c54b1
             try clear c57
             try clear c58
             try clear c61
             try clear c64
             try clear c64b0
             try clear c67
             try clear c67b0
             try clear c67b1
             try clear c80
             try clear c81
             try clear c81b0
             try clear c81b1
             try clear hcz10_0
             try clear hcz10_1
             try clear hcz10_2
             try clear hcz10_3
             try clear hcz10_4
             try clear hcz10_5
             try clear hcz10_6
             try clear hcz10_7
             try clear hcz10_8
             try clear hcz10_9
             try clear hcz20_0
             try clear hcz20_1
             try clear hcz20_2
             try clear hcz20_3
             try clear hcz20_4
             try clear hcz20_5
             try clear hcz20_6
             try clear hcz20_7
             try clear hcz20_8
             try clear hcz20_9
             try clear hcz28_0
             try clear hcz28_1
             try clear hcz28_2
             try clear hcz28_3
             try clear hcz28_4
             try clear hcz28_5
             try clear hcz28_6
             try clear hcz28_7
             try clear hcz28_8
             try clear hcz28_9
             try clear hfz10_0
             try clear hfz10_1
             try clear hfz10_2
             try clear hfz10_3
             try clear hfz10_4
             try clear hfz10_5
             try clear hfz10_6
             try clear hfz10_7
             try clear hfz10_8
             try clear hfz10_9
             try clear hfz20_0
             try clear hfz20_1
             try clear hfz20_2
             try clear hfz20_3
             try clear hfz20_4
             try clear hfz20_5
             try clear hfz20_6
             try clear hfz20_7
             try clear hfz20_8
             try clear hfz20_9
             try clear hfz28_0
             try clear hfz28_1
             try clear hfz28_2
             try clear hfz28_3
             try clear hfz28_4
             try clear hfz28_5
             try clear hfz28_6
             try clear hfz28_7
             try clear hfz28_8
             try clear hfz28_9
             try clear p2
             obtain⟨kq,x126_70,rfl,HA,HJ70,HO_12,BK320,HB⟩:=hcut
             have hl12_70:=(Kd.R_reads' HO_12.out).1
             rw[hl12_70] at HO_12
             (try simp only[hl12_70])
             (try simp only[hl12_70] at BK320)
             cases kq with
             | zero=>exact absurd HA.out (by simp[laws_FnExactFollowPlan.j2])
             | succ kj70 =>
              have H:=HA.out
              clear HA
              simp only[laws_FnExactFollowPlan.j2] at H
              by_cases c88:x126_70=true
              ·subst c88
               have H1:(some false)=some r:=by rw[if_pos rfl] at H;exact H
               clear H
               have H:=H1
               clear H1
               obtain rfl:=Option.some.inj H
               go_wp2
               go_ret
               exact⟨bE,bS GE320.out⟩
              ·replace c88:=Bool.eq_false_iff.mpr c88
               subst c88
               have H1:((laws_heldIntS.f kj70 t368 1).bind fun t389=>(if t389 < 0 then (some false) else (if t389=t367 then (some true) else (some false))))=some r:=by rw[if_neg (show ¬ (false=true) by decide)] at H;exact H
               clear H
               have H:=H1
               clear H1
               replace H:=Option.bind_eq_some_iff.mp H
               obtain⟨t389,A890,H⟩:=H
               have A89:=Aside0.mk A890
               clear A890
               by_cases c90:t389 < 0
               ·rw[if_pos c90] at H
                have c90b0:decide (t389 < 0)=true:=decide_eq_true c90
                clear c90
                obtain rfl:=Option.some.inj H
                go_wp2_with (first|((with_reducible refine gate_callee (f:=30) rfl ?_);refine goesA (some 129) rfl rfl Try.func30 #[.slice Ao72 t368.length co72,.int .i64 1] rfl ?_;(with_reducible refine(laws_heldIntS.calls kj70 _ _ t368 1 t389 _ ?side1 ?side2 A89.out).mono ?_);(case side1=>exact bT HO_12.out);(case side2=>exact(Kd.R_reads' HO_12.out).2.1);rintro e w' ⟨rfl,⟨nd,rfl⟩⟩;refine⟨_,rfl,?_⟩))
                go_ret
                exact⟨bE,bS GE320.out⟩
               ·rw[if_neg c90] at H
                have c90b0:decide (t389 < 0)=false:=decide_eq_false c90
                clear c90
                by_cases c91:t389=t367
                ·rw[if_pos c91] at H
                 have c91b0:(t389 == t367)=true:=beq_iff_eq.mpr c91
                 have c91b1:(t389 != t367)=false:=bne_eq_false_iff_eq.mpr c91
                 clear c91
                 obtain rfl:=Option.some.inj H
                 go_wp2_with (first|((with_reducible refine gate_callee (f:=30) rfl ?_);refine goesA (some 129) rfl rfl Try.func30 #[.slice Ao72 t368.length co72,.int .i64 1] rfl ?_;(with_reducible refine(laws_heldIntS.calls kj70 _ _ t368 1 t389 _ ?side1 ?side2 A89.out).mono ?_);(case side1=>exact bT HO_12.out);(case side2=>exact(Kd.R_reads' HO_12.out).2.1);rintro e w' ⟨rfl,⟨nd,rfl⟩⟩;refine⟨_,rfl,?_⟩))
                 go_ret
                 exact⟨bE,bS GE320.out⟩
                ·rw[if_neg c91] at H
                 have c91b0:(t389 == t367)=false:=beq_eq_false_iff_ne.mpr c91
                 have c91b1:(t389 != t367)=true:=bne_iff_ne.mpr c91
                 obtain rfl:=Option.some.inj H
                 go_wp2_with (first|((with_reducible refine gate_callee (f:=30) rfl ?_);refine goesA (some 129) rfl rfl Try.func30 #[.slice Ao72 t368.length co72,.int .i64 1] rfl ?_;(with_reducible refine(laws_heldIntS.calls kj70 _ _ t368 1 t389 _ ?side1 ?side2 A89.out).mono ?_);(case side1=>exact bT HO_12.out);(case side2=>exact(Kd.R_reads' HO_12.out).2.1);rintro e w' ⟨rfl,⟨nd,rfl⟩⟩;refine⟨_,rfl,?_⟩))
                 go_ret
                 exact⟨bE,bS GE320.out⟩
           ·rw[if_neg c67] at H
            have c67b0:(t369 == t367)=false:=beq_eq_false_iff_ne.mpr c67
            have c67b1:(t369 != t367)=true:=bne_iff_ne.mpr c67
            obtain rfl:=Option.some.inj H
            obtain⟨Ao92,co92,eo92⟩:=Kd.R_slice HO_12.out
            subst eo92
            go_wp2_with (first|((with_reducible refine gate_callee (f:=29) rfl ?_);refine goesA (some 94) rfl rfl Try.func29 #[.slice Ao92 t354.length co92,.int .i64 1] rfl ?_;(with_reducible refine(laws_markIntS.calls kj45 (fun k_=>some k_=(.slice Ao92 t354.length co92:Value).ownBlock) (.slice Ao92 t354.length co92) t354 1 t367 t368 w _ ?side1 ?side2 A62.out).mono ?_);(case side1=>repeat (first|(with_reducible first|exact HB.out|apply below_alloc|apply pw_below_drewN|apply below_drew1|refine below_set ?_ GE320.out)|exact HB.out));(case side2=>exact Kd.R_tight rfl HO_12.out);rintro e w93 ⟨rfl,hy0,hb,hkp⟩;refine⟨_,rfl,?_⟩;have n0_:=Aside0.mk (Kd.R_mono (ok':=fun k_=>some k_≠(.slice Ao92 t354.length co92:Value).ownBlock) (Kd.R_keptB (HO_8.out) hkp (fun k_ hk_ hs_=>(hk_) hs_)) (fun k_ hk_=>hk_.1));have n1_:=Aside0.mk (Kd.R_reok rfl hy0 (fun k_ e_=>HO_12.out.1 k_ e_));have n2_:=Aside0.mk (blk_kept (bL BK320.out) hkp (fun hs_=>(fun e_=>(Kd.R_ne HO_12.out BK320.out (by decide)) e_) hs_));have n3_:=Aside0.mk (hb);clear HO_8 HO_12 BK320 HB;have HO_8:=n0_;have HO_12:=n1_;have BK320:=n2_;have HB:=n3_;clear n0_ n1_ n2_ n3_;(try clear hb);(try clear hkp);(try clear hy0))|((with_reducible refine gate_callee (f:=30) rfl ?_);refine goesL_ (some 97) rfl rfl Try.func30 (by kernel_rfl) rfl #[.slice Ao92 t368.length co92,.int .i64 1] rfl (by(try simp only[List.map_toArray,List.map_cons,List.map_nil]);first|done|(rw[show t368.length=t354.length from (Kd.R_reads' HO_12.out).1.symm]<;>rfl)|rfl|(simp only[List.length_drop,List.length_take];rfl)) ?_;(with_reducible refine(laws_heldIntS.calls kj45 _ _ t368 1 t369 _ ?side1 ?side2 A63.out).mono ?_);(case side1=>exact bT HO_12.out);(case side2=>rw[show t368.length=t354.length from (Kd.R_reads' HO_12.out).1.symm];exact(Kd.R_reads' HO_12.out).2.1);rintro e w' ⟨rfl,⟨nd,rfl⟩⟩;refine⟨_,rfl,?_⟩))
            go_ret
            exact⟨bE,bS GE320.out⟩
      ·replace c44:=Bool.eq_false_iff.mpr c44
       subst c44
       have H1:(some false)=some r:=by rw[if_neg (show ¬ (false=true) by decide)] at H;exact H
       clear H
       have H:=H1
       clear H1
       obtain rfl:=Option.some.inj H
       go_wp2_with (first|((with_reducible refine gate_callee (f:=24) rfl ?_);refine goesA (some 68) rfl rfl Try.func24 #[.slice A0 l0.length c0] rfl ?_;(with_reducible refine(laws_toContactS.calls kj17 _ _ l0 t360 _ ?side1 ?side2 A42.out).mono ?_);(case side1=>exact bC HR0.out);(case side2=>exact HC0.out);rintro e w94 ⟨v361,rfl,ho0,hb⟩;refine⟨_,rfl,?_⟩;have n0_:=Aside0.mk (Kd.R_below (bK HO_8.out) hb);have n1_:=Aside0.mk (Kd.R_elder' (bK HO_11.out) (Kd.R_base ho0) hb);have n2_:=Aside0.mk (Kd.R_below (bK HO_12.out) hb);have n3_:=Aside0.mk (Kd.R_lower (Kd.R_new' ho0 (Kd.R_lt (bK HO_11.out))) (below_size (bS GE320.out)));have n4_:=Aside0.mk (blk_below (g:=gb320) (o:=.cells #[.int .i64 a1_0,.int .i64 a1_1,.bool a1_2,.int .i64 a1_3,.int .i64 a1_4,.int .i64 a1_5,.int .i64 a1_6,.int .i64 a1_7,.int .i64 a1_8,.string a1_9] 82 (0,0)) (bL BK320.out) hb);have n5_:=Aside0.mk (below_step (bS GE320.out) hb);clear HO_8 HO_11 HO_12 BK320 HB;have HO_8:=n0_;have HO_11:=n1_;have HO_12:=n2_;have HO362:=n3_;have BK320:=n4_;have HB:=n5_;clear n0_ n1_ n2_ n3_ n4_ n5_;(try clear hb);(try clear hb2);(try clear hk);(try clear hi);(try clear ho0);obtain⟨Ao95,co95,eo95⟩:=Kd.R_slice HO362.out;subst eo95)|((with_reducible refine gate_callee (f:=27) rfl ?_);refine goesA (some 69) rfl rfl Try.func27 #[.slice Ao30 t341.length co30,.slice Ao95 t360.length co95] rfl ?_;(with_reducible refine(laws_eqContactS.calls kj17 _ _ t341 _ _ t360 false _ ?side1 ?side2 ?side3 ?side4 A43.out).mono ?_);(case side1=>exact bT HO_11.out);(case side2=>exact(Kd.R_reads' HO_11.out).2.1);(case side3=>exact bT HO362.out);(case side4=>exact(Kd.R_reads' HO362.out).2.1);rintro e w96 ⟨rfl,hb⟩;refine⟨_,rfl,?_⟩;have n0_:=Aside0.mk (Kd.R_below (bK HO_8.out) hb);have n1_:=Aside0.mk (Kd.R_below (bK HO_11.out) hb);have n2_:=Aside0.mk (Kd.R_below (bK HO_12.out) hb);have n3_:=Aside0.mk (Kd.R_below (bK HO362.out) hb);have n4_:=Aside0.mk (blk_below (g:=gb320) (o:=.cells #[.int .i64 a1_0,.int .i64 a1_1,.bool a1_2,.int .i64 a1_3,.int .i64 a1_4,.int .i64 a1_5,.int .i64 a1_6,.int .i64 a1_7,.int .i64 a1_8,.string a1_9] 82 (0,0)) (bL BK320.out) hb);have n5_:=Aside0.mk (below_step (bS GE320.out) hb);clear HO_8 HO_11 HO_12 HO362 BK320 HB;have HO_8:=n0_;have HO_11:=n1_;have HO_12:=n2_;have HO362:=n3_;have BK320:=n4_;have HB:=n5_;clear n0_ n1_ n2_ n3_ n4_ n5_;(try clear hb);(try clear hb2);(try clear hk);(try clear hi)))
       go_ret
       exact⟨bE,bS GE320.out⟩

end Go.Proofs.Yteneeohaoplpbaa.XFnExactFollowPlan
