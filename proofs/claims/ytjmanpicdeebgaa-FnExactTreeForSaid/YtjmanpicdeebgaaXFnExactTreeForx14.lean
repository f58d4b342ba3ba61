-- Written by this session's own program (wip/xprint.py) out of the translation; Lean checks it.
import Derived.Test.YtjmanpicdeebgaaXFnExactTreeForx0
import Derived.Test.YtjmanpicdeebgaaXFnExactTreeForx1
import Derived.Test.YtjmanpicdeebgaaXFnExactTreeForx5
import Derived.Test.YtjmanpicdeebgaaXFnExactTreeForx6
import Derived.Test.YtjmanpicdeebgaaXFnExactTreeForx12
import Derived.Test.YtjmanpicdeebgaaXFnExactTreeForx13
namespace Go.Proofs.Ytjmanpicdeebgaa.XFnExactTreeFor
open Go.RowKit Go.Proofs.YtjmanpicdeebgaaW.PrintWords Go.Proofs.YtjmanpicdeebgaaW.PrintLast Go.Proofs.YtjmanpicdeebgaaW.PrintMore
attribute [local go_sem] max2_int min2_int max_two min_two max_three min_three max_four min_four   -- for this text's walks alone
set_option linter.unusedVariables false
set_option linter.unusedSimpArgs false

/-! ### laws_FnExactTreeFor: function 8 -/
mutual
def laws_FnExactTreeFor.j0:Nat→List (S167)→List Int→List Int→Bool→List (S165)→List Int→List Int→Bool→Bool→Int→Int→Bool→Int→Int→Int→Int→Int→Int→ByteArray→Option (Bool)
 | 0,_,_,_,_,_,_,_,_,_,_,_,_,_,_,_,_,_,_,_=>none
 | k+1,x0,x2,x8,x9,x10,x11,x12,x13,x62,x377000,x377001,x377002,x377003,x377004,x377005,x377006,x377007,x377008,x377009=>if x62=true then (some false) else ((laws_toContactS.f k x0).bind fun t420=>((laws_eqContactS.f k x10 t420).bind fun t423=>(if t423=true then ((laws_toIntS.f k x2).bind fun t424=>((laws_eqIntS.f k x11 t424).bind fun t427=>(if t427=true then ((laws_markContactS.f k x10 1).bind fun bt428=>((laws_markIntS.f k x11 bt428.1).bind fun bt430=>(if bt430.1 < 0 then (laws_FnExactTreeFor.j1 k x0 x2 x8 x9 x12 true x377000 x377001 x377002 x377003 x377004 x377005 x377006 x377007 x377008 x377009) else ((laws_eqIntS.f k x12 x8).bind fun t432=>(if t432=true then (laws_FnExactTreeFor.j1 k x0 x2 x8 x9 x12 (x13 != x9) x377000 x377001 x377002 x377003 x377004 x377005 x377006 x377007 x377008 x377009) else (laws_FnExactTreeFor.j1 k x0 x2 x8 x9 x12 true x377000 x377001 x377002 x377003 x377004 x377005 x377006 x377007 x377008 x377009)))))) else (some false)))) else (some false))))
def laws_FnExactTreeFor.j1:Nat→List (S167)→List Int→List Int→Bool→List Int→Bool→Int→Int→Bool→Int→Int→Int→Int→Int→Int→ByteArray→Option (Bool)
 | 0,_,_,_,_,_,_,_,_,_,_,_,_,_,_,_,_=>none
 | k+1,x0,x2,x8,x9,x12,x91,x377000,x377001,x377002,x377003,x377004,x377005,x377006,x377007,x377008,x377009=>if x91=true then (some false) else ((laws_markIntS.f k x12 1).bind fun bt433=>((laws_heldIntS.f k bt433.2 1).bind fun t435=>(if t435 < 0 then (some false) else (if t435=bt433.1 then ((laws_toContactS.f k x0).bind fun t436=>((laws_toBundle.f x377000 x377001 x377002 x377003 x377004 x377005 x377006 x377007 x377008 x377009).bind fun bt439=>((laws_toIntS.f k x2).bind fun t449=>((impl_TreeFor.f k t436 bt439.1 bt439.2.1 bt439.2.2.1 bt439.2.2.2.1 bt439.2.2.2.2.1 bt439.2.2.2.2.2.1 bt439.2.2.2.2.2.2.1 bt439.2.2.2.2.2.2.2.1 bt439.2.2.2.2.2.2.2.2.1 bt439.2.2.2.2.2.2.2.2.2 t449).bind fun bt452=>((laws_eqIntS.f k bt452.1 x8).bind fun t456=>(if t456=true then (laws_FnExactTreeFor.j2 k bt433.2 bt433.1 (bt452.2 != x9)) else (laws_FnExactTreeFor.j2 k bt433.2 bt433.1 true))))))) else (some false)))))
def laws_FnExactTreeFor.j2:Nat→List Int→Int→Bool→Option (Bool)
 | 0,_,_,_=>none
 | k+1,x12,x15,x121=>if x121=true then (some false) else ((laws_heldIntS.f k x12 1).bind fun t457=>(if t457 < 0 then (some false) else (if t457=x15 then (some true) else (some false))))
end
def laws_FnExactTreeFor.f (k:Nat) (l0:List (S167)) (a1_0:Int) (a1_1:Int) (a1_2:Bool) (a1_3:Int) (a1_4:Int) (a1_5:Int) (a1_6:Int) (a1_7:Int) (a1_8:Int) (a1_9:ByteArray) (l2:List Int):Option (Bool):=if (l2.length:Int) > 1048576 then (some true) else ((laws_szContactS.f l0 1048576).bind fun t377=>(if t377 < 0 then (some true) else ((laws_szBundle.f a1_0 a1_1 a1_2 a1_3 a1_4 a1_5 a1_6 a1_7 a1_8 a1_9 t377).bind fun t378=>(if t378 < 0 then (some true) else ((laws_toContactS.f k l0).bind fun t379=>((laws_toBundle.f a1_0 a1_1 a1_2 a1_3 a1_4 a1_5 a1_6 a1_7 a1_8 a1_9).bind fun bt382=>((laws_toIntS.f k l2).bind fun t392=>((spec_TreeFor.f k t379 bt382.1 bt382.2.1 bt382.2.2.1 bt382.2.2.2.1 bt382.2.2.2.2.1 bt382.2.2.2.2.2.1 bt382.2.2.2.2.2.2.1 bt382.2.2.2.2.2.2.2.1 bt382.2.2.2.2.2.2.2.2.1 bt382.2.2.2.2.2.2.2.2.2 t392).bind fun bt395=>((laws_toContactS.f k l0).bind fun t399=>((laws_toIntS.f k l2).bind fun t402=>((laws_toBundle.f a1_0 a1_1 a1_2 a1_3 a1_4 a1_5 a1_6 a1_7 a1_8 a1_9).bind fun bt405=>((impl_TreeFor.f k t399 bt405.1 bt405.2.1 bt405.2.2.1 bt405.2.2.2.1 bt405.2.2.2.2.1 bt405.2.2.2.2.2.1 bt405.2.2.2.2.2.2.1 bt405.2.2.2.2.2.2.2.1 bt405.2.2.2.2.2.2.2.2.1 bt405.2.2.2.2.2.2.2.2.2 t402).bind fun bt415=>((laws_eqIntS.f k bt415.1 bt395.1).bind fun t419=>(if t419=true then (laws_FnExactTreeFor.j0 k l0 l2 bt395.1 bt395.2 t399 t402 bt415.1 bt415.2 (bt415.2 != bt395.2) a1_0 a1_1 a1_2 a1_3 a1_4 a1_5 a1_6 a1_7 a1_8 a1_9) else (laws_FnExactTreeFor.j0 k l0 l2 bt395.1 bt395.2 t399 t402 bt415.1 bt415.2 true a1_0 a1_1 a1_2 a1_3 a1_4 a1_5 a1_6 a1_7 a1_8 a1_9)))))))))))))))
theorem laws_FnExactTreeFor.mono_l : ∀ k,(∀ y0 y1 y2 y3 y4 y5 y6 y7 y8 y9 y10 y11 y12 y13 y14 y15 y16 y17 y18,LeO (laws_FnExactTreeFor.j0 k y0 y1 y2 y3 y4 y5 y6 y7 y8 y9 y10 y11 y12 y13 y14 y15 y16 y17 y18) (laws_FnExactTreeFor.j0 (k+1) y0 y1 y2 y3 y4 y5 y6 y7 y8 y9 y10 y11 y12 y13 y14 y15 y16 y17 y18))∧(∀ y0 y1 y2 y3 y4 y5 y6 y7 y8 y9 y10 y11 y12 y13 y14 y15,LeO (laws_FnExactTreeFor.j1 k y0 y1 y2 y3 y4 y5 y6 y7 y8 y9 y10 y11 y12 y13 y14 y15) (laws_FnExactTreeFor.j1 (k+1) y0 y1 y2 y3 y4 y5 y6 y7 y8 y9 y10 y11 y12 y13 y14 y15))∧(∀ y0 y1 y2,LeO (laws_FnExactTreeFor.j2 k y0 y1 y2) (laws_FnExactTreeFor.j2 (k+1) y0 y1 y2))
 | 0=>⟨fun _ _ _ _ _ _ _ _ _ _ _ _ _ _ _ _ _ _ _ r h=>by simp[laws_FnExactTreeFor.j0] at h,fun _ _ _ _ _ _ _ _ _ _ _ _ _ _ _ _ r h=>by simp[laws_FnExactTreeFor.j1] at h,fun _ _ _ r h=>by simp[laws_FnExactTreeFor.j2] at h⟩
 | k+1=>by
  obtain⟨ih0,ih1,ih2⟩:=laws_FnExactTreeFor.mono_l k
  refine⟨?_,?_,?_⟩
  ·intro y0 y1 y2 y3 y4 y5 y6 y7 y8 y9 y10 y11 y12 y13 y14 y15 y16 y17 y18
   unfold laws_FnExactTreeFor.j0
   repeat' first
   | (with_reducible exact ih0 _ _ _ _ _ _ _ _ _ _ _ _ _ _ _ _ _ _ _)
   | (with_reducible exact ih1 _ _ _ _ _ _ _ _ _ _ _ _ _ _ _ _)
   | (with_reducible exact ih2 _ _ _)
   | (with_reducible exact impl_TreeFor.mono _ _ _ _ _ _ _ _ _ _ _ _ _)
   | (with_reducible exact laws_eqContactS.mono _ _ _)
   | (with_reducible exact laws_eqIntS.mono _ _ _)
   | (with_reducible exact laws_heldIntS.mono _ _ _)
   | (with_reducible exact laws_markContactS.mono _ _ _)
   | (with_reducible exact laws_markIntS.mono _ _ _)
   | (with_reducible exact laws_toContactS.mono _ _)
   | (with_reducible exact laws_toIntS.mono _ _)
   | (with_reducible exact spec_TreeFor.mono _ _ _ _ _ _ _ _ _ _ _ _ _)
   | (with_reducible exact LeO.refl _)
   | (with_reducible exact LeO.none _)
   | (with_reducible refine LeO.ite ?_ ?_)
   | (with_reducible refine LeO.bind ?_ (fun _ => ?_))
   | exact ih0 _ _ _ _ _ _ _ _ _ _ _ _ _ _ _ _ _ _ _
   | exact ih1 _ _ _ _ _ _ _ _ _ _ _ _ _ _ _ _
   | exact ih2 _ _ _
   | exact impl_TreeFor.mono _ _ _ _ _ _ _ _ _ _ _ _ _
   | exact laws_eqContactS.mono _ _ _
   | exact laws_eqIntS.mono _ _ _
   | exact laws_heldIntS.mono _ _ _
   | exact laws_markContactS.mono _ _ _
   | exact laws_markIntS.mono _ _ _
   | exact laws_toContactS.mono _ _
   | exact laws_toIntS.mono _ _
   | exact spec_TreeFor.mono _ _ _ _ _ _ _ _ _ _ _ _ _
   | exact LeO.none _
   | refine LeO.ite ?_ ?_
   | refine LeO.bind ?_ (fun _ => ?_)
  ·intro y0 y1 y2 y3 y4 y5 y6 y7 y8 y9 y10 y11 y12 y13 y14 y15
   unfold laws_FnExactTreeFor.j1
   repeat' first
   | (with_reducible exact ih0 _ _ _ _ _ _ _ _ _ _ _ _ _ _ _ _ _ _ _)
   | (with_reducible exact ih1 _ _ _ _ _ _ _ _ _ _ _ _ _ _ _ _)
   | (with_reducible exact ih2 _ _ _)
   | (with_reducible exact impl_TreeFor.mono _ _ _ _ _ _ _ _ _ _ _ _ _)
   | (with_reducible exact laws_eqContactS.mono _ _ _)
   | (with_reducible exact laws_eqIntS.mono _ _ _)
   | (with_reducible exact laws_heldIntS.mono _ _ _)
   | (with_reducible exact laws_markContactS.mono _ _ _)
   | (with_reducible exact laws_markIntS.mono _ _ _)
   | (with_reducible exact laws_toContactS.mono _ _)
   | (with_reducible exact laws_toIntS.mono _ _)
   | (with_reducible exact spec_TreeFor.mono _ _ _ _ _ _ _ _ _ _ _ _ _)
   | (with_reducible exact LeO.refl _)
   | (with_reducible exact LeO.none _)
   | (with_reducible refine LeO.ite ?_ ?_)
   | (with_reducible refine LeO.bind ?_ (fun _ => ?_))
   | exact ih0 _ _ _ _ _ _ _ _ _ _ _ _ _ _ _ _ _ _ _
   | exact ih1 _ _ _ _ _ _ _ _ _ _ _ _ _ _ _ _
   | exact ih2 _ _ _
   | exact impl_TreeFor.mono _ _ _ _ _ _ _ _ _ _ _ _ _
   | exact laws_eqContactS.mono _ _ _
   | exact laws_eqIntS.mono _ _ _
   | exact laws_heldIntS.mono _ _ _
   | exact laws_markContactS.mono _ _ _
   | exact laws_markIntS.mono _ _ _
   | exact laws_toContactS.mono _ _
   | exact laws_toIntS.mono _ _
   | exact spec_TreeFor.mono _ _ _ _ _ _ _ _ _ _ _ _ _
   | exact LeO.none _
   | refine LeO.ite ?_ ?_
   | refine LeO.bind ?_ (fun _ => ?_)
  ·intro y0 y1 y2
   unfold laws_FnExactTreeFor.j2
   repeat' first
   | (with_reducible exact ih0 _ _ _ _ _ _ _ _ _ _ _ _ _ _ _ _ _ _ _)
   | (with_reducible exact ih1 _ _ _ _ _ _ _ _ _ _ _ _ _ _ _ _)
   | (with_reducible exact ih2 _ _ _)
   | (with_reducible exact impl_TreeFor.mono _ _ _ _ _ _ _ _ _ _ _ _ _)
   | (with_reducible exact laws_eqContactS.mono _ _ _)
   | (with_reducible exact laws_eqIntS.mono _ _ _)
   | (with_reducible exact laws_heldIntS.mono _ _ _)
   | (with_reducible exact laws_markContactS.mono _ _ _)
   | (with_reducible exact laws_markIntS.mono _ _ _)
   | (with_reducible exact laws_toContactS.mono _ _)
   | (with_reducible exact laws_toIntS.mono _ _)
   | (with_reducible exact spec_TreeFor.mono _ _ _ _ _ _ _ _ _ _ _ _ _)
   | (with_reducible exact LeO.refl _)
   | (with_reducible exact LeO.none _)
   | (with_reducible refine LeO.ite ?_ ?_)
   | (with_reducible refine LeO.bind ?_ (fun _ => ?_))
   | exact ih0 _ _ _ _ _ _ _ _ _ _ _ _ _ _ _ _ _ _ _
   | exact ih1 _ _ _ _ _ _ _ _ _ _ _ _ _ _ _ _
   | exact ih2 _ _ _
   | exact impl_TreeFor.mono _ _ _ _ _ _ _ _ _ _ _ _ _
   | exact laws_eqContactS.mono _ _ _
   | exact laws_eqIntS.mono _ _ _
   | exact laws_heldIntS.mono _ _ _
   | exact laws_markContactS.mono _ _ _
   | exact laws_markIntS.mono _ _ _
   | exact laws_toContactS.mono _ _
   | exact laws_toIntS.mono _ _
   | exact spec_TreeFor.mono _ _ _ _ _ _ _ _ _ _ _ _ _
   | exact LeO.none _
   | refine LeO.ite ?_ ?_
   | refine LeO.bind ?_ (fun _ => ?_)
theorem laws_FnExactTreeFor.mono : ∀ a0 a1 a2 a3 a4 a5 a6 a7 a8 a9 a10 a11 k,LeO (laws_FnExactTreeFor.f k a0 a1 a2 a3 a4 a5 a6 a7 a8 a9 a10 a11) (laws_FnExactTreeFor.f (k+1) a0 a1 a2 a3 a4 a5 a6 a7 a8 a9 a10 a11):=by
 intro a0 a1 a2 a3 a4 a5 a6 a7 a8 a9 a10 a11 k
 obtain⟨ih0,ih1,ih2⟩:=laws_FnExactTreeFor.mono_l k
 unfold laws_FnExactTreeFor.f
 repeat' first
  | (with_reducible exact ih0 _ _ _ _ _ _ _ _ _ _ _ _ _ _ _ _ _ _ _)
  | (with_reducible exact ih1 _ _ _ _ _ _ _ _ _ _ _ _ _ _ _ _)
  | (with_reducible exact ih2 _ _ _)
  | (with_reducible exact impl_TreeFor.mono _ _ _ _ _ _ _ _ _ _ _ _ _)
  | (with_reducible exact laws_eqContactS.mono _ _ _)
  | (with_reducible exact laws_eqIntS.mono _ _ _)
  | (with_reducible exact laws_heldIntS.mono _ _ _)
  | (with_reducible exact laws_markContactS.mono _ _ _)
  | (with_reducible exact laws_markIntS.mono _ _ _)
  | (with_reducible exact laws_toContactS.mono _ _)
  | (with_reducible exact laws_toIntS.mono _ _)
  | (with_reducible exact spec_TreeFor.mono _ _ _ _ _ _ _ _ _ _ _ _ _)
  | (with_reducible exact LeO.refl _)
  | (with_reducible exact LeO.none _)
  | (with_reducible refine LeO.ite ?_ ?_)
  | (with_reducible refine LeO.bind ?_ (fun _ => ?_))
  | exact ih0 _ _ _ _ _ _ _ _ _ _ _ _ _ _ _ _ _ _ _
  | exact ih1 _ _ _ _ _ _ _ _ _ _ _ _ _ _ _ _
  | exact ih2 _ _ _
  | exact impl_TreeFor.mono _ _ _ _ _ _ _ _ _ _ _ _ _
  | exact laws_eqContactS.mono _ _ _
  | exact laws_eqIntS.mono _ _ _
  | exact laws_heldIntS.mono _ _ _
  | exact laws_markContactS.mono _ _ _
  | exact laws_markIntS.mono _ _ _
  | exact laws_toContactS.mono _ _
  | exact laws_toIntS.mono _ _
  | exact spec_TreeFor.mono _ _ _ _ _ _ _ _ _ _ _ _ _
  | exact LeO.none _
  | refine LeO.ite ?_ ?_
  | refine LeO.bind ?_ (fun _ => ?_)
def laws_FnExactTreeFor.T10:Bool × List (List Nat × List Nat):=(true,[([],[]),([0],[0]),([],[]),([2,1],[2]),([],[]),([4,3],[4]),([1,3,5,5],[1,3,5]),([6],[6]),([7],[7]),([7],[7]),([8,6,0,1,2,3,4,5,6,7,8],[8]),([9,10,0,1,2,3,4,5,6,7,8,9,10],[9])])
def laws_FnExactTreeFor.B10:List Nat:=[0,1,0,7,0,31,63,127,255,255,511,2047]
theorem laws_FnExactTreeFor.tab10:rtab .any (opsOf Try.f8 10)=laws_FnExactTreeFor.T10:=by kernel_rfl
theorem laws_FnExactTreeFor.bits10:waitsOk laws_FnExactTreeFor.T10.2 laws_FnExactTreeFor.B10=true:=by kernel_rfl
def laws_FnExactTreeFor.T33:Bool × List (List Nat × List Nat):=(true,[([],[]),([0],[0]),([],[]),([2,1],[2]),([],[]),([4,3],[4]),([1,3,5,5],[1,3,5]),([6],[6]),([7],[7]),([7],[7]),([8,6,0,1,2,3,4,5,6,7,8],[8]),([9,10,0,1,2,3,4,5,6,7,8,9,10],[9])])
def laws_FnExactTreeFor.B33:List Nat:=[0,1,0,7,0,31,63,127,255,255,511,2047]
theorem laws_FnExactTreeFor.tab33:rtab .any (opsOf Try.f8 33)=laws_FnExactTreeFor.T33:=by kernel_rfl
theorem laws_FnExactTreeFor.bits33:waitsOk laws_FnExactTreeFor.T33.2 laws_FnExactTreeFor.B33=true:=by kernel_rfl
set_option maxHeartbeats 8000000 in
set_option maxRecDepth 100000 in
theorem laws_FnExactTreeFor.calls (k:Nat) (A0:Option Addr) (c0:Nat) (l0:List (S167)) (a1_0:Int) (a1_1:Int) (a1_2:Bool) (a1_3:Int) (a1_4:Int) (a1_5:Int) (a1_6:Int) (a1_7:Int) (a1_8:Int) (a1_9:ByteArray) (A2:Option Addr) (c2:Nat) (l2:List Int) (r:Bool) (w:World) (hr0:Kd.C k167 w A0 l0.length l0) (hc0:l0.length≤c0) (hr2:Kd.C (Kd.int .i64) w A2 l2.length l2) (hc2:l2.length≤c2) (h:laws_FnExactTreeFor.f k l0 a1_0 a1_1 a1_2 a1_3 a1_4 a1_5 a1_6 a1_7 a1_8 a1_9 l2=some r) :
  Calls Try.prog 8 #[.slice A0 l0.length c0,.agg #[.int .i64 a1_0,.int .i64 a1_1,.bool a1_2,.int .i64 a1_3,.int .i64 a1_4,.int .i64 a1_5,.int .i64 a1_6,.int .i64 a1_7,.int .i64 a1_8,.string a1_9],.slice A2 l2.length c2] w fun e w'=>e=.returned (.bool r)∧Below w.heap.size w w':=by
 have hu73:=Try.underlying73
 have HR0:=Aside0.mk hr0
 have HC0:=Aside0.mk hc0
 clear hr0 hc0
 have HR2:=Aside0.mk hr2
 have HC2:=Aside0.mk hc2
 clear hr2 hc2
 have HB:=Aside0.mk (Below.refl w.heap.size w)
 have H:(if (l2.length:Int) > 1048576 then (some true) else ((laws_szContactS.f l0 1048576).bind fun t377=>(if t377 < 0 then (some true) else ((laws_szBundle.f a1_0 a1_1 a1_2 a1_3 a1_4 a1_5 a1_6 a1_7 a1_8 a1_9 t377).bind fun t378=>(if t378 < 0 then (some true) else ((laws_toContactS.f k l0).bind fun t379=>((laws_toBundle.f a1_0 a1_1 a1_2 a1_3 a1_4 a1_5 a1_6 a1_7 a1_8 a1_9).bind fun bt382=>((laws_toIntS.f k l2).bind fun t392=>((spec_TreeFor.f k t379 bt382.1 bt382.2.1 bt382.2.2.1 bt382.2.2.2.1 bt382.2.2.2.2.1 bt382.2.2.2.2.2.1 bt382.2.2.2.2.2.2.1 bt382.2.2.2.2.2.2.2.1 bt382.2.2.2.2.2.2.2.2.1 bt382.2.2.2.2.2.2.2.2.2 t392).bind fun bt395=>((laws_toContactS.f k l0).bind fun t399=>((laws_toIntS.f k l2).bind fun t402=>((laws_toBundle.f a1_0 a1_1 a1_2 a1_3 a1_4 a1_5 a1_6 a1_7 a1_8 a1_9).bind fun bt405=>((impl_TreeFor.f k t399 bt405.1 bt405.2.1 bt405.2.2.1 bt405.2.2.2.1 bt405.2.2.2.2.1 bt405.2.2.2.2.2.1 bt405.2.2.2.2.2.2.1 bt405.2.2.2.2.2.2.2.1 bt405.2.2.2.2.2.2.2.2.1 bt405.2.2.2.2.2.2.2.2.2 t402).bind fun bt415=>((laws_eqIntS.f k bt415.1 bt395.1).bind fun t419=>(if t419=true then (laws_FnExactTreeFor.j0 k l0 l2 bt395.1 bt395.2 t399 t402 bt415.1 bt415.2 (bt415.2 != bt395.2) a1_0 a1_1 a1_2 a1_3 a1_4 a1_5 a1_6 a1_7 a1_8 a1_9) else (laws_FnExactTreeFor.j0 k l0 l2 bt395.1 bt395.2 t399 t402 bt415.1 bt415.2 true a1_0 a1_1 a1_2 a1_3 a1_4 a1_5 a1_6 a1_7 a1_8 a1_9))))))))))))))))=some r:=h
 clear h
 by_cases c4:(l2.length:Int) > 1048576
 ·rw[if_pos c4] at H
  have c4b0:decide (1048576 < (l2.length:Int))=true:=decide_eq_true c4
  have c4b1:decide (1048576 < l2.length)=true:=decide_eq_true (by omega)
  clear c4
  obtain rfl:=Option.some.inj H
  go_enter Try.func8,Try.ntmps8
  go_wp2_with (first|((with_reducible refine gate_dst (N:=4) rfl ?_);refine box_event ?hg (N:=4) ?hd (cs:=#[.int .i64 a1_0,.int .i64 a1_1,.bool a1_2,.int .i64 a1_3,.int .i64 a1_4,.int .i64 a1_5,.int .i64 a1_6,.int .i64 a1_7,.int .i64 a1_8,.string a1_9]) (t:=73) ?hr ?_;(case hd=>rfl);(case hg=>rfl);(case hr=>first|(go_simp;done)|(go_simp;rfl));intro gb376 hg w5 hbox hb;have n0_:=Aside0.mk (below_step (bB) hb);have n1_:=Aside0.mk (hbox);have n2_:=Aside0.mk ((bG:w.heap.size≤gb376));have n3_:=Aside0.mk ((bG:w.heap.size≤gb376));clear HB;have HB:=n0_;have BK376:=n1_;have GW376:=n2_;have GE376:=n3_;clear n0_ n1_ n2_ n3_;clear hb hbox hg))
  go_ret
  exact⟨bE,bS GE376.out⟩
 ·rw[if_neg c4] at H
  have c4b0:decide (1048576 < (l2.length:Int))=false:=decide_eq_false c4
  have c4b1:decide (1048576 < l2.length)=false:=decide_eq_false (by omega)
  clear c4
  replace H:=Option.bind_eq_some_iff.mp H
  obtain⟨t377,A60,H⟩:=H
  have A6:=Aside0.mk A60
  clear A60
  by_cases c7:t377 < 0
  ·rw[if_pos c7] at H
   have c7b0:decide (t377 < 0)=true:=decide_eq_true c7
   clear c7
   obtain rfl:=Option.some.inj H
   go_enter Try.func8,Try.ntmps8
   go_wp2_with (first|((with_reducible refine gate_dst (N:=4) rfl ?_);refine box_event ?hg (N:=4) ?hd (cs:=#[.int .i64 a1_0,.int .i64 a1_1,.bool a1_2,.int .i64 a1_3,.int .i64 a1_4,.int .i64 a1_5,.int .i64 a1_6,.int .i64 a1_7,.int .i64 a1_8,.string a1_9]) (t:=73) ?hr ?_;(case hd=>rfl);(case hg=>rfl);(case hr=>first|(go_simp;done)|(go_simp;rfl));intro gb376 hg w8 hbox hb;have n0_:=Aside0.mk (below_step (bB) hb);have n1_:=Aside0.mk (hbox);have n2_:=Aside0.mk ((bG:w.heap.size≤gb376));have n3_:=Aside0.mk ((bG:w.heap.size≤gb376));clear HB;have HB:=n0_;have BK376:=n1_;have GW376:=n2_;have GE376:=n3_;clear n0_ n1_ n2_ n3_;clear hb hbox hg)|((with_reducible refine gate_callee (f:=47) rfl ?_);refine goesA (some 24) rfl rfl Try.func47 #[.slice A0 l0.length c0,.int .i64 1048576] rfl ?_;(with_reducible refine(laws_szContactS.calls _ _ l0 1048576 t377 _ ?side1 ?side2 A6.out).mono ?_);(case side1=>exact bC HR0.out);(case side2=>exact HC0.out);rintro e w' ⟨rfl,⟨nd,rfl⟩⟩;refine⟨_,rfl,?_⟩))
   go_ret
   exact⟨bE,bS GE376.out⟩
  ·rw[if_neg c7] at H
   have c7b0:decide (t377 < 0)=false:=decide_eq_false c7
   clear c7
   replace H:=Option.bind_eq_some_iff.mp H
   obtain⟨t378,A90,H⟩:=H
   have A9:=Aside0.mk A90
   clear A90
   by_cases c10:t378 < 0
   ·rw[if_pos c10] at H
    have c10b0:decide (t378 < 0)=true:=decide_eq_true c10
    clear c10
    obtain rfl:=Option.some.inj H
    go_enter Try.func8,Try.ntmps8
    go_wp2_with (first|((with_reducible refine gate_dst (N:=4) rfl ?_);refine box_event ?hg (N:=4) ?hd (cs:=#[.int .i64 a1_0,.int .i64 a1_1,.bool a1_2,.int .i64 a1_3,.int .i64 a1_4,.int .i64 a1_5,.int .i64 a1_6,.int .i64 a1_7,.int .i64 a1_8,.string a1_9]) (t:=73) ?hr ?_;(case hd=>rfl);(case hg=>rfl);(case hr=>first|(go_simp;done)|(go_simp;rfl));intro gb376 hg w11 hbox hb;have n0_:=Aside0.mk (below_step (bB) hb);have n1_:=Aside0.mk (hbox);have n2_:=Aside0.mk ((bG:w.heap.size≤gb376));have n3_:=Aside0.mk ((bG:w.heap.size≤gb376));clear HB;have HB:=n0_;have BK376:=n1_;have GW376:=n2_;have GE376:=n3_;clear n0_ n1_ n2_ n3_;clear hb hbox hg)|((with_reducible refine gate_callee (f:=47) rfl ?_);refine goesA (some 24) rfl rfl Try.func47 #[.slice A0 l0.length c0,.int .i64 1048576] rfl ?_;(with_reducible refine(laws_szContactS.calls _ _ l0 1048576 t377 _ ?side1 ?side2 A6.out).mono ?_);(case side1=>exact bC HR0.out);(case side2=>exact HC0.out);rintro e w' ⟨rfl,⟨nd,rfl⟩⟩;refine⟨_,rfl,?_⟩;obtain⟨hcz12_0,hcz12_1,hcz12_2,hcz12_3,hcz12_4,hcz12_5,hcz12_6,hcz12_7,hcz12_8,hcz12_9⟩:=cC10 BK376.out;obtain⟨hfz12_0,hfz12_1,hfz12_2,hfz12_3,hfz12_4,hfz12_5,hfz12_6,hfz12_7,hfz12_8,hfz12_9⟩:=cF10 BK376.out)|((with_reducible refine gate_callee (f:=48) rfl ?_);refine goesA (some 29) rfl rfl Try.func48 #[.agg #[.int .i64 a1_0,.int .i64 a1_1,.bool a1_2,.int .i64 a1_3,.int .i64 a1_4,.int .i64 a1_5,.int .i64 a1_6,.int .i64 a1_7,.int .i64 a1_8,.string a1_9],.int .i64 t377] rfl ?_;(with_reducible refine(laws_szBundle.calls a1_0 a1_1 a1_2 a1_3 a1_4 a1_5 a1_6 a1_7 a1_8 a1_9 t377 t378 _ A9.out).mono ?_);rintro e w13 ⟨rfl,hb⟩;refine⟨_,rfl,?_⟩;have n0_:=Aside0.mk (bM BK376.out hb);have n1_:=Aside0.mk (below_step (bS GE376.out) hb);clear BK376 HB;have BK376:=n0_;have HB:=n1_;clear n0_ n1_;(try clear hb);(try clear hb2);(try clear hk);(try clear hi)))
    go_ret
    exact⟨bE,bS GE376.out⟩
   ·rw[if_neg c10] at H
    have c10b0:decide (t378 < 0)=false:=decide_eq_false c10
    clear c10
    replace H:=Option.bind_eq_some_iff.mp H
    obtain⟨t379,A140,H⟩:=H
    have A14:=Aside0.mk A140
    clear A140
    replace H:=Option.bind_eq_some_iff.mp H
    obtain⟨⟨t382,t383,t384,t385,t386,t387,t388,t389,t390,t391⟩,A150,H⟩:=H
    have A15:=Aside0.mk A150
    clear A150
    replace H:=Option.bind_eq_some_iff.mp H
    obtain⟨t392,A160,H⟩:=H
    have A16:=Aside0.mk A160
    clear A160
    replace H:=Option.bind_eq_some_iff.mp H
    obtain⟨⟨t395,t398⟩,A170,H⟩:=H
    have A17:=Aside0.mk A170
    clear A170
    replace H:=Option.bind_eq_some_iff.mp H
    obtain⟨t399,A180,H⟩:=H
    have A18:=Aside0.mk A180
    clear A180
    replace H:=Option.bind_eq_some_iff.mp H
    obtain⟨t402,A190,H⟩:=H
    have A19:=Aside0.mk A190
    clear A190
    replace H:=Option.bind_eq_some_iff.mp H
    obtain⟨⟨t405,t406,t407,t408,t409,t410,t411,t412,t413,t414⟩,A200,H⟩:=H
    have A20:=Aside0.mk A200
    clear A200
    replace H:=Option.bind_eq_some_iff.mp H
    obtain⟨⟨t415,t418⟩,A210,H⟩:=H
    have A21:=Aside0.mk A210
    clear A210
    have HC22:=Aside0.mk H
    clear H
    go_enter Try.func8,Try.ntmps8
    try go_wp2_with (first|((with_reducible refine gate_dst (N:=4) rfl ?_);refine box_event ?hg (N:=4) ?hd (cs:=#[.int .i64 a1_0,.int .i64 a1_1,.bool a1_2,.int .i64 a1_3,.int .i64 a1_4,.int .i64 a1_5,.int .i64 a1_6,.int .i64 a1_7,.int .i64 a1_8,.string a1_9]) (t:=73) ?hr ?_;(case hd=>rfl);(case hg=>rfl);(case hr=>first|(go_simp;done)|(go_simp;rfl));intro gb376 hg w23 hbox hb;have n0_:=Aside0.mk (below_step (bB) hb);have n1_:=Aside0.mk (hbox);have n2_:=Aside0.mk ((bG:w.heap.size≤gb376));have n3_:=Aside0.mk ((bG:w.heap.size≤gb376));clear HB;have HB:=n0_;have BK376:=n1_;have GW376:=n2_;have GE376:=n3_;clear n0_ n1_ n2_ n3_;clear hb hbox hg)|((with_reducible refine gate_callee (f:=47) rfl ?_);refine goesA (some 24) rfl rfl Try.func47 #[.slice A0 l0.length c0,.int .i64 1048576] rfl ?_;(with_reducible refine(laws_szContactS.calls _ _ l0 1048576 t377 _ ?side1 ?side2 A6.out).mono ?_);(case side1=>exact bC HR0.out);(case side2=>exact HC0.out);rintro e w' ⟨rfl,⟨nd,rfl⟩⟩;refine⟨_,rfl,?_⟩;obtain⟨hcz24_0,hcz24_1,hcz24_2,hcz24_3,hcz24_4,hcz24_5,hcz24_6,hcz24_7,hcz24_8,hcz24_9⟩:=cC10 BK376.out;obtain⟨hfz24_0,hfz24_1,hfz24_2,hfz24_3,hfz24_4,hfz24_5,hfz24_6,hfz24_7,hfz24_8,hfz24_9⟩:=cF10 BK376.out)|((with_reducible refine gate_callee (f:=48) rfl ?_);refine goesA (some 29) rfl rfl Try.func48 #[.agg #[.int .i64 a1_0,.int .i64 a1_1,.bool a1_2,.int .i64 a1_3,.int .i64 a1_4,.int .i64 a1_5,.int .i64 a1_6,.int .i64 a1_7,.int .i64 a1_8,.string a1_9],.int .i64 t377] rfl ?_;(with_reducible refine(laws_szBundle.calls a1_0 a1_1 a1_2 a1_3 a1_4 a1_5 a1_6 a1_7 a1_8 a1_9 t377 t378 _ A9.out).mono ?_);rintro e w25 ⟨rfl,hb⟩;refine⟨_,rfl,?_⟩;have n0_:=Aside0.mk (bM BK376.out hb);have n1_:=Aside0.mk (below_step (bS GE376.out) hb);clear BK376 HB;have BK376:=n0_;have HB:=n1_;clear n0_ n1_;(try clear hb);(try clear hb2);(try clear hk);(try clear hi)))
    (try (rw[drewN_self w25];generalize hq_:World.drewN w25 _=w25;have n0_:=Aside0.mk (blk_at hq_ BK376.out);have n1_:=Aside0.mk (below_at hq_ HB.out);clear hq_ BK376 HB;have BK376:=n0_;have HB:=n1_;clear n0_ n1_))
    have n0_:=Aside0.mk (blk_drew BK376.out)
    have n1_:=Aside0.mk (below_drew1 HB.out)
    clear BK376 HB
    have BK376:=n0_
    have HB:=n1_
    clear n0_ n1_
    refine start_ (n:=12) (S:=fun w'=>w'.cell? ⟨gb376,0,none⟩=some (.int .i64 a1_0)∧w'.cell? ⟨gb376,1,none⟩=some (.int .i64 a1_1)∧w'.cell? ⟨gb376,2,none⟩=some (.bool a1_2)∧w'.cell? ⟨gb376,3,none⟩=some (.int .i64 a1_3)∧w'.cell? ⟨gb376,4,none⟩=some (.int .i64 a1_4)∧w'.cell? ⟨gb376,5,none⟩=some (.int .i64 a1_5)∧w'.cell? ⟨gb376,6,none⟩=some (.int .i64 a1_6)∧w'.cell? ⟨gb376,7,none⟩=some (.int .i64 a1_7)∧w'.cell? ⟨gb376,8,none⟩=some (.int .i64 a1_8)∧w'.cell? ⟨gb376,9,none⟩=some (.string a1_9)) (ds:=[]) #[false,false,false,false,false,false,false,false,false,false,false,false] (by kernel_rfl) rfl rfl (cC10 BK376.out) (fun hHeld => ?_);refine with_tabW laws_FnExactTreeFor.tab10 laws_FnExactTreeFor.bits10 (fun HT_ HW_ => ?_)
    generalize w25.drew=w26 at BK376 HB hHeld ⊢
    refine pure_ (i:=0) (N:=some 33) (v:=?_) (a':=?_) #[true,false,false,false,false,false,false,false,false,false,false,false] rfl rfl (any_of HT_.out (by kernel_rfl)) (fun _ _ _ h=>h) (Or.inl ⟨by rfl,?_⟩) ?_ ?_
    rotate_left
    ·intro w'
     go_simp
     with_reducible rfl
    rotate_left
    ·simp only[Act.put,List.setIfInBounds_toArray,List.set_cons_zero,List.set_cons_succ,i64_w,i32_w]
     rfl
    refine pure_ (i:=4) (N:=some 37) (v:=?_) (a':=?_) #[true,false,false,false,true,false,false,false,false,false,false,false] rfl rfl (any_of HT_.out (by kernel_rfl)) (fun _ _ _ h=>h) (Or.inl ⟨by rfl,?_⟩) ?_ ?_
    rotate_left
    ·intro w'
     go_simp
     with_reducible rfl
    rotate_left
    ·simp only[Act.put,List.setIfInBounds_toArray,List.set_cons_zero,List.set_cons_succ,i64_w,i32_w]
     rfl
    refine take_ (i:=2) (N:=some 35) (v:=?_) (a':=?_) #[true,false,true,false,true,false,false,false,false,false,false,false] rfl rfl (take_ofW HT_.out HW_.out (by kernel_rfl)) (fun _ _ _ h=>h) (Or.inl ⟨by rfl,?_⟩) hHeld ?_ ?_
    rotate_left
    ·rintro w' ⟨s0,s1,s2,s3,s4,s5,s6,s7,s8,s9⟩
     go_simp
     with_reducible rfl
    rotate_left
    ·simp only[Act.put,List.setIfInBounds_toArray,List.set_cons_zero,List.set_cons_succ,i64_w,i32_w]
     rfl
    refine one_ (i:=1) (N:=some 34) #[true,true,true,false,true,false,false,false,false,false,false,false] rfl rfl (one_of HT_.out (by kernel_rfl)) (by decide) (fun K hK => ?_)
    refine goes_ Try.func50 (by kernel_rfl) rfl #[.slice A0 l0.length c0] (by rfl) rfl rfl (by(try simp only[List.map_toArray,List.map_cons,List.map_nil]);first|done|rfl|(simp only[List.length_drop,List.length_take];rfl)) ?_
    with_reducible refine(laws_toContactS.calls k _ _ l0 t379 _ ?side1 ?side2 A14.out).mono ?_
    (case side1=>exact bC HR0.out)
    (case side2=>exact HC0.out)
    rintro e w27 ⟨v380,rfl,ho0,hb⟩
    refine⟨_,rfl,?_⟩
    have n0_:=Aside0.mk (Kd.R_lower ho0 (below_size (bS GE376.out)))
    have n1_:=Aside0.mk (bM BK376.out hb)
    have n2_:=Aside0.mk (below_step (bS GE376.out) hb)
    clear BK376 HB
    have HO381:=n0_
    have BK376:=n1_
    have HB:=n2_
    clear n0_ n1_ n2_
    (try clear hb)
    (try clear hb2)
    (try clear hk)
    (try clear hi)
    (try clear ho0)
    refine hK.out _ _ (cC10 BK376.out) (fun hHeld => ?_)
    clear hK K
    refine norm_ (a':=?_) ?_ ?_
    rotate_left
    ·show Act.put _ (some 34) _=_
     simp only[Act.put,List.setIfInBounds_toArray,List.set_cons_zero,List.set_cons_succ,i64_w,i32_w]
     rfl
    refine one_ (i:=3) (N:=some 36) #[true,true,true,true,true,false,false,false,false,false,false,false] rfl rfl (one_of HT_.out (by kernel_rfl)) (by decide) (fun K hK => ?_)
    refine goes_ Try.func51 (by kernel_rfl) rfl #[.agg #[.int .i64 a1_0,.int .i64 a1_1,.bool a1_2,.int .i64 a1_3,.int .i64 a1_4,.int .i64 a1_5,.int .i64 a1_6,.int .i64 a1_7,.int .i64 a1_8,.string a1_9]] (by rfl) rfl rfl (by(try simp only[List.map_toArray,List.map_cons,List.map_nil]);first|done|rfl|(simp only[List.length_drop,List.length_take];rfl)) ?_
    with_reducible refine(laws_toBundle.calls a1_0 a1_1 a1_2 a1_3 a1_4 a1_5 a1_6 a1_7 a1_8 a1_9 t382 t383 t384 t385 t386 t387 t388 t389 t390 t391 _ A15.out).mono ?_
    rintro e w28 ⟨rfl,hb⟩
    refine⟨_,rfl,?_⟩
    have n0_:=Aside0.mk (Kd.R_below (bK HO381.out) hb)
    have n1_:=Aside0.mk (bM BK376.out hb)
    have n2_:=Aside0.mk (below_step (bS GE376.out) hb)
    clear HO381 BK376 HB
    have HO381:=n0_
    have BK376:=n1_
    have HB:=n2_
    clear n0_ n1_ n2_
    (try clear hb)
    (try clear hb2)
    (try clear hk)
    (try clear hi)
    refine hK.out _ _ (cC10 BK376.out) (fun hHeld => ?_)
    clear hK K
    refine norm_ (a':=?_) ?_ ?_
    rotate_left
    ·show Act.put _ (some 36) _=_
     simp only[Act.put,List.setIfInBounds_toArray,List.set_cons_zero,List.set_cons_succ,i64_w,i32_w]
     rfl
    refine one_ (i:=5) (N:=some 38) #[true,true,true,true,true,true,false,false,false,false,false,false] rfl rfl (one_of HT_.out (by kernel_rfl)) (by decide) (fun K hK => ?_)
    refine goes_ Try.func52 (by kernel_rfl) rfl #[.slice A2 l2.length c2] (by rfl) rfl rfl (by(try simp only[List.map_toArray,List.map_cons,List.map_nil]);first|done|rfl|(simp only[List.length_drop,List.length_take];rfl)) ?_
    with_reducible refine(laws_toIntS.calls k _ _ l2 t392 _ ?side1 ?side2 A16.out).mono ?_
    (case side1=>exact bC HR2.out)
    (case side2=>exact HC2.out)
    rintro e w29 ⟨v393,rfl,ho0,hb⟩
    refine⟨_,rfl,?_⟩
    have n0_:=Aside0.mk (Kd.R_below (bK HO381.out) hb)
    have n1_:=Aside0.mk (Kd.R_lower ho0 (below_size (bS GE376.out)))
    have n2_:=Aside0.mk (bM BK376.out hb)
    have n3_:=Aside0.mk (below_step (bS GE376.out) hb)
    clear HO381 BK376 HB
    have HO381:=n0_
    have HO394:=n1_
    have BK376:=n2_
    have HB:=n3_
    clear n0_ n1_ n2_ n3_
    (try clear hb)
    (try clear hb2)
    (try clear hk)
    (try clear hi)
    (try clear ho0)
    obtain⟨Ao30,co30,eo30⟩:=Kd.R_slice HO381.out
    (first|subst eo30|(injection eo30 with f1_ f2_ f3_;have f4_:=f1_.symm;have f5_:=f3_.symm;clear f1_ f2_ f3_;subst f4_;subst f5_))
    obtain⟨Ao31,co31,eo31⟩:=Kd.R_slice HO394.out
    (first|subst eo31|(injection eo31 with f1_ f2_ f3_;have f4_:=f1_.symm;have f5_:=f3_.symm;clear f1_ f2_ f3_;subst f4_;subst f5_))
    refine hK.out _ _ (cC10 BK376.out) (fun hHeld => ?_)
    clear hK K
    refine norm_ (a':=?_) ?_ ?_
    rotate_left
    ·show Act.put _ (some 38) _=_
     simp only[Act.put,List.setIfInBounds_toArray,List.set_cons_zero,List.set_cons_succ,i64_w,i32_w]
     rfl
    refine one_ (i:=6) (N:=some 39) #[true,true,true,true,true,true,true,false,false,false,false,false] rfl rfl (one_of HT_.out (by kernel_rfl)) (by decide) (fun K hK => ?_)
    refine goes_ Try.func49 (by kernel_rfl) rfl #[.slice Ao30 t379.length co30,.agg #[.int .i64 t382,.int .i64 t383,.bool t384,.int .i64 t385,.int .i64 t386,.int .i64 t387,.int .i64 t388,.int .i64 t389,.int .i64 t390,.string t391],.slice Ao31 t392.length co31] (by rfl) rfl rfl (by(try simp only[List.map_toArray,List.map_cons,List.map_nil]);first|done|rfl|(simp only[List.length_drop,List.length_take];rfl)) ?_
    with_reducible refine(spec_TreeFor.calls k _ _ t379 t382 t383 t384 t385 t386 t387 t388 t389 t390 t391 _ _ t392 t395 t398 _ ?side1 ?side2 ?side3 ?side4 A17.out).mono ?_
    (case side1=>exact bT HO381.out)
    (case side2=>exact(Kd.R_reads' HO381.out).2.1)
    (case side3=>exact bT HO394.out)
    (case side4=>exact(Kd.R_reads' HO394.out).2.1)
    rintro e w32 ⟨v396,rfl,ho0,hb⟩
    refine⟨_,rfl,?_⟩
    have n0_:=Aside0.mk (Kd.R_below (bK HO381.out) hb)
    have n1_:=Aside0.mk (Kd.R_elder' (bK HO394.out) (Kd.R_base ho0) hb)
    have n2_:=Aside0.mk (Kd.R_lower (Kd.R_new' ho0 (Kd.R_lt (bK HO394.out))) (below_size (bS GE376.out)))
    have n3_:=Aside0.mk (bM BK376.out hb)
    have n4_:=Aside0.mk (below_step (bS GE376.out) hb)
    clear HO381 HO394 BK376 HB
    have HO381:=n0_
    have HO394:=n1_
    have HO397:=n2_
    have BK376:=n3_
    have HB:=n4_
    clear n0_ n1_ n2_ n3_ n4_
    (try clear hb)
    (try clear hb2)
    (try clear hk)
    (try clear hi)
    (try clear ho0)
    refine hK.out _ _ (cC10 BK376.out) (fun hHeld => ?_)
    clear hK K
    refine norm_ (a':=?_) ?_ ?_
    rotate_left
    ·show Act.put _ (some 39) _=_
     simp only[Act.put,List.setIfInBounds_toArray,List.set_cons_zero,List.set_cons_succ,i64_w,i32_w]
     rfl
    refine pure_ (i:=7) (N:=some 32) (v:=?_) (a':=?_) #[true,true,true,true,true,true,true,true,false,false,false,false] rfl rfl (any_of HT_.out (by kernel_rfl)) (fun _ _ _ h=>h) (Or.inl ⟨by rfl,?_⟩) ?_ ?_
    rotate_left
    ·intro w'
     go_simp
     with_reducible rfl
    rotate_left
    ·simp only[Act.put,List.setIfInBounds_toArray,List.set_cons_zero,List.set_cons_succ,i64_w,i32_w]
     rfl
    refine pure_ (i:=8) (N:=some 40) (v:=?_) (a':=?_) #[true,true,true,true,true,true,true,true,true,false,false,false] rfl rfl (any_of HT_.out (by kernel_rfl)) (fun _ _ _ h=>h) (Or.inl ⟨by rfl,?_⟩) ?_ ?_
    rotate_left
    ·intro w'
     go_simp
     with_reducible rfl
    rotate_left
    ·simp only[Act.put,List.setIfInBounds_toArray,List.set_cons_zero,List.set_cons_succ,i64_w,i32_w]
     rfl
    refine pure_ (i:=9) (N:=some 41) (v:=?_) (a':=?_) #[true,true,true,true,true,true,true,true,true,true,false,false] rfl rfl (any_of HT_.out (by kernel_rfl)) (fun _ _ _ h=>h) (Or.inl ⟨by rfl,?_⟩) ?_ ?_
    rotate_left
    ·intro w'
     go_simp
     with_reducible rfl
    rotate_left
    ·simp only[Act.put,List.setIfInBounds_toArray,List.set_cons_zero,List.set_cons_succ,i64_w,i32_w]
     rfl
    refine pure_ (i:=10) (N:=some 8) (v:=?_) (a':=?_) #[true,true,true,true,true,true,true,true,true,true,true,false] rfl rfl (any_of HT_.out (by kernel_rfl)) (fun _ _ _ h=>h) (Or.inl ⟨by rfl,?_⟩) ?_ ?_
    rotate_left
    ·intro w'
     go_simp
     with_reducible rfl
    rotate_left
    ·simp only[Act.put,List.setIfInBounds_toArray,List.set_cons_zero,List.set_cons_succ,i64_w,i32_w]
     rfl
    refine pure_ (i:=11) (N:=some 9) (v:=?_) (a':=?_) #[true,true,true,true,true,true,true,true,true,true,true,true] rfl rfl (any_of HT_.out (by kernel_rfl)) (fun _ _ _ h=>h) (Or.inl ⟨by rfl,?_⟩) ?_ ?_
    rotate_left
    ·intro w'
     go_simp
     with_reducible rfl
    rotate_left
    ·simp only[Act.put,List.setIfInBounds_toArray,List.set_cons_zero,List.set_cons_succ,i64_w,i32_w]
     rfl
    refine done_ (done_of HT_.out (by kernel_rfl)) ?_
    go_upto_region 14 with (first|((with_reducible refine gate_callee (f:=50) rfl ?_);refine goesA (some 43) rfl rfl Try.func50 #[.slice A0 l0.length c0] rfl ?_;(with_reducible refine(laws_toContactS.calls k _ _ l0 t399 _ ?side1 ?side2 A18.out).mono ?_);(case side1=>exact bC HR0.out);(case side2=>exact HC0.out);rintro e w33 ⟨v400,rfl,ho0,hb⟩;refine⟨_,rfl,?_⟩;have n0_:=Aside0.mk (Kd.R_elder' (bK HO381.out) (Kd.R_base ho0) hb);have n1_:=Aside0.mk (Kd.R_below (bK HO394.out) hb);have n2_:=Aside0.mk (Kd.R_below (bK HO397.out) hb);have n3_:=Aside0.mk (Kd.R_lower (Kd.R_new' ho0 (Kd.R_lt (bK HO381.out))) (below_size (bS GE376.out)));have n4_:=Aside0.mk (bM BK376.out hb);have n5_:=Aside0.mk (below_step (bS GE376.out) hb);clear HO381 HO394 HO397 BK376 HB;have HO381:=n0_;have HO394:=n1_;have HO397:=n2_;have HO401:=n3_;have BK376:=n4_;have HB:=n5_;clear n0_ n1_ n2_ n3_ n4_ n5_;(try clear hb);(try clear hb2);(try clear hk);(try clear hi);(try clear ho0))|((with_reducible refine gate_callee (f:=52) rfl ?_);refine goesA (some 45) rfl rfl Try.func52 #[.slice A2 l2.length c2] rfl ?_;(with_reducible refine(laws_toIntS.calls k _ _ l2 t402 _ ?side1 ?side2 A19.out).mono ?_);(case side1=>exact bC HR2.out);(case side2=>exact HC2.out);rintro e w34 ⟨v403,rfl,ho0,hb⟩;refine⟨_,rfl,?_⟩;have n0_:=Aside0.mk (Kd.R_below (bK HO381.out) hb);have n1_:=Aside0.mk (Kd.R_elder' (bK HO394.out) (Kd.R_base ho0) hb);have n2_:=Aside0.mk (Kd.R_elder' (bK HO397.out) (Kd.R_base ho0) hb);have n3_:=Aside0.mk (Kd.R_below (bK HO401.out) hb);have n4_:=Aside0.mk (Kd.R_lower (Kd.R_new' (Kd.R_new' ho0 (Kd.R_lt (bK HO394.out))) (Kd.R_lt (bK HO397.out))) (below_size (bS GE376.out)));have n5_:=Aside0.mk (bM BK376.out hb);have n6_:=Aside0.mk (below_step (bS GE376.out) hb);clear HO381 HO394 HO397 HO401 BK376 HB;have HO381:=n0_;have HO394:=n1_;have HO397:=n2_;have HO401:=n3_;have HO404:=n4_;have BK376:=n5_;have HB:=n6_;clear n0_ n1_ n2_ n3_ n4_ n5_ n6_;(try clear hb);(try clear hb2);(try clear hk);(try clear hi);(try clear ho0);obtain⟨hcz35_0,hcz35_1,hcz35_2,hcz35_3,hcz35_4,hcz35_5,hcz35_6,hcz35_7,hcz35_8,hcz35_9⟩:=cC10 BK376.out;obtain⟨hfz35_0,hfz35_1,hfz35_2,hfz35_3,hfz35_4,hfz35_5,hfz35_6,hfz35_7,hfz35_8,hfz35_9⟩:=cF10 BK376.out)|((with_reducible refine gate_callee (f:=51) rfl ?_);refine goesA (some 49) rfl rfl Try.func51 #[.agg #[.int .i64 a1_0,.int .i64 a1_1,.bool a1_2,.int .i64 a1_3,.int .i64 a1_4,.int .i64 a1_5,.int .i64 a1_6,.int .i64 a1_7,.int .i64 a1_8,.string a1_9]] rfl ?_;(with_reducible refine(laws_toBundle.calls a1_0 a1_1 a1_2 a1_3 a1_4 a1_5 a1_6 a1_7 a1_8 a1_9 t405 t406 t407 t408 t409 t410 t411 t412 t413 t414 _ A20.out).mono ?_);rintro e w36 ⟨rfl,hb⟩;refine⟨_,rfl,?_⟩;have n0_:=Aside0.mk (Kd.R_below (bK HO381.out) hb);have n1_:=Aside0.mk (Kd.R_below (bK HO394.out) hb);have n2_:=Aside0.mk (Kd.R_below (bK HO397.out) hb);have n3_:=Aside0.mk (Kd.R_below (bK HO401.out) hb);have n4_:=Aside0.mk (Kd.R_below (bK HO404.out) hb);have n5_:=Aside0.mk (bM BK376.out hb);have n6_:=Aside0.mk (below_step (bS GE376.out) hb);clear HO381 HO394 HO397 HO401 HO404 BK376 HB;have HO381:=n0_;have HO394:=n1_;have HO397:=n2_;have HO401:=n3_;have HO404:=n4_;have BK376:=n5_;have HB:=n6_;clear n0_ n1_ n2_ n3_ n4_ n5_ n6_;(try clear hb);(try clear hb2);(try clear hk);(try clear hi);obtain⟨Ao37,co37,eo37⟩:=Kd.R_slice HO401.out;subst eo37;obtain⟨Ao38,co38,eo38⟩:=Kd.R_slice HO404.out;subst eo38)|((with_reducible refine gate_callee (f:=53) rfl ?_);refine goesA (some 51) rfl rfl Try.func53 #[.slice Ao37 t399.length co37,.agg #[.int .i64 t405,.int .i64 t406,.bool t407,.int .i64 t408,.int .i64 t409,.int .i64 t410,.int .i64 t411,.int .i64 t412,.int .i64 t413,.string t414],.slice Ao38 t402.length co38] rfl ?_;(with_reducible refine(impl_TreeFor.calls k _ _ t399 t405 t406 t407 t408 t409 t410 t411 t412 t413 t414 _ _ t402 t415 t418 _ ?side1 ?side2 ?side3 ?side4 A21.out).mono ?_);(case side1=>exact bT HO401.out);(case side2=>exact(Kd.R_reads' HO401.out).2.1);(case side3=>exact bT HO404.out);(case side4=>exact(Kd.R_reads' HO404.out).2.1);rintro e w39 ⟨v416,rfl,ho0,hb⟩;refine⟨_,rfl,?_⟩;have n0_:=Aside0.mk (Kd.R_below (bK HO381.out) hb);have n1_:=Aside0.mk (Kd.R_elder' (bK HO394.out) (Kd.R_base ho0) hb);have n2_:=Aside0.mk (Kd.R_elder' (bK HO397.out) (Kd.R_base ho0) hb);have n3_:=Aside0.mk (Kd.R_below (bK HO401.out) hb);have n4_:=Aside0.mk (Kd.R_elder' (bK HO404.out) (Kd.R_base ho0) hb);have n5_:=Aside0.mk (Kd.R_lower (Kd.R_new' (Kd.R_new' (Kd.R_new' ho0 (Kd.R_lt (bK HO394.out))) (Kd.R_lt (bK HO397.out))) (Kd.R_lt (bK HO404.out))) (below_size (bS GE376.out)));have n6_:=Aside0.mk (bM BK376.out hb);have n7_:=Aside0.mk (below_step (bS GE376.out) hb);clear HO381 HO394 HO397 HO401 HO404 BK376 HB;have HO381:=n0_;have HO394:=n1_;have HO397:=n2_;have HO401:=n3_;have HO404:=n4_;have HO417:=n5_;have BK376:=n6_;have HB:=n7_;clear n0_ n1_ n2_ n3_ n4_ n5_ n6_ n7_;(try clear hb);(try clear hb2);(try clear hk);(try clear hi);(try clear ho0)))
    (try simp only[Act.put,List.setIfInBounds_toArray,List.set_cons_zero,List.set_cons_succ])
    go_cut [62] (fun v62 wc => ∃ (kq:Nat) (x62_21:Bool),v62=.bool x62_21∧Aside0 (laws_FnExactTreeFor.j0 kq l0 l2 t395 t398 t399 t402 t415 t418 x62_21 a1_0 a1_1 a1_2 a1_3 a1_4 a1_5 a1_6 a1_7 a1_8 a1_9=some r)∧Aside0 (kq≤k)∧Aside0 (Kd.R (Kd.int .i64) 3 wc w.heap.size (fun k_=>some k_≠((.slice Ao38 t402.length co38):Value).ownBlock∧some k_≠(v416:Value).ownBlock) v396 t395)∧Aside0 (Kd.R k165 165 wc w.heap.size (fun _=>True) (.slice Ao37 t399.length co37) t399)∧Aside0 (Kd.R (Kd.int .i64) 3 wc w.heap.size (fun k_=>some k_≠(v396:Value).ownBlock∧some k_≠(v416:Value).ownBlock) (.slice Ao38 t402.length co38) t402)∧Aside0 (Kd.R (Kd.int .i64) 3 wc w.heap.size (fun k_=>some k_≠(v396:Value).ownBlock∧some k_≠((.slice Ao38 t402.length co38):Value).ownBlock) v416 t415)∧Aside0 (wc.heap[gb376]?=some (.cells #[.int .i64 a1_0,.int .i64 a1_1,.bool a1_2,.int .i64 a1_3,.int .i64 a1_4,.int .i64 a1_5,.int .i64 a1_6,.int .i64 a1_7,.int .i64 a1_8,.string a1_9] 73 (0,0)))∧Aside0 (Below w.heap.size w wc))
    case first =>
     have H:=HC22.out
     clear HC22
     replace H:=Option.bind_eq_some_iff.mp H
     obtain⟨t419,A400,H⟩:=H
     have A40:=Aside0.mk A400
     clear A400
     by_cases c41:t419=true
     ·subst c41
      have H1:(laws_FnExactTreeFor.j0 k l0 l2 t395 t398 t399 t402 t415 t418 (t418 != t398) a1_0 a1_1 a1_2 a1_3 a1_4 a1_5 a1_6 a1_7 a1_8 a1_9)=some r:=by rw[if_pos rfl] at H;exact H
      clear H
      have H:=H1
      clear H1
      have H':=Aside0.mk H
      clear H
      obtain⟨Ao42,co42,eo42⟩:=Kd.R_slice HO417.out
      subst eo42
      obtain⟨Ao43,co43,eo43⟩:=Kd.R_slice HO397.out
      subst eo43
      go_wp2_with (first|((with_reducible refine gate_callee (f:=54) rfl ?_);refine goesA (some 56) rfl rfl Try.func54 #[.slice Ao42 t415.length co42,.slice Ao43 t395.length co43] rfl ?_;(with_reducible refine(laws_eqIntS.calls k _ _ t415 _ _ t395 true _ ?side1 ?side2 ?side3 ?side4 A40.out).mono ?_);(case side1=>exact bT HO417.out);(case side2=>exact(Kd.R_reads' HO417.out).2.1);(case side3=>exact bT HO397.out);(case side4=>exact(Kd.R_reads' HO397.out).2.1);rintro e w' ⟨rfl,⟨nd,rfl⟩⟩;refine⟨_,rfl,?_⟩))
      go_meet
      case rel=>exact⟨_,((t418 != t398)),(bR),H',⟨by first|omega|exact Nat.le_refl _⟩,⟨by(with_reducible repeat (first|apply Kd.R_alloc|apply Kd.R_drewN|apply Kd.R_drew));exact Kd.R_mono HO397.out (fun _ hk=>⟨hk.1.2,hk.2⟩)⟩,⟨by(with_reducible repeat (first|apply Kd.R_alloc|apply Kd.R_drewN|apply Kd.R_drew));exact Kd.R_mono HO401.out (fun _ hk=>trivial)⟩,⟨by(with_reducible repeat (first|apply Kd.R_alloc|apply Kd.R_drewN|apply Kd.R_drew));exact Kd.R_mono HO404.out (fun _ hk=>⟨hk.1.2,hk.2⟩)⟩,⟨by(with_reducible repeat (first|apply Kd.R_alloc|apply Kd.R_drewN|apply Kd.R_drew));exact Kd.R_mono HO417.out (fun _ hk=>⟨hk.1.2,hk.2⟩)⟩,⟨by(with_reducible repeat (first|refine blk_drewN ?_ _|refine blk_drew ?_|refine blk_alloc ?_ _));exact BK376.out⟩,⟨bS GE376.out⟩⟩
     ·replace c41:=Bool.eq_false_iff.mpr c41
      subst c41
      have H1:(laws_FnExactTreeFor.j0 k l0 l2 t395 t398 t399 t402 t415 t418 true a1_0 a1_1 a1_2 a1_3 a1_4 a1_5 a1_6 a1_7 a1_8 a1_9)=some r:=by rw[if_neg (show ¬ (false=true) by decide)] at H;exact H
      clear H
      have H:=H1
      clear H1
      have H':=Aside0.mk H
      clear H
      obtain⟨Ao44,co44,eo44⟩:=Kd.R_slice HO417.out
      subst eo44
      obtain⟨Ao45,co45,eo45⟩:=Kd.R_slice HO397.out
      subst eo45
      go_wp2_with (first|((with_reducible refine gate_callee (f:=54) rfl ?_);refine goesA (some 56) rfl rfl Try.func54 #[.slice Ao44 t415.length co44,.slice Ao45 t395.length co45] rfl ?_;(with_reducible refine(laws_eqIntS.calls k _ _ t415 _ _ t395 false _ ?side1 ?side2 ?side3 ?side4 A40.out).mono ?_);(case side1=>exact bT HO417.out);(case side2=>exact(Kd.R_reads' HO417.out).2.1);(case side3=>exact bT HO397.out);(case side4=>exact(Kd.R_reads' HO397.out).2.1);rintro e w' ⟨rfl,⟨nd,rfl⟩⟩;refine⟨_,rfl,?_⟩))
      go_meet
      case rel=>exact⟨_,(true),(bR),H',⟨by first|omega|exact Nat.le_refl _⟩,⟨by(with_reducible repeat (first|apply Kd.R_alloc|apply Kd.R_drewN|apply Kd.R_drew));exact Kd.R_mono HO397.out (fun _ hk=>⟨hk.1.2,hk.2⟩)⟩,⟨by(with_reducible repeat (first|apply Kd.R_alloc|apply Kd.R_drewN|apply Kd.R_drew));exact Kd.R_mono HO401.out (fun _ hk=>trivial)⟩,⟨by(with_reducible repeat (first|apply Kd.R_alloc|apply Kd.R_drewN|apply Kd.R_drew));exact Kd.R_mono HO404.out (fun _ hk=>⟨hk.1.2,hk.2⟩)⟩,⟨by(with_reducible repeat (first|apply Kd.R_alloc|apply Kd.R_drewN|apply Kd.R_drew));exact Kd.R_mono HO417.out (fun _ hk=>⟨hk.1.2,hk.2⟩)⟩,⟨by(with_reducible repeat (first|refine blk_drewN ?_ _|refine blk_drew ?_|refine blk_alloc ?_ _));exact BK376.out⟩,⟨bS GE376.out⟩⟩
    case rest =>
     clear HC22
     try clear c1
     try clear c2
     try clear p2
     try clear c4
     try clear c4b0
     try clear c4b1
     try clear c5
     try clear c7
     try clear c7b0
     try clear c8
     try clear c10
     try clear c10b0
     try clear c41
     try clear hcz12_0 hcz12_1 hcz12_2 hcz12_3 hcz12_4 hcz12_5 hcz12_6 hcz12_7 hcz12_8 hcz12_9
     try clear hcz24_0 hcz24_1 hcz24_2 hcz24_3 hcz24_4 hcz24_5 hcz24_6 hcz24_7 hcz24_8 hcz24_9
     try clear hcz35_0 hcz35_1 hcz35_2 hcz35_3 hcz35_4 hcz35_5 hcz35_6 hcz35_7 hcz35_8 hcz35_9
     try clear hfz12_0 hfz12_1 hfz12_2 hfz12_3 hfz12_4 hfz12_5 hfz12_6 hfz12_7 hfz12_8 hfz12_9
     try clear hfz24_0 hfz24_1 hfz24_2 hfz24_3 hfz24_4 hfz24_5 hfz24_6 hfz24_7 hfz24_8 hfz24_9
     try clear hfz35_0 hfz35_1 hfz35_2 hfz35_3 hfz35_4 hfz35_5 hfz35_6 hfz35_7 hfz35_8 hfz35_9
     obtain⟨kq,x62_21,rfl,HA,HJ21,HO_8,HO_10,HO_11,HO_12,BK376,HB⟩:=hcut
     cases kq with
     | zero=>exact absurd HA.out (by simp[laws_FnExactTreeFor.j0])
     | succ kj21 =>
      have H:=HA.out
      clear HA
      simp only[laws_FnExactTreeFor.j0] at H
      by_cases c46:x62_21=true
      ·subst c46
       have H1:(some false)=some r:=by rw[if_pos rfl] at H;exact H
       clear H
       have H:=H1
       clear H1
       obtain rfl:=Option.some.inj H
       go_wp2
       go_ret
       exact⟨bE,bS GE376.out⟩
      ·replace c46:=Bool.eq_false_iff.mpr c46
       subst c46
       have H1:((laws_toContactS.f kj21 l0).bind fun t420=>((laws_eqContactS.f kj21 t399 t420).bind fun t423=>(if t423=true then ((laws_toIntS.f kj21 l2).bind fun t424=>((laws_eqIntS.f kj21 t402 t424).bind fun t427=>(if t427=true then ((laws_markContactS.f kj21 t399 1).bind fun bt428=>((laws_markIntS.f kj21 t402 bt428.1).bind fun bt430=>(if bt430.1 < 0 then (laws_FnExactTreeFor.j1 kj21 l0 l2 t395 t398 t415 true a1_0 a1_1 a1_2 a1_3 a1_4 a1_5 a1_6 a1_7 a1_8 a1_9) else ((laws_eqIntS.f kj21 t415 t395).bind fun t432=>(if t432=true then (laws_FnExactTreeFor.j1 kj21 l0 l2 t395 t398 t415 (t418 != t398) a1_0 a1_1 a1_2 a1_3 a1_4 a1_5 a1_6 a1_7 a1_8 a1_9) else (laws_FnExactTreeFor.j1 kj21 l0 l2 t395 t398 t415 true a1_0 a1_1 a1_2 a1_3 a1_4 a1_5 a1_6 a1_7 a1_8 a1_9)))))) else (some false)))) else (some false))))=some r:=by rw[if_neg (show ¬ (false=true) by decide)] at H;exact H
       clear H
       have H:=H1
       clear H1
       replace H:=Option.bind_eq_some_iff.mp H
       obtain⟨t420,A470,H⟩:=H
       have A47:=Aside0.mk A470
       clear A470
       replace H:=Option.bind_eq_some_iff.mp H
       obtain⟨t423,A480,H⟩:=H
       have A48:=Aside0.mk A480
       clear A480
       by_cases c49:t423=true
       ·subst c49
        have H1:((laws_toIntS.f kj21 l2).bind fun t424=>((laws_eqIntS.f kj21 t402 t424).bind fun t427=>(if t427=true then ((laws_markContactS.f kj21 t399 1).bind fun bt428=>((laws_markIntS.f kj21 t402 bt428.1).bind fun bt430=>(if bt430.1 < 0 then (laws_FnExactTreeFor.j1 kj21 l0 l2 t395 t398 t415 true a1_0 a1_1 a1_2 a1_3 a1_4 a1_5 a1_6 a1_7 a1_8 a1_9) else ((laws_eqIntS.f kj21 t415 t395).bind fun t432=>(if t432=true then (laws_FnExactTreeFor.j1 kj21 l0 l2 t395 t398 t415 (t418 != t398) a1_0 a1_1 a1_2 a1_3 a1_4 a1_5 a1_6 a1_7 a1_8 a1_9) else (laws_FnExactTreeFor.j1 kj21 l0 l2 t395 t398 t415 true a1_0 a1_1 a1_2 a1_3 a1_4 a1_5 a1_6 a1_7 a1_8 a1_9)))))) else (some false))))=some r:=by rw[if_pos rfl] at H;exact H
        clear H
        have H:=H1
        clear H1
        replace H:=Option.bind_eq_some_iff.mp H
        obtain⟨t424,A500,H⟩:=H
        have A50:=Aside0.mk A500
        clear A500
        replace H:=Option.bind_eq_some_iff.mp H
        obtain⟨t427,A510,H⟩:=H
        have A51:=Aside0.mk A510
        clear A510
        by_cases c52:t427=true
        ·subst c52
         have H1:((laws_markContactS.f kj21 t399 1).bind fun bt428=>((laws_markIntS.f kj21 t402 bt428.1).bind fun bt430=>(if bt430.1 < 0 then (laws_FnExactTreeFor.j1 kj21 l0 l2 t395 t398 t415 true a1_0 a1_1 a1_2 a1_3 a1_4 a1_5 a1_6 a1_7 a1_8 a1_9) else ((laws_eqIntS.f kj21 t415 t395).bind fun t432=>(if t432=true then (laws_FnExactTreeFor.j1 kj21 l0 l2 t395 t398 t415 (t418 != t398) a1_0 a1_1 a1_2 a1_3 a1_4 a1_5 a1_6 a1_7 a1_8 a1_9) else (laws_FnExactTreeFor.j1 kj21 l0 l2 t395 t398 t415 true a1_0 a1_1 a1_2 a1_3 a1_4 a1_5 a1_6 a1_7 a1_8 a1_9))))))=some r:=by rw[if_pos rfl] at H;exact H
         clear H
         have H:=H1
         clear H1
         replace H:=Option.bind_eq_some_iff.mp H
         obtain⟨⟨t428,t429⟩,A530,H⟩:=H
         have A53:=Aside0.mk A530
         clear A530
         replace H:=Option.bind_eq_some_iff.mp H
         obtain⟨⟨t430,t431⟩,A540,H⟩:=H
         have A54:=Aside0.mk A540
         clear A540
         have HC55:=Aside0.mk H
         clear H
         go_upto_region 23 with (first|((with_reducible refine gate_callee (f:=50) rfl ?_);refine goesA (some 65) rfl rfl Try.func50 #[.slice A0 l0.length c0] rfl ?_;(with_reducible refine(laws_toContactS.calls kj21 _ _ l0 t420 _ ?side1 ?side2 A47.out).mono ?_);(case side1=>exact bC HR0.out);(case side2=>exact HC0.out);rintro e w56 ⟨v421,rfl,ho0,hb⟩;refine⟨_,rfl,?_⟩;have n0_:=Aside0.mk (Kd.R_below (bK HO_8.out) hb);have n1_:=Aside0.mk (Kd.R_elder' (bK HO_10.out) (Kd.R_base ho0) hb);have n2_:=Aside0.mk (Kd.R_below (bK HO_11.out) hb);have n3_:=Aside0.mk (Kd.R_below (bK HO_12.out) hb);have n4_:=Aside0.mk (Kd.R_lower (Kd.R_new' ho0 (Kd.R_lt (bK HO_10.out))) (below_size (bS GE376.out)));have n5_:=Aside0.mk (bM BK376.out hb);have n6_:=Aside0.mk (below_step (bS GE376.out) hb);clear HO_8 HO_10 HO_11 HO_12 BK376 HB;have HO_8:=n0_;have HO_10:=n1_;have HO_11:=n2_;have HO_12:=n3_;have HO422:=n4_;have BK376:=n5_;have HB:=n6_;clear n0_ n1_ n2_ n3_ n4_ n5_ n6_;(try clear hb);(try clear hb2);(try clear hk);(try clear hi);(try clear ho0);obtain⟨Ao57,co57,eo57⟩:=Kd.R_slice HO422.out;subst eo57)|((with_reducible refine gate_callee (f:=55) rfl ?_);refine goesA (some 66) rfl rfl Try.func55 #[.slice Ao37 t399.length co37,.slice Ao57 t420.length co57] rfl ?_;(with_reducible refine(laws_eqContactS.calls kj21 _ _ t399 _ _ t420 true _ ?side1 ?side2 ?side3 ?side4 A48.out).mono ?_);(case side1=>exact bT HO_10.out);(case side2=>exact(Kd.R_reads' HO_10.out).2.1);(case side3=>exact bT HO422.out);(case side4=>exact(Kd.R_reads' HO422.out).2.1);rintro e w58 ⟨rfl,hb⟩;refine⟨_,rfl,?_⟩;have n0_:=Aside0.mk (Kd.R_below (bK HO_8.out) hb);have n1_:=Aside0.mk (Kd.R_below (bK HO_10.out) hb);have n2_:=Aside0.mk (Kd.R_below (bK HO_11.out) hb);have n3_:=Aside0.mk (Kd.R_below (bK HO_12.out) hb);have n4_:=Aside0.mk (Kd.R_below (bK HO422.out) hb);have n5_:=Aside0.mk (bM BK376.out hb);have n6_:=Aside0.mk (below_step (bS GE376.out) hb);clear HO_8 HO_10 HO_11 HO_12 HO422 BK376 HB;have HO_8:=n0_;have HO_10:=n1_;have HO_11:=n2_;have HO_12:=n3_;have HO422:=n4_;have BK376:=n5_;have HB:=n6_;clear n0_ n1_ n2_ n3_ n4_ n5_ n6_;(try clear hb);(try clear hb2);(try clear hk);(try clear hi))|((with_reducible refine gate_callee (f:=52) rfl ?_);refine goesA (some 70) rfl rfl Try.func52 #[.slice A2 l2.length c2] rfl ?_;(with_reducible refine(laws_toIntS.calls kj21 _ _ l2 t424 _ ?side1 ?side2 A50.out).mono ?_);(case side1=>exact bC HR2.out);(case side2=>exact HC2.out);rintro e w59 ⟨v425,rfl,ho0,hb⟩;refine⟨_,rfl,?_⟩;have n0_:=Aside0.mk (Kd.R_elder' (bK HO_8.out) (Kd.R_base ho0) hb);have n1_:=Aside0.mk (Kd.R_below (bK HO_10.out) hb);have n2_:=Aside0.mk (Kd.R_elder' (bK HO_11.out) (Kd.R_base ho0) hb);have n3_:=Aside0.mk (Kd.R_elder' (bK HO_12.out) (Kd.R_base ho0) hb);have n4_:=Aside0.mk (Kd.R_below (bK HO422.out) hb);have n5_:=Aside0.mk (Kd.R_lower (Kd.R_new' (Kd.R_new' (Kd.R_new' ho0 (Kd.R_lt (bK HO_8.out))) (Kd.R_lt (bK HO_11.out))) (Kd.R_lt (bK HO_12.out))) (below_size (bS GE376.out)));have n6_:=Aside0.mk (bM BK376.out hb);have n7_:=Aside0.mk (below_step (bS GE376.out) hb);clear HO_8 HO_10 HO_11 HO_12 HO422 BK376 HB;have HO_8:=n0_;have HO_10:=n1_;have HO_11:=n2_;have HO_12:=n3_;have HO422:=n4_;have HO426:=n5_;have BK376:=n6_;have HB:=n7_;clear n0_ n1_ n2_ n3_ n4_ n5_ n6_ n7_;(try clear hb);(try clear hb2);(try clear hk);(try clear hi);(try clear ho0);obtain⟨Ao60,co60,eo60⟩:=Kd.R_slice HO426.out;subst eo60)|((with_reducible refine gate_callee (f:=54) rfl ?_);refine goesA (some 71) rfl rfl Try.func54 #[.slice Ao38 t402.length co38,.slice Ao60 t424.length co60] rfl ?_;(with_reducible refine(laws_eqIntS.calls kj21 _ _ t402 _ _ t424 true _ ?side1 ?side2 ?side3 ?side4 A51.out).mono ?_);(case side1=>exact bT HO_11.out);(case side2=>exact(Kd.R_reads' HO_11.out).2.1);(case side3=>exact bT HO426.out);(case side4=>exact(Kd.R_reads' HO426.out).2.1);rintro e w' ⟨rfl,⟨nd,rfl⟩⟩;refine⟨_,rfl,?_⟩)|((with_reducible refine gate_callee (f:=56) rfl ?_);refine goesA (some 75) rfl rfl Try.func56 #[.slice Ao37 t399.length co37,.int .i64 1] rfl ?_;(with_reducible refine(laws_markContactS.calls kj21 (fun k_=>some k_=(.slice Ao37 t399.length co37:Value).ownBlock) (.slice Ao37 t399.length co37) t399 1 t428 t429 w _ ?side1 ?side2 A53.out).mono ?_);(case side1=>repeat (first|(with_reducible first|exact HB.out|apply below_alloc|apply pw_below_drewN|apply below_drew1|refine below_set ?_ GE376.out)|exact HB.out));(case side2=>exact Kd.R_tight rfl HO_10.out);rintro e w61 ⟨rfl,hy0,hb,hkp⟩;refine⟨_,rfl,?_⟩;have n0_:=Aside0.mk (Kd.R_mono (ok':=fun k_=>some k_≠(.slice Ao38 t402.length co38:Value).ownBlock∧some k_≠(v416:Value).ownBlock∧some k_≠(.slice Ao60 t424.length co60:Value).ownBlock) (Kd.R_keptB ((Kd.R_apart' HO_8.out (Kd.R_typed HO_10.out) (by decide))) hkp (fun k_ hk_ hs_=>(hk_.2) hs_)) (fun k_ hk_=>⟨hk_.1.1.1.1,hk_.1.1.1.2,hk_.1.1.2⟩));have n1_:=Aside0.mk (Kd.R_reok rfl hy0 (fun k_ e_=>HO_10.out.1 k_ e_));have n2_:=Aside0.mk (Kd.R_mono (ok':=fun k_=>some k_≠(v396:Value).ownBlock∧some k_≠(v416:Value).ownBlock∧some k_≠(.slice Ao60 t424.length co60:Value).ownBlock) (Kd.R_keptB ((Kd.R_apart' HO_11.out (Kd.R_typed HO_10.out) (by decide))) hkp (fun k_ hk_ hs_=>(hk_.2) hs_)) (fun k_ hk_=>⟨hk_.1.1.1.1,hk_.1.1.1.2,hk_.1.1.2⟩));have n3_:=Aside0.mk (Kd.R_mono (ok':=fun k_=>some k_≠(v396:Value).ownBlock∧some k_≠(.slice Ao38 t402.length co38:Value).ownBlock∧some k_≠(.slice Ao60 t424.length co60:Value).ownBlock) (Kd.R_keptB ((Kd.R_apart' HO_12.out (Kd.R_typed HO_10.out) (by decide))) hkp (fun k_ hk_ hs_=>(hk_.2) hs_)) (fun k_ hk_=>⟨hk_.1.1.1.1,hk_.1.1.1.2,hk_.1.1.2⟩));have n4_:=Aside0.mk (blk_kept (bL BK376.out) hkp (fun hs_=>(fun e_=>(Kd.R_ne HO_10.out BK376.out (by decide)) e_) hs_));have n5_:=Aside0.mk (Kd.R_mono (ok':=fun k_=>some k_≠(.slice Ao37 t399.length co37:Value).ownBlock) (Kd.R_keptB (HO422.out) hkp (fun k_ hk_ hs_=>(hk_.2) hs_)) (fun k_ hk_=>hk_.1.2));have n6_:=Aside0.mk (Kd.R_mono (ok':=fun k_=>some k_≠(v396:Value).ownBlock∧some k_≠(.slice Ao38 t402.length co38:Value).ownBlock∧some k_≠(v416:Value).ownBlock) (Kd.R_keptB ((Kd.R_apart' HO426.out (Kd.R_typed HO_10.out) (by decide))) hkp (fun k_ hk_ hs_=>(hk_.2) hs_)) (fun k_ hk_=>⟨hk_.1.1.1.1.2,hk_.1.1.1.2,hk_.1.1.2⟩));have n7_:=Aside0.mk (hb);clear HO_8 HO_10 HO_11 HO_12 BK376 HO422 HO426 HB;have HO_8:=n0_;have HO_10:=n1_;have HO_11:=n2_;have HO_12:=n3_;have BK376:=n4_;have HO422:=n5_;have HO426:=n6_;have HB:=n7_;clear n0_ n1_ n2_ n3_ n4_ n5_ n6_ n7_;(try clear hb);(try clear hkp);(try clear hy0))|((with_reducible refine gate_callee (f:=57) rfl ?_);refine goesA (some 78) rfl rfl Try.func57 #[.slice Ao38 t402.length co38,.int .i64 t428] rfl ?_;(with_reducible refine(laws_markIntS.calls kj21 (fun k_=>some k_=(.slice Ao38 t402.length co38:Value).ownBlock) (.slice Ao38 t402.length co38) t402 t428 t430 t431 w _ ?side1 ?side2 A54.out).mono ?_);(case side1=>repeat (first|(with_reducible first|exact HB.out|apply below_alloc|apply pw_below_drewN|apply below_drew1|refine below_set ?_ GE376.out)|exact HB.out));(case side2=>exact Kd.R_tight rfl HO_11.out);rintro e w62 ⟨rfl,hy0,hb,hkp⟩;refine⟨_,rfl,?_⟩;have n0_:=Aside0.mk (Kd.R_mono (ok':=fun k_=>some k_≠(.slice Ao38 t402.length co38:Value).ownBlock∧some k_≠(v416:Value).ownBlock∧some k_≠(.slice Ao60 t424.length co60:Value).ownBlock) (Kd.R_keptB (HO_8.out) hkp (fun k_ hk_ hs_=>(hk_.1) hs_)) (fun k_ hk_=>⟨hk_.1.1,hk_.1.2.1,hk_.1.2.2⟩));have n1_:=Aside0.mk (Kd.R_mono (ok':=fun k_=>some k_≠(.slice Ao57 t420.length co57:Value).ownBlock) (Kd.R_keptB ((Kd.R_apart' HO_10.out (Kd.R_typed HO_11.out) (by decide))) hkp (fun k_ hk_ hs_=>(hk_.2) hs_)) (fun k_ hk_=>hk_.1.1.2));have n2_:=Aside0.mk (Kd.R_reok rfl hy0 (fun k_ e_=>HO_11.out.1 k_ e_));have n3_:=Aside0.mk (Kd.R_mono (ok':=fun k_=>some k_≠(v396:Value).ownBlock∧some k_≠(.slice Ao38 t402.length co38:Value).ownBlock∧some k_≠(.slice Ao60 t424.length co60:Value).ownBlock) (Kd.R_keptB (HO_12.out) hkp (fun k_ hk_ hs_=>(hk_.2.1) hs_)) (fun k_ hk_=>⟨hk_.1.1,hk_.1.2.1,hk_.1.2.2⟩));have n4_:=Aside0.mk (blk_kept (bL BK376.out) hkp (fun hs_=>(fun e_=>(Kd.R_ne HO_11.out BK376.out (by decide)) e_) hs_));have n5_:=Aside0.mk (Kd.R_mono (ok':=fun k_=>some k_≠(.slice Ao37 t399.length co37:Value).ownBlock) (Kd.R_keptB ((Kd.R_apart' HO422.out (Kd.R_typed HO_11.out) (by decide))) hkp (fun k_ hk_ hs_=>(hk_.2) hs_)) (fun k_ hk_=>hk_.1.1));have n6_:=Aside0.mk (Kd.R_mono (ok':=fun k_=>some k_≠(v396:Value).ownBlock∧some k_≠(.slice Ao38 t402.length co38:Value).ownBlock∧some k_≠(v416:Value).ownBlock) (Kd.R_keptB (HO426.out) hkp (fun k_ hk_ hs_=>(hk_.2.1) hs_)) (fun k_ hk_=>⟨hk_.1.1,hk_.1.2.1,hk_.1.2.2⟩));have n7_:=Aside0.mk (hb);clear HO_8 HO_10 HO_11 HO_12 BK376 HO422 HO426 HB;have HO_8:=n0_;have HO_10:=n1_;have HO_11:=n2_;have HO_12:=n3_;have BK376:=n4_;have HO422:=n5_;have HO426:=n6_;have HB:=n7_;clear n0_ n1_ n2_ n3_ n4_ n5_ n6_ n7_;(try clear hb);(try clear hkp);(try clear hy0)))
         (try simp only[Act.put,List.setIfInBounds_toArray,List.set_cons_zero,List.set_cons_succ])
         go_cut [91] (fun v91 wc => ∃ (kq:Nat) (x91_54:Bool),v91=.bool x91_54∧Aside0 (laws_FnExactTreeFor.j1 kq l0 l2 t395 t398 t415 x91_54 a1_0 a1_1 a1_2 a1_3 a1_4 a1_5 a1_6 a1_7 a1_8 a1_9=some r)∧Aside0 (kq≤kj21)∧Aside0 (Kd.R (Kd.int .i64) 3 wc w.heap.size (fun k_=>some k_≠(v416:Value).ownBlock) v396 t395)∧Aside0 (Kd.R (Kd.int .i64) 3 wc w.heap.size (fun k_=>some k_≠(v396:Value).ownBlock) v416 t415)∧Aside0 (wc.heap[gb376]?=some (.cells #[.int .i64 a1_0,.int .i64 a1_1,.bool a1_2,.int .i64 a1_3,.int .i64 a1_4,.int .i64 a1_5,.int .i64 a1_6,.int .i64 a1_7,.int .i64 a1_8,.string a1_9] 73 (0,0)))∧Aside0 (Below w.heap.size w wc))
         case first =>
          have H:=HC55.out
          clear HC55
          by_cases c63:t430 < 0
          ·rw[if_pos c63] at H
           have c63b0:decide (t430 < 0)=true:=decide_eq_true c63
           clear c63
           (first|rw[c63b0]|(simp only[i64_w,i32_w];rw[c63b0])|skip)
           have H':=Aside0.mk H
           clear H
           go_wp2
           go_meet
           case rel=>exact⟨_,(true),(bR),H',⟨by have:=HJ21.out;first|omega|exact Nat.le_refl _⟩,⟨by(with_reducible repeat (first|apply Kd.R_alloc|apply Kd.R_drewN|apply Kd.R_drew));exact Kd.R_mono HO_8.out (fun _ hk=>hk.2.1)⟩,⟨by(with_reducible repeat (first|apply Kd.R_alloc|apply Kd.R_drewN|apply Kd.R_drew));exact Kd.R_mono HO_12.out (fun _ hk=>hk.1)⟩,⟨by(with_reducible repeat (first|refine blk_drewN ?_ _|refine blk_drew ?_|refine blk_alloc ?_ _));exact BK376.out⟩,⟨bS GE376.out⟩⟩
          ·rw[if_neg c63] at H
           have c63b0:decide (t430 < 0)=false:=decide_eq_false c63
           clear c63
           (first|rw[c63b0]|(simp only[i64_w,i32_w];rw[c63b0])|skip)
           replace H:=Option.bind_eq_some_iff.mp H
           obtain⟨t432,A640,H⟩:=H
           have A64:=Aside0.mk A640
           clear A640
           by_cases c65:t432=true
           ·subst c65
            have H1:(laws_FnExactTreeFor.j1 kj21 l0 l2 t395 t398 t415 (t418 != t398) a1_0 a1_1 a1_2 a1_3 a1_4 a1_5 a1_6 a1_7 a1_8 a1_9)=some r:=by rw[if_pos rfl] at H;exact H
            clear H
            have H:=H1
            clear H1
            have H':=Aside0.mk H
            clear H
            obtain⟨Ao66,co66,eo66⟩:=Kd.R_slice HO_12.out
            subst eo66
            obtain⟨Ao67,co67,eo67⟩:=Kd.R_slice HO_8.out
            subst eo67
            go_wp2_with (first|(go_at_call 54;(with_reducible refine(laws_eqIntS.calls kj21 _ _ t415 _ _ t395 true _ ?side1 ?side2 ?side3 ?side4 A64.out).mono ?_);(case side1=>exact bT HO_12.out);(case side2=>exact(Kd.R_reads' HO_12.out).2.1);(case side3=>exact bT HO_8.out);(case side4=>exact(Kd.R_reads' HO_8.out).2.1);rintro e w' ⟨rfl,⟨nd,rfl⟩⟩))
            go_meet
            case rel=>exact⟨_,((t418 != t398)),(bR),H',⟨by have:=HJ21.out;first|omega|exact Nat.le_refl _⟩,⟨by(with_reducible repeat (first|apply Kd.R_alloc|apply Kd.R_drewN|apply Kd.R_drew));exact Kd.R_mono HO_8.out (fun _ hk=>hk.2.1)⟩,⟨by(with_reducible repeat (first|apply Kd.R_alloc|apply Kd.R_drewN|apply Kd.R_drew));exact Kd.R_mono HO_12.out (fun _ hk=>hk.1)⟩,⟨by(with_reducible repeat (first|refine blk_drewN ?_ _|refine blk_drew ?_|refine blk_alloc ?_ _));exact BK376.out⟩,⟨bS GE376.out⟩⟩
           ·replace c65:=Bool.eq_false_iff.mpr c65
            subst c65
            have H1:(laws_FnExactTreeFor.j1 kj21 l0 l2 t395 t398 t415 true a1_0 a1_1 a1_2 a1_3 a1_4 a1_5 a1_6 a1_7 a1_8 a1_9)=some r:=by rw[if_neg (show ¬ (false=true) by decide)] at H;exact H
            clear H
            have H:=H1
            clear H1
            have H':=Aside0.mk H
            clear H
            obtain⟨Ao68,co68,eo68⟩:=Kd.R_slice HO_12.out
            subst eo68
            obtain⟨Ao69,co69,eo69⟩:=Kd.R_slice HO_8.out
            subst eo69
            go_wp2_with (first|(go_at_call 54;(with_reducible refine(laws_eqIntS.calls kj21 _ _ t415 _ _ t395 false _ ?side1 ?side2 ?side3 ?side4 A64.out).mono ?_);(case side1=>exact bT HO_12.out);(case side2=>exact(Kd.R_reads' HO_12.out).2.1);(case side3=>exact bT HO_8.out);(case side4=>exact(Kd.R_reads' HO_8.out).2.1);rintro e w' ⟨rfl,⟨nd,rfl⟩⟩))
            go_meet
            case rel=>exact⟨_,(true),(bR),H',⟨by have:=HJ21.out;first|omega|exact Nat.le_refl _⟩,⟨by(with_reducible repeat (first|apply Kd.R_alloc|apply Kd.R_drewN|apply Kd.R_drew));exact Kd.R_mono HO_8.out (fun _ hk=>hk.2.1)⟩,⟨by(with_reducible repeat (first|apply Kd.R_alloc|apply Kd.R_drewN|apply Kd.R_drew));exact Kd.R_mono HO_12.out (fun _ hk=>hk.1)⟩,⟨by(with_reducible repeat (first|refine blk_drewN ?_ _|refine blk_drew ?_|refine blk_alloc ?_ _));exact BK376.out⟩,⟨bS GE376.out⟩⟩
         case rest =>
          clear HC55
          try clear c1
          try clear c2
          try clear p2
          try clear c4
          try clear c4b0
          try clear c4b1
          try clear c5
          try clear c6
          try clear c7
          try clear c7b0
          try clear c8
          try clear c10
          try clear c10b0
          try clear c41
          try clear c46
          try clear c47
          try clear c48
          try clear c49
          try clear c50
          try clear c51
          try clear c52
          try clear c53
          try clear c54
          try clear c55
          try clear c56
          try clear c57
          try clear c63
          try clear c63b0
          try clear c65
          try clear hcz12_0 hcz12_1 hcz12_2 hcz12_3 hcz12_4 hcz12_5 hcz12_6 hcz12_7 hcz12_8 hcz12_9
          try clear hcz24_0 hcz24_1 hcz24_2 hcz24_3 hcz24_4 hcz24_5 hcz24_6 hcz24_7 hcz24_8 hcz24_9
          try clear hcz35_0 hcz35_1 hcz35_2 hcz35_3 hcz35_4 hcz35_5 hcz35_6 hcz35_7 hcz35_8 hcz35_9
          try clear hfz12_0 hfz12_1 hfz12_2 hfz12_3 hfz12_4 hfz12_5 hfz12_6 hfz12_7 hfz12_8 hfz12_9
          try clear hfz24_0 hfz24_1 hfz24_2 hfz24_3 hfz24_4 hfz24_5 hfz24_6 hfz24_7 hfz24_8 hfz24_9
          try clear hfz35_0 hfz35_1 hfz35_2 hfz35_3 hfz35_4 hfz35_5 hfz35_6 hfz35_7 hfz35_8 hfz35_9
          try clear p2
          obtain⟨kq,x91_54,rfl,HA,HJ54,HO_8,HO_12,BK376,HB⟩:=hcut
          cases kq with
          | zero=>exact absurd HA.out (by simp[laws_FnExactTreeFor.j1])
          | succ kj54 =>
           have H:=HA.out
           clear HA
           simp only[laws_FnExactTreeFor.j1] at H
           by_cases c70:x91_54=true
           ·subst c70
            have H1:(some false)=some r:=by rw[if_pos rfl] at H;exact H
            clear H
            have H:=H1
            clear H1
            obtain rfl:=Option.some.inj H
            go_wp2
            go_ret
            exact⟨bE,bS GE376.out⟩
           ·replace c70:=Bool.eq_false_iff.mpr c70
            subst c70
            have H1:((laws_markIntS.f kj54 t415 1).bind fun bt433=>((laws_heldIntS.f kj54 bt433.2 1).bind fun t435=>(if t435 < 0 then (some false) else (if t435=bt433.1 then ((laws_toContactS.f kj54 l0).bind fun t436=>((laws_toBundle.f a1_0 a1_1 a1_2 a1_3 a1_4 a1_5 a1_6 a1_7 a1_8 a1_9).bind fun bt439=>((laws_toIntS.f kj54 l2).bind fun t449=>((impl_TreeFor.f kj54 t436 bt439.1 bt439.2.1 bt439.2.2.1 bt439.2.2.2.1 bt439.2.2.2.2.1 bt439.2.2.2.2.2.1 bt439.2.2.2.2.2.2.1 bt439.2.2.2.2.2.2.2.1 bt439.2.2.2.2.2.2.2.2.1 bt439.2.2.2.2.2.2.2.2.2 t449).bind fun bt452=>((laws_eqIntS.f kj54 bt452.1 t395).bind fun t456=>(if t456=true then (laws_FnExactTreeFor.j2 kj54 bt433.2 bt433.1 (bt452.2 != t398)) else (laws_FnExactTreeFor.j2 kj54 bt433.2 bt433.1 true))))))) else (some false)))))=some r:=by rw[if_neg (show ¬ (false=true) by decide)] at H;exact H
            clear H
            have H:=H1
            clear H1
            replace H:=Option.bind_eq_some_iff.mp H
            obtain⟨⟨t433,t434⟩,A710,H⟩:=H
            have A71:=Aside0.mk A710
            clear A710
            replace H:=Option.bind_eq_some_iff.mp H
            obtain⟨t435,A720,H⟩:=H
            have A72:=Aside0.mk A720
            clear A720
            by_cases c73:t435 < 0
            ·rw[if_pos c73] at H
             have c73b0:decide (t435 < 0)=true:=decide_eq_true c73
             clear c73
             obtain rfl:=Option.some.inj H
             obtain⟨Ao74,co74,eo74⟩:=Kd.R_slice HO_12.out
             subst eo74
             go_wp2_with (first|((with_reducible refine gate_callee (f:=57) rfl ?_);refine goesA (some 94) rfl rfl Try.func57 #[.slice Ao74 t415.length co74,.int .i64 1] rfl ?_;(with_reducible refine(laws_markIntS.calls kj54 (fun k_=>some k_=(.slice Ao74 t415.length co74:Value).ownBlock) (.slice Ao74 t415.length co74) t415 1 t433 t434 w _ ?side1 ?side2 A71.out).mono ?_);(case side1=>repeat (first|(with_reducible first|exact HB.out|apply below_alloc|apply pw_below_drewN|apply below_drew1|refine below_set ?_ GE376.out)|exact HB.out));(case side2=>exact Kd.R_tight rfl HO_12.out);rintro e w75 ⟨rfl,hy0,hb,hkp⟩;refine⟨_,rfl,?_⟩;have n0_:=Aside0.mk (Kd.R_mono (ok':=fun k_=>some k_≠(.slice Ao74 t415.length co74:Value).ownBlock) (Kd.R_keptB (HO_8.out) hkp (fun k_ hk_ hs_=>(hk_) hs_)) (fun k_ hk_=>hk_.1));have n1_:=Aside0.mk (Kd.R_reok rfl hy0 (fun k_ e_=>HO_12.out.1 k_ e_));have n2_:=Aside0.mk (blk_kept (bL BK376.out) hkp (fun hs_=>(fun e_=>(Kd.R_ne HO_12.out BK376.out (by decide)) e_) hs_));have n3_:=Aside0.mk (hb);clear HO_8 HO_12 BK376 HB;have HO_8:=n0_;have HO_12:=n1_;have BK376:=n2_;have HB:=n3_;clear n0_ n1_ n2_ n3_;(try clear hb);(try clear hkp);(try clear hy0))|((with_reducible refine gate_callee (f:=58) rfl ?_);refine goesL_ (some 97) rfl rfl Try.func58 (by kernel_rfl) rfl #[.slice Ao74 t434.length co74,.int .i64 1] rfl (by(try simp only[List.map_toArray,List.map_cons,List.map_nil]);first|done|(rw[show t434.length=t415.length from (Kd.R_reads' HO_12.out).1.symm]<;>rfl)|rfl|(simp only[List.length_drop,List.length_take];rfl)) ?_;(with_reducible refine(laws_heldIntS.calls kj54 _ _ t434 1 t435 _ ?side1 ?side2 A72.out).mono ?_);(case side1=>exact bT HO_12.out);(case side2=>rw[show t434.length=t415.length from (Kd.R_reads' HO_12.out).1.symm];exact(Kd.R_reads' HO_12.out).2.1);rintro e w' ⟨rfl,⟨nd,rfl⟩⟩;refine⟨_,rfl,?_⟩))
             go_ret
             exact⟨bE,bS GE376.out⟩
            ·rw[if_neg c73] at H
             have c73b0:decide (t435 < 0)=false:=decide_eq_false c73
             clear c73
             by_cases c76:t435=t433
             ·rw[if_pos c76] at H
              have c76b0:(t435 == t433)=true:=beq_iff_eq.mpr c76
              have c76b1:(t435 != t433)=false:=bne_eq_false_iff_eq.mpr c76
              clear c76
              replace H:=Option.bind_eq_some_iff.mp H
              obtain⟨t436,A770,H⟩:=H
              have A77:=Aside0.mk A770
              clear A770
              replace H:=Option.bind_eq_some_iff.mp H
              obtain⟨⟨t439,t440,t441,t442,t443,t444,t445,t446,t447,t448⟩,A780,H⟩:=H
              have A78:=Aside0.mk A780
              clear A780
              replace H:=Option.bind_eq_some_iff.mp H
              obtain⟨t449,A790,H⟩:=H
              have A79:=Aside0.mk A790
              clear A790
              replace H:=Option.bind_eq_some_iff.mp H
              obtain⟨⟨t452,t455⟩,A800,H⟩:=H
              have A80:=Aside0.mk A800
              clear A800
              have HC81:=Aside0.mk H
              clear H
              obtain⟨Ao82,co82,eo82⟩:=Kd.R_slice HO_12.out
              subst eo82
              try go_wp2_with (first|((with_reducible refine gate_callee (f:=57) rfl ?_);refine goesA (some 94) rfl rfl Try.func57 #[.slice Ao82 t415.length co82,.int .i64 1] rfl ?_;(with_reducible refine(laws_markIntS.calls kj54 (fun k_=>some k_=(.slice Ao82 t415.length co82:Value).ownBlock) (.slice Ao82 t415.length co82) t415 1 t433 t434 w _ ?side1 ?side2 A71.out).mono ?_);(case side1=>repeat (first|(with_reducible first|exact HB.out|apply below_alloc|apply pw_below_drewN|apply below_drew1|refine below_set ?_ GE376.out)|exact HB.out));(case side2=>exact Kd.R_tight rfl HO_12.out);rintro e w83 ⟨rfl,hy0,hb,hkp⟩;refine⟨_,rfl,?_⟩;have n0_:=Aside0.mk (Kd.R_mono (ok':=fun k_=>some k_≠(.slice Ao82 t415.length co82:Value).ownBlock) (Kd.R_keptB (HO_8.out) hkp (fun k_ hk_ hs_=>(hk_) hs_)) (fun k_ hk_=>hk_.1));have n1_:=Aside0.mk (Kd.R_reok rfl hy0 (fun k_ e_=>HO_12.out.1 k_ e_));have n2_:=Aside0.mk (blk_kept (bL BK376.out) hkp (fun hs_=>(fun e_=>(Kd.R_ne HO_12.out BK376.out (by decide)) e_) hs_));have n3_:=Aside0.mk (hb);clear HO_8 HO_12 BK376 HB;have HO_8:=n0_;have HO_12:=n1_;have BK376:=n2_;have HB:=n3_;clear n0_ n1_ n2_ n3_;(try clear hb);(try clear hkp);(try clear hy0))|((with_reducible refine gate_callee (f:=58) rfl ?_);refine goesL_ (some 97) rfl rfl Try.func58 (by kernel_rfl) rfl #[.slice Ao82 t434.length co82,.int .i64 1] rfl (by(try simp only[List.map_toArray,List.map_cons,List.map_nil]);first|done|(rw[show t434.length=t415.length from (Kd.R_reads' HO_12.out).1.symm]<;>rfl)|rfl|(simp only[List.length_drop,List.length_take];rfl)) ?_;(with_reducible refine(laws_heldIntS.calls kj54 _ _ t434 1 t435 _ ?side1 ?side2 A72.out).mono ?_);(case side1=>exact bT HO_12.out);(case side2=>rw[show t434.length=t415.length from (Kd.R_reads' HO_12.out).1.symm];exact(Kd.R_reads' HO_12.out).2.1);rintro e w' ⟨rfl,⟨nd,rfl⟩⟩;refine⟨_,rfl,?_⟩))
              (try (rw[drewN_self w83];generalize hq_:World.drewN w83 _=w83;have n0_:Aside0 (Kd.R (Kd.int .i64) 3 w83 w.heap.size (fun k_=>some k_≠(v396:Value).ownBlock) (.slice Ao82 t415.length co82) t434):=⟨by rw[← hq_];exact(bK HO_12.out)⟩;have n1_:Aside0 (Kd.R (Kd.int .i64) 3 w83 w.heap.size (fun k_=>some k_≠(.slice Ao82 t415.length co82:Value).ownBlock) v396 t395):=⟨by rw[← hq_];exact(bK HO_8.out)⟩;have n2_:Aside0 (w83.heap[gb376]?=some (.cells #[.int .i64 a1_0,.int .i64 a1_1,.bool a1_2,.int .i64 a1_3,.int .i64 a1_4,.int .i64 a1_5,.int .i64 a1_6,.int .i64 a1_7,.int .i64 a1_8,.string a1_9] 73 (0,0))):=⟨by rw[← hq_];exact(bL BK376.out)⟩;have n3_:Aside0 (Below w.heap.size w w83):=⟨by rw[← hq_];exact(bS GE376.out)⟩;clear HO_12 HO_8 BK376 HB hq_;have HO_12:=n0_;have HO_8:=n1_;have BK376:=n2_;have HB:=n3_;clear n0_ n1_ n2_ n3_))
              have n0_:=Aside0.mk (Kd.R_drew HO_8.out)
              have n1_:=Aside0.mk (Kd.R_drew HO_12.out)
              have n2_:=Aside0.mk (blk_drew BK376.out)
              have n3_:=Aside0.mk (below_drew1 HB.out)
              clear HO_8 HO_12 BK376 HB
              have HO_8:=n0_
              have HO_12:=n1_
              have BK376:=n2_
              have HB:=n3_
              clear n0_ n1_ n2_ n3_
              refine start_ (n:=12) (S:=fun w'=>w'.cell? ⟨gb376,0,none⟩=some (.int .i64 a1_0)∧w'.cell? ⟨gb376,1,none⟩=some (.int .i64 a1_1)∧w'.cell? ⟨gb376,2,none⟩=some (.bool a1_2)∧w'.cell? ⟨gb376,3,none⟩=some (.int .i64 a1_3)∧w'.cell? ⟨gb376,4,none⟩=some (.int .i64 a1_4)∧w'.cell? ⟨gb376,5,none⟩=some (.int .i64 a1_5)∧w'.cell? ⟨gb376,6,none⟩=some (.int .i64 a1_6)∧w'.cell? ⟨gb376,7,none⟩=some (.int .i64 a1_7)∧w'.cell? ⟨gb376,8,none⟩=some (.int .i64 a1_8)∧w'.cell? ⟨gb376,9,none⟩=some (.string a1_9)) (ds:=[]) #[false,false,false,false,false,false,false,false,false,false,false,false] (by kernel_rfl) rfl rfl (cC10 BK376.out) (fun hHeld => ?_);refine with_tabW laws_FnExactTreeFor.tab33 laws_FnExactTreeFor.bits33 (fun HT_ HW_ => ?_)
              generalize w83.drew=w84 at HO_8 HO_12 BK376 HB hHeld ⊢
              refine pure_ (i:=0) (N:=some 104) (v:=?_) (a':=?_) #[true,false,false,false,false,false,false,false,false,false,false,false] rfl rfl (any_of HT_.out (by kernel_rfl)) (fun _ _ _ h=>h) (Or.inl ⟨by rfl,?_⟩) ?_ ?_
              rotate_left
              ·intro w'
               go_simp
               with_reducible rfl
              rotate_left
              ·simp only[Act.put,List.setIfInBounds_toArray,List.set_cons_zero,List.set_cons_succ,i64_w,i32_w]
               rfl
              refine pure_ (i:=4) (N:=some 108) (v:=?_) (a':=?_) #[true,false,false,false,true,false,false,false,false,false,false,false] rfl rfl (any_of HT_.out (by kernel_rfl)) (fun _ _ _ h=>h) (Or.inl ⟨by rfl,?_⟩) ?_ ?_
              rotate_left
              ·intro w'
               go_simp
               with_reducible rfl
              rotate_left
              ·simp only[Act.put,List.setIfInBounds_toArray,List.set_cons_zero,List.set_cons_succ,i64_w,i32_w]
               rfl
              refine take_ (i:=2) (N:=some 106) (v:=?_) (a':=?_) #[true,false,true,false,true,false,false,false,false,false,false,false] rfl rfl (take_ofW HT_.out HW_.out (by kernel_rfl)) (fun _ _ _ h=>h) (Or.inl ⟨by rfl,?_⟩) hHeld ?_ ?_
              rotate_left
              ·rintro w' ⟨s0,s1,s2,s3,s4,s5,s6,s7,s8,s9⟩
               go_simp
               with_reducible rfl
              rotate_left
              ·simp only[Act.put,List.setIfInBounds_toArray,List.set_cons_zero,List.set_cons_succ,i64_w,i32_w]
               rfl
              refine one_ (i:=1) (N:=some 105) #[true,true,true,false,true,false,false,false,false,false,false,false] rfl rfl (one_of HT_.out (by kernel_rfl)) (by decide) (fun K hK => ?_)
              refine goes_ Try.func50 (by kernel_rfl) rfl #[.slice A0 l0.length c0] (by rfl) rfl rfl (by(try simp only[List.map_toArray,List.map_cons,List.map_nil]);first|done|rfl|(simp only[List.length_drop,List.length_take];rfl)) ?_
              with_reducible refine(laws_toContactS.calls kj54 _ _ l0 t436 _ ?side1 ?side2 A77.out).mono ?_
              (case side1=>exact bC HR0.out)
              (case side2=>exact HC0.out)
              rintro e w85 ⟨v437,rfl,ho0,hb⟩
              refine⟨_,rfl,?_⟩
              have n0_:=Aside0.mk (Kd.R_below (bK HO_8.out) hb)
              have n1_:=Aside0.mk (Kd.R_below (bK HO_12.out) hb)
              have n2_:=Aside0.mk (Kd.R_lower ho0 (below_size (bS GE376.out)))
              have n3_:=Aside0.mk (bM BK376.out hb)
              have n4_:=Aside0.mk (below_step (bS GE376.out) hb)
              clear HO_8 HO_12 BK376 HB
              have HO_8:=n0_
              have HO_12:=n1_
              have HO438:=n2_
              have BK376:=n3_
              have HB:=n4_
              clear n0_ n1_ n2_ n3_ n4_
              (try clear hb)
              (try clear hb2)
              (try clear hk)
              (try clear hi)
              (try clear ho0)
              refine hK.out _ _ (cC10 BK376.out) (fun hHeld => ?_)
              clear hK K
              refine norm_ (a':=?_) ?_ ?_
              rotate_left
              ·show Act.put _ (some 105) _=_
               simp only[Act.put,List.setIfInBounds_toArray,List.set_cons_zero,List.set_cons_succ,i64_w,i32_w]
               rfl
              refine one_ (i:=3) (N:=some 107) #[true,true,true,true,true,false,false,false,false,false,false,false] rfl rfl (one_of HT_.out (by kernel_rfl)) (by decide) (fun K hK => ?_)
              refine goes_ Try.func51 (by kernel_rfl) rfl #[.agg #[.int .i64 a1_0,.int .i64 a1_1,.bool a1_2,.int .i64 a1_3,.int .i64 a1_4,.int .i64 a1_5,.int .i64 a1_6,.int .i64 a1_7,.int .i64 a1_8,.string a1_9]] (by rfl) rfl rfl (by(try simp only[List.map_toArray,List.map_cons,List.map_nil]);first|done|rfl|(simp only[List.length_drop,List.length_take];rfl)) ?_
              with_reducible refine(laws_toBundle.calls a1_0 a1_1 a1_2 a1_3 a1_4 a1_5 a1_6 a1_7 a1_8 a1_9 t439 t440 t441 t442 t443 t444 t445 t446 t447 t448 _ A78.out).mono ?_
              rintro e w86 ⟨rfl,hb⟩
              refine⟨_,rfl,?_⟩
              have n0_:=Aside0.mk (Kd.R_below (bK HO_8.out) hb)
              have n1_:=Aside0.mk (Kd.R_below (bK HO_12.out) hb)
              have n2_:=Aside0.mk (Kd.R_below (bK HO438.out) hb)
              have n3_:=Aside0.mk (bM BK376.out hb)
              have n4_:=Aside0.mk (below_step (bS GE376.out) hb)
              clear HO_8 HO_12 HO438 BK376 HB
              have HO_8:=n0_
              have HO_12:=n1_
              have HO438:=n2_
              have BK376:=n3_
              have HB:=n4_
              clear n0_ n1_ n2_ n3_ n4_
              (try clear hb)
              (try clear hb2)
              (try clear hk)
              (try clear hi)
              refine hK.out _ _ (cC10 BK376.out) (fun hHeld => ?_)
              clear hK K
              refine norm_ (a':=?_) ?_ ?_
              rotate_left
              ·show Act.put _ (some 107) _=_
               simp only[Act.put,List.setIfInBounds_toArray,List.set_cons_zero,List.set_cons_succ,i64_w,i32_w]
               rfl
              refine one_ (i:=5) (N:=some 109) #[true,true,true,true,true,true,false,false,false,false,false,false] rfl rfl (one_of HT_.out (by kernel_rfl)) (by decide) (fun K hK => ?_)
              refine goes_ Try.func52 (by kernel_rfl) rfl #[.slice A2 l2.length c2] (by rfl) rfl rfl (by(try simp only[List.map_toArray,List.map_cons,List.map_nil]);first|done|rfl|(simp only[List.length_drop,List.length_take];rfl)) ?_
              with_reducible refine(laws_toIntS.calls kj54 _ _ l2 t449 _ ?side1 ?side2 A79.out).mono ?_
              (case side1=>exact bC HR2.out)
              (case side2=>exact HC2.out)
              rintro e w87 ⟨v450,rfl,ho0,hb⟩
              refine⟨_,rfl,?_⟩
              have n0_:=Aside0.mk (Kd.R_elder' (bK HO_8.out) (Kd.R_base ho0) hb)
              have n1_:=Aside0.mk (Kd.R_elder' (bK HO_12.out) (Kd.R_base ho0) hb)
              have n2_:=Aside0.mk (Kd.R_below (bK HO438.out) hb)
              have n3_:=Aside0.mk (Kd.R_lower (Kd.R_new' (Kd.R_new' ho0 (Kd.R_lt (bK HO_8.out))) (Kd.R_lt (bK HO_12.out))) (below_size (bS GE376.out)))
              have n4_:=Aside0.mk (bM BK376.out hb)
              have n5_:=Aside0.mk (below_step (bS GE376.out) hb)
              clear HO_8 HO_12 HO438 BK376 HB
              have HO_8:=n0_
              have HO_12:=n1_
              have HO438:=n2_
              have HO451:=n3_
              have BK376:=n4_
              have HB:=n5_
              clear n0_ n1_ n2_ n3_ n4_ n5_
              (try clear hb)
              (try clear hb2)
              (try clear hk)
              (try clear hi)
              (try clear ho0)
              obtain⟨Ao88,co88,eo88⟩:=Kd.R_slice HO438.out
              (first|subst eo88|(injection eo88 with f1_ f2_ f3_;have f4_:=f1_.symm;have f5_:=f3_.symm;clear f1_ f2_ f3_;subst f4_;subst f5_))
              obtain⟨Ao89,co89,eo89⟩:=Kd.R_slice HO451.out
              (first|subst eo89|(injection eo89 with f1_ f2_ f3_;have f4_:=f1_.symm;have f5_:=f3_.symm;clear f1_ f2_ f3_;subst f4_;subst f5_))
              refine hK.out _ _ (cC10 BK376.out) (fun hHeld => ?_)
              clear hK K
              refine norm_ (a':=?_) ?_ ?_
              rotate_left
              ·show Act.put _ (some 109) _=_
               simp only[Act.put,List.setIfInBounds_toArray,List.set_cons_zero,List.set_cons_succ,i64_w,i32_w]
               rfl
              refine one_ (i:=6) (N:=some 110) #[true,true,true,true,true,true,true,false,false,false,false,false] rfl rfl (one_of HT_.out (by kernel_rfl)) (by decide) (fun K hK => ?_)
              refine goes_ Try.func53 (by kernel_rfl) rfl #[.slice Ao88 t436.length co88,.agg #[.int .i64 t439,.int .i64 t440,.bool t441,.int .i64 t442,.int .i64 t443,.int .i64 t444,.int .i64 t445,.int .i64 t446,.int .i64 t447,.string t448],.slice Ao89 t449.length co89] (by rfl) rfl rfl (by(try simp only[List.map_toArray,List.map_cons,List.map_nil]);first|done|rfl|(simp only[List.length_drop,List.length_take];rfl)) ?_
              with_reducible refine(impl_TreeFor.calls kj54 _ _ t436 t439 t440 t441 t442 t443 t444 t445 t446 t447 t448 _ _ t449 t452 t455 _ ?side1 ?side2 ?side3 ?side4 A80.out).mono ?_
              (case side1=>exact bT HO438.out)
              (case side2=>exact(Kd.R_reads' HO438.out).2.1)
              (case side3=>exact bT HO451.out)
              (case side4=>exact(Kd.R_reads' HO451.out).2.1)
              rintro e w90 ⟨v453,rfl,ho0,hb⟩
              refine⟨_,rfl,?_⟩
              have n0_:=Aside0.mk (Kd.R_elder' (bK HO_8.out) (Kd.R_base ho0) hb)
              have n1_:=Aside0.mk (Kd.R_elder' (bK HO_12.out) (Kd.R_base ho0) hb)
              have n2_:=Aside0.mk (Kd.R_below (bK HO438.out) hb)
              have n3_:=Aside0.mk (Kd.R_elder' (bK HO451.out) (Kd.R_base ho0) hb)
              have n4_:=Aside0.mk (Kd.R_lower (Kd.R_new' (Kd.R_new' (Kd.R_new' ho0 (Kd.R_lt (bK HO_8.out))) (Kd.R_lt (bK HO_12.out))) (Kd.R_lt (bK HO451.out))) (below_size (bS GE376.out)))
              have n5_:=Aside0.mk (bM BK376.out hb)
              have n6_:=Aside0.mk (below_step (bS GE376.out) hb)
              clear HO_8 HO_12 HO438 HO451 BK376 HB
              have HO_8:=n0_
              have HO_12:=n1_
              have HO438:=n2_
              have HO451:=n3_
              have HO454:=n4_
              have BK376:=n5_
              have HB:=n6_
              clear n0_ n1_ n2_ n3_ n4_ n5_ n6_
              (try clear hb)
              (try clear hb2)
              (try clear hk)
              (try clear hi)
              (try clear ho0)
              refine hK.out _ _ (cC10 BK376.out) (fun hHeld => ?_)
              clear hK K
              refine norm_ (a':=?_) ?_ ?_
              rotate_left
              ·show Act.put _ (some 110) _=_
               simp only[Act.put,List.setIfInBounds_toArray,List.set_cons_zero,List.set_cons_succ,i64_w,i32_w]
               rfl
              refine pure_ (i:=7) (N:=some 103) (v:=?_) (a':=?_) #[true,true,true,true,true,true,true,true,false,false,false,false] rfl rfl (any_of HT_.out (by kernel_rfl)) (fun _ _ _ h=>h) (Or.inl ⟨by rfl,?_⟩) ?_ ?_
              rotate_left
              ·intro w'
               go_simp
               with_reducible rfl
              rotate_left
              ·simp only[Act.put,List.setIfInBounds_toArray,List.set_cons_zero,List.set_cons_succ,i64_w,i32_w]
               rfl
              refine pure_ (i:=8) (N:=some 111) (v:=?_) (a':=?_) #[true,true,true,true,true,true,true,true,true,false,false,false] rfl rfl (any_of HT_.out (by kernel_rfl)) (fun _ _ _ h=>h) (Or.inl ⟨by rfl,?_⟩) ?_ ?_
              rotate_left
              ·intro w'
               go_simp
               with_reducible rfl
              rotate_left
              ·simp only[Act.put,List.setIfInBounds_toArray,List.set_cons_zero,List.set_cons_succ,i64_w,i32_w]
               rfl
              refine pure_ (i:=9) (N:=some 112) (v:=?_) (a':=?_) #[true,true,true,true,true,true,true,true,true,true,false,false] rfl rfl (any_of HT_.out (by kernel_rfl)) (fun _ _ _ h=>h) (Or.inl ⟨by rfl,?_⟩) ?_ ?_
              rotate_left
              ·intro w'
               go_simp
               with_reducible rfl
              rotate_left
              ·simp only[Act.put,List.setIfInBounds_toArray,List.set_cons_zero,List.set_cons_succ,i64_w,i32_w]
               rfl
              refine pure_ (i:=10) (N:=some 17) (v:=?_) (a':=?_) #[true,true,true,true,true,true,true,true,true,true,true,false] rfl rfl (any_of HT_.out (by kernel_rfl)) (fun _ _ _ h=>h) (Or.inl ⟨by rfl,?_⟩) ?_ ?_
              rotate_left
              ·intro w'
               go_simp
               with_reducible rfl
              rotate_left
              ·simp only[Act.put,List.setIfInBounds_toArray,List.set_cons_zero,List.set_cons_succ,i64_w,i32_w]
               rfl
              refine pure_ (i:=11) (N:=some 18) (v:=?_) (a':=?_) #[true,true,true,true,true,true,true,true,true,true,true,true] rfl rfl (any_of HT_.out (by kernel_rfl)) (fun _ _ _ h=>h) (Or.inl ⟨by rfl,?_⟩) ?_ ?_
              rotate_left
              ·intro w'
               go_simp
               with_reducible rfl
              rotate_left
              ·simp only[Act.put,List.setIfInBounds_toArray,List.set_cons_zero,List.set_cons_succ,i64_w,i32_w]
               rfl
              refine done_ (done_of HT_.out (by kernel_rfl)) ?_
              go_upto_region 34 with (fail)
              go_cut [121] (fun v121 wc => ∃ (kq:Nat) (x121_80:Bool),v121=.bool x121_80∧Aside0 (laws_FnExactTreeFor.j2 kq t434 t433 x121_80=some r)∧Aside0 (kq≤kj54)∧Aside0 (Kd.R (Kd.int .i64) 3 wc w.heap.size (fun _=>True) (.slice Ao82 t415.length co82) t434)∧Aside0 (wc.heap[gb376]?=some (.cells #[.int .i64 a1_0,.int .i64 a1_1,.bool a1_2,.int .i64 a1_3,.int .i64 a1_4,.int .i64 a1_5,.int .i64 a1_6,.int .i64 a1_7,.int .i64 a1_8,.string a1_9] 73 (0,0)))∧Aside0 (Below w.heap.size w wc))
              case first =>
               have H:=HC81.out
               clear HC81
               replace H:=Option.bind_eq_some_iff.mp H
               obtain⟨t456,A910,H⟩:=H
               have A91:=Aside0.mk A910
               clear A910
               by_cases c92:t456=true
               ·subst c92
                have H1:(laws_FnExactTreeFor.j2 kj54 t434 t433 (t455 != t398))=some r:=by rw[if_pos rfl] at H;exact H
                clear H
                have H:=H1
                clear H1
                have H':=Aside0.mk H
                clear H
                obtain⟨Ao93,co93,eo93⟩:=Kd.R_slice HO454.out
                subst eo93
                obtain⟨Ao94,co94,eo94⟩:=Kd.R_slice HO_8.out
                subst eo94
                go_wp2_with (first|((with_reducible refine gate_callee (f:=54) rfl ?_);refine goesA (some 115) rfl rfl Try.func54 #[.slice Ao93 t452.length co93,.slice Ao94 t395.length co94] rfl ?_;(with_reducible refine(laws_eqIntS.calls kj54 _ _ t452 _ _ t395 true _ ?side1 ?side2 ?side3 ?side4 A91.out).mono ?_);(case side1=>exact bT HO454.out);(case side2=>exact(Kd.R_reads' HO454.out).2.1);(case side3=>exact bT HO_8.out);(case side4=>exact(Kd.R_reads' HO_8.out).2.1);rintro e w' ⟨rfl,⟨nd,rfl⟩⟩;refine⟨_,rfl,?_⟩))
                go_meet
                case rel=>exact⟨_,((t455 != t398)),(bR),H',⟨by have:=HJ21.out;have:=HJ54.out;first|omega|exact Nat.le_refl _⟩,⟨by(with_reducible repeat (first|apply Kd.R_alloc|apply Kd.R_drewN|apply Kd.R_drew));exact Kd.R_mono HO_12.out (fun _ hk=>trivial)⟩,⟨by(with_reducible repeat (first|refine blk_drewN ?_ _|refine blk_drew ?_|refine blk_alloc ?_ _));exact BK376.out⟩,⟨bS GE376.out⟩⟩
               ·replace c92:=Bool.eq_false_iff.mpr c92
                subst c92
                have H1:(laws_FnExactTreeFor.j2 kj54 t434 t433 true)=some r:=by rw[if_neg (show ¬ (false=true) by decide)] at H;exact H
                clear H
                have H:=H1
                clear H1
                have H':=Aside0.mk H
                clear H
                obtain⟨Ao95,co95,eo95⟩:=Kd.R_slice HO454.out
                subst eo95
                obtain⟨Ao96,co96,eo96⟩:=Kd.R_slice HO_8.out
                subst eo96
                go_wp2_with (first|((with_reducible refine gate_callee (f:=54) rfl ?_);refine goesA (some 115) rfl rfl Try.func54 #[.slice Ao95 t452.length co95,.slice Ao96 t395.length co96] rfl ?_;(with_reducible refine(laws_eqIntS.calls kj54 _ _ t452 _ _ t395 false _ ?side1 ?side2 ?side3 ?side4 A91.out).mono ?_);(case side1=>exact bT HO454.out);(case side2=>exact(Kd.R_reads' HO454.out).2.1);(case side3=>exact bT HO_8.out);(case side4=>exact(Kd.R_reads' HO_8.out).2.1);rintro e w' ⟨rfl,⟨nd,rfl⟩⟩;refine⟨_,rfl,?_⟩))
                go_meet
                case rel=>exact⟨_,(true),(bR),H',⟨by have:=HJ21.out;have:=HJ54.out;first|omega|exact Nat.le_refl _⟩,⟨by(with_reducible repeat (first|apply Kd.R_alloc|apply Kd.R_drewN|apply Kd.R_drew));exact Kd.R_mono HO_12.out (fun _ hk=>trivial)⟩,⟨by(with_reducible repeat (first|refine blk_drewN ?_ _|refine blk_drew ?_|refine blk_alloc ?_ _));exact BK376.out⟩,⟨bS GE376.out⟩⟩
              case rest =>
               clear HC81
               try clear c1
               try clear c2
               try clear p2
               try clear c4
               try clear c4b0
               try clear c4b1
               try clear c5
               try clear c6
               try clear c7
               try clear c7b0
               try clear c8
               try clear c9
               try clear c10
               try clear c10b0
               try clear c41
               try clear c46
               try clear c47
               try clear c48
               try clear c49
               try clear c50
               try clear c51
               try clear c52
               try clear c53
               try clear c54
               try clear c55
               try clear c56
               try clear c57
               try clear c58
               try clear c63
               try clear c63b0
               try clear c65
               try clear c70
               try clear c73
               try clear c73b0
               try clear c76
               try clear c76b0
               try clear c76b1
               try clear c92
               try clear hcz12_0 hcz12_1 hcz12_2 hcz12_3 hcz12_4 hcz12_5 hcz12_6 hcz12_7 hcz12_8 hcz12_9
               try clear hcz24_0 hcz24_1 hcz24_2 hcz24_3 hcz24_4 hcz24_5 hcz24_6 hcz24_7 hcz24_8 hcz24_9
               try clear hcz35_0 hcz35_1 hcz35_2 hcz35_3 hcz35_4 hcz35_5 hcz35_6 hcz35_7 hcz35_8 hcz35_9
               try clear hfz12_0 hfz12_1 hfz12_2 hfz12_3 hfz12_4 hfz12_5 hfz12_6 hfz12_7 hfz12_8 hfz12_9
               try clear hfz24_0 hfz24_1 hfz24_2 hfz24_3 hfz24_4 hfz24_5 hfz24_6 hfz24_7 hfz24_8 hfz24_9
               try clear hfz35_0 hfz35_1 hfz35_2 hfz35_3 hfz35_4 hfz35_5 hfz35_6 hfz35_7 hfz35_8 hfz35_9
               try clear p2
               obtain⟨kq,x121_80,rfl,HA,HJ80,HO_12,BK376,HB⟩:=hcut
               have hl12_80:=(Kd.R_reads' HO_12.out).1
               rw[hl12_80] at HO_12
               (try simp only[hl12_80])
               (try simp only[hl12_80] at BK376)
               cases kq with
               | zero=>exact absurd HA.out (by simp[laws_FnExactTreeFor.j2])
               | succ kj80 =>
                have H:=HA.out
                clear HA
                simp only[laws_FnExactTreeFor.j2] at H
                by_cases c97:x121_80=true
                ·subst c97
                 have H1:(some false)=some r:=by rw[if_pos rfl] at H;exact H
                 clear H
                 have H:=H1
                 clear H1
                 obtain rfl:=Option.some.inj H
                 go_wp2
                 go_ret
                 exact⟨bE,bS GE376.out⟩
                ·replace c97:=Bool.eq_false_iff.mpr c97
                 subst c97
                 have H1:((laws_heldIntS.f kj80 t434 1).bind fun t457=>(if t457 < 0 then (some false) else (if t457=t433 then (some true) else (some false))))=some r:=by rw[if_neg (show ¬ (false=true) by decide)] at H;exact H
                 clear H
                 have H:=H1
                 clear H1
                 replace H:=Option.bind_eq_some_iff.mp H
                 obtain⟨t457,A980,H⟩:=H
                 have A98:=Aside0.mk A980
                 clear A980
                 by_cases c99:t457 < 0
                 ·rw[if_pos c99] at H
                  have c99b0:decide (t457 < 0)=true:=decide_eq_true c99
                  clear c99
                  obtain rfl:=Option.some.inj H
                  go_wp2_with (first|((with_reducible refine gate_callee (f:=58) rfl ?_);refine goesA (some 124) rfl rfl Try.func58 #[.slice Ao82 t434.length co82,.int .i64 1] rfl ?_;(with_reducible refine(laws_heldIntS.calls kj80 _ _ t434 1 t457 _ ?side1 ?side2 A98.out).mono ?_);(case side1=>exact bT HO_12.out);(case side2=>exact(Kd.R_reads' HO_12.out).2.1);rintro e w' ⟨rfl,⟨nd,rfl⟩⟩;refine⟨_,rfl,?_⟩))
                  go_ret
                  exact⟨bE,bS GE376.out⟩
                 ·rw[if_neg c99] at H
                  have c99b0:decide (t457 < 0)=false:=decide_eq_false c99
                  clear c99
                  by_cases c100:t457=t433
                  ·rw[if_pos c100] at H
                   have c100b0:(t457 == t433)=true:=beq_iff_eq.mpr c100
                   have c100b1:(t457 != t433)=false:=bne_eq_false_iff_eq.mpr c100
                   clear c100
                   obtain rfl:=Option.some.inj H
                   go_wp2_with (first|((with_reducible refine gate_callee (f:=58) rfl ?_);refine goesA (some 124) rfl rfl Try.func58 #[.slice Ao82 t434.length co82,.int .i64 1] rfl ?_;(with_reducible refine(laws_heldIntS.calls kj80 _ _ t434 1 t457 _ ?side1 ?side2 A98.out).mono ?_);(case side1=>exact bT HO_12.out);(case side2=>exact(Kd.R_reads' HO_12.out).2.1);rintro e w' ⟨rfl,⟨nd,rfl⟩⟩;refine⟨_,rfl,?_⟩))
                   go_ret
                   exact⟨bE,bS GE376.out⟩
                  ·rw[if_neg c100] at H
                   have c100b0:(t457 == t433)=false:=beq_eq_false_iff_ne.mpr c100
                   have c100b1:(t457 != t433)=true:=bne_iff_ne.mpr c100
                   obtain rfl:=Option.some.inj H
                   go_wp2_with (first|((with_reducible refine gate_callee (f:=58) rfl ?_);refine goesA (some 124) rfl rfl Try.func58 #[.slice Ao82 t434.length co82,.int .i64 1] rfl ?_;(with_reducible refine(laws_heldIntS.calls kj80 _ _ t434 1 t457 _ ?side1 ?side2 A98.out).mono ?_);(case side1=>exact bT HO_12.out);(case side2=>exact(Kd.R_reads' HO_12.out).2.1);rintro e w' ⟨rfl,⟨nd,rfl⟩⟩;refine⟨_,rfl,?_⟩))
                   go_ret
                   exact⟨bE,bS GE376.out⟩
             ·rw[if_neg c76] at H
              have c76b0:(t435 == t433)=false:=beq_eq_false_iff_ne.mpr c76
              have c76b1:(t435 != t433)=true:=bne_iff_ne.mpr c76
              obtain rfl:=Option.some.inj H
              obtain⟨Ao101,co101,eo101⟩:=Kd.R_slice HO_12.out
              subst eo101
              go_wp2_with (first|((with_reducible refine gate_callee (f:=57) rfl ?_);refine goesA (some 94) rfl rfl Try.func57 #[.slice Ao101 t415.length co101,.int .i64 1] rfl ?_;(with_reducible refine(laws_markIntS.calls kj54 (fun k_=>some k_=(.slice Ao101 t415.length co101:Value).ownBlock) (.slice Ao101 t415.length co101) t415 1 t433 t434 w _ ?side1 ?side2 A71.out).mono ?_);(case side1=>repeat (first|(with_reducible first|exact HB.out|apply below_alloc|apply pw_below_drewN|apply below_drew1|refine below_set ?_ GE376.out)|exact HB.out));(case side2=>exact Kd.R_tight rfl HO_12.out);rintro e w102 ⟨rfl,hy0,hb,hkp⟩;refine⟨_,rfl,?_⟩;have n0_:=Aside0.mk (Kd.R_mono (ok':=fun k_=>some k_≠(.slice Ao101 t415.length co101:Value).ownBlock) (Kd.R_keptB (HO_8.out) hkp (fun k_ hk_ hs_=>(hk_) hs_)) (fun k_ hk_=>hk_.1));have n1_:=Aside0.mk (Kd.R_reok rfl hy0 (fun k_ e_=>HO_12.out.1 k_ e_));have n2_:=Aside0.mk (blk_kept (bL BK376.out) hkp (fun hs_=>(fun e_=>(Kd.R_ne HO_12.out BK376.out (by decide)) e_) hs_));have n3_:=Aside0.mk (hb);clear HO_8 HO_12 BK376 HB;have HO_8:=n0_;have HO_12:=n1_;have BK376:=n2_;have HB:=n3_;clear n0_ n1_ n2_ n3_;(try clear hb);(try clear hkp);(try clear hy0))|((with_reducible refine gate_callee (f:=58) rfl ?_);refine goesL_ (some 97) rfl rfl Try.func58 (by kernel_rfl) rfl #[.slice Ao101 t434.length co101,.int .i64 1] rfl (by(try simp only[List.map_toArray,List.map_cons,List.map_nil]);first|done|(rw[show t434.length=t415.length from (Kd.R_reads' HO_12.out).1.symm]<;>rfl)|rfl|(simp only[List.length_drop,List.length_take];rfl)) ?_;(with_reducible refine(laws_heldIntS.calls kj54 _ _ t434 1 t435 _ ?side1 ?side2 A72.out).mono ?_);(case side1=>exact bT HO_12.out);(case side2=>rw[show t434.length=t415.length from (Kd.R_reads' HO_12.out).1.symm];exact(Kd.R_reads' HO_12.out).2.1);rintro e w' ⟨rfl,⟨nd,rfl⟩⟩;refine⟨_,rfl,?_⟩))
              go_ret
              exact⟨bE,bS GE376.out⟩
        ·replace c52:=Bool.eq_false_iff.mpr c52
         subst c52
         have H1:(some false)=some r:=by rw[if_neg (show ¬ (false=true) by decide)] at H;exact H
         clear H
         have H:=H1
         clear H1
         obtain rfl:=Option.some.inj H
         go_wp2_with (first|((with_reducible refine gate_callee (f:=50) rfl ?_);refine goesA (some 65) rfl rfl Try.func50 #[.slice A0 l0.length c0] rfl ?_;(with_reducible refine(laws_toContactS.calls kj21 _ _ l0 t420 _ ?side1 ?side2 A47.out).mono ?_);(case side1=>exact bC HR0.out);(case side2=>exact HC0.out);rintro e w103 ⟨v421,rfl,ho0,hb⟩;refine⟨_,rfl,?_⟩;have n0_:=Aside0.mk (Kd.R_below (bK HO_8.out) hb);have n1_:=Aside0.mk (Kd.R_elder' (bK HO_10.out) (Kd.R_base ho0) hb);have n2_:=Aside0.mk (Kd.R_below (bK HO_11.out) hb);have n3_:=Aside0.mk (Kd.R_below (bK HO_12.out) hb);have n4_:=Aside0.mk (Kd.R_lower (Kd.R_new' ho0 (Kd.R_lt (bK HO_10.out))) (below_size (bS GE376.out)));have n5_:=Aside0.mk (bM BK376.out hb);have n6_:=Aside0.mk (below_step (bS GE376.out) hb);clear HO_8 HO_10 HO_11 HO_12 BK376 HB;have HO_8:=n0_;have HO_10:=n1_;have HO_11:=n2_;have HO_12:=n3_;have HO422:=n4_;have BK376:=n5_;have HB:=n6_;clear n0_ n1_ n2_ n3_ n4_ n5_ n6_;(try clear hb);(try clear hb2);(try clear hk);(try clear hi);(try clear ho0);obtain⟨Ao104,co104,eo104⟩:=Kd.R_slice HO422.out;subst eo104)|((with_reducible refine gate_callee (f:=55) rfl ?_);refine goesA (some 66) rfl rfl Try.func55 #[.slice Ao37 t399.length co37,.slice Ao104 t420.length co104] rfl ?_;(with_reducible refine(laws_eqContactS.calls kj21 _ _ t399 _ _ t420 true _ ?side1 ?side2 ?side3 ?side4 A48.out).mono ?_);(case side1=>exact bT HO_10.out);(case side2=>exact(Kd.R_reads' HO_10.out).2.1);(case side3=>exact bT HO422.out);(case side4=>exact(Kd.R_reads' HO422.out).2.1);rintro e w105 ⟨rfl,hb⟩;refine⟨_,rfl,?_⟩;have n0_:=Aside0.mk (Kd.R_below (bK HO_8.out) hb);have n1_:=Aside0.mk (Kd.R_below (bK HO_10.out) hb);have n2_:=Aside0.mk (Kd.R_below (bK HO_11.out) hb);have n3_:=Aside0.mk (Kd.R_below (bK HO_12.out) hb);have n4_:=Aside0.mk (Kd.R_below (bK HO422.out) hb);have n5_:=Aside0.mk (bM BK376.out hb);have n6_:=Aside0.mk (below_step (bS GE376.out) hb);clear HO_8 HO_10 HO_11 HO_12 HO422 BK376 HB;have HO_8:=n0_;have HO_10:=n1_;have HO_11:=n2_;have HO_12:=n3_;have HO422:=n4_;have BK376:=n5_;have HB:=n6_;clear n0_ n1_ n2_ n3_ n4_ n5_ n6_;(try clear hb);(try clear hb2);(try clear hk);(try clear hi))|((with_reducible refine gate_callee (f:=52) rfl ?_);refine goesA (some 70) rfl rfl Try.func52 #[.slice A2 l2.length c2] rfl ?_;(with_reducible refine(laws_toIntS.calls kj21 _ _ l2 t424 _ ?side1 ?side2 A50.out).mono ?_);(case side1=>exact bC HR2.out);(case side2=>exact HC2.out);rintro e w106 ⟨v425,rfl,ho0,hb⟩;refine⟨_,rfl,?_⟩;have n0_:=Aside0.mk (Kd.R_elder' (bK HO_8.out) (Kd.R_base ho0) hb);have n1_:=Aside0.mk (Kd.R_below (bK HO_10.out) hb);have n2_:=Aside0.mk (Kd.R_elder' (bK HO_11.out) (Kd.R_base ho0) hb);have n3_:=Aside0.mk (Kd.R_elder' (bK HO_12.out) (Kd.R_base ho0) hb);have n4_:=Aside0.mk (Kd.R_below (bK HO422.out) hb);have n5_:=Aside0.mk (Kd.R_lower (Kd.R_new' (Kd.R_new' (Kd.R_new' ho0 (Kd.R_lt (bK HO_8.out))) (Kd.R_lt (bK HO_11.out))) (Kd.R_lt (bK HO_12.out))) (below_size (bS GE376.out)));have n6_:=Aside0.mk (bM BK376.out hb);have n7_:=Aside0.mk (below_step (bS GE376.out) hb);clear HO_8 HO_10 HO_11 HO_12 HO422 BK376 HB;have HO_8:=n0_;have HO_10:=n1_;have HO_11:=n2_;have HO_12:=n3_;have HO422:=n4_;have HO426:=n5_;have BK376:=n6_;have HB:=n7_;clear n0_ n1_ n2_ n3_ n4_ n5_ n6_ n7_;(try clear hb);(try clear hb2);(try clear hk);(try clear hi);(try clear ho0);obtain⟨Ao107,co107,eo107⟩:=Kd.R_slice HO426.out;subst eo107)|((with_reducible refine gate_callee (f:=54) rfl ?_);refine goesA (some 71) rfl rfl Try.func54 #[.slice Ao38 t402.length co38,.slice Ao107 t424.length co107] rfl ?_;(with_reducible refine(laws_eqIntS.calls kj21 _ _ t402 _ _ t424 false _ ?side1 ?side2 ?side3 ?side4 A51.out).mono ?_);(case side1=>exact bT HO_11.out);(case side2=>exact(Kd.R_reads' HO_11.out).2.1);(case side3=>exact bT HO426.out);(case side4=>exact(Kd.R_reads' HO426.out).2.1);rintro e w' ⟨rfl,⟨nd,rfl⟩⟩;refine⟨_,rfl,?_⟩))
         go_ret
         exact⟨bE,bS GE376.out⟩
       ·replace c49:=Bool.eq_false_iff.mpr c49
        subst c49
        have H1:(some false)=some r:=by rw[if_neg (show ¬ (false=true) by decide)] at H;exact H
        clear H
        have H:=H1
        clear H1
        obtain rfl:=Option.some.inj H
        go_wp2_with (first|((with_reducible refine gate_callee (f:=50) rfl ?_);refine goesA (some 65) rfl rfl Try.func50 #[.slice A0 l0.length c0] rfl ?_;(with_reducible refine(laws_toContactS.calls kj21 _ _ l0 t420 _ ?side1 ?side2 A47.out).mono ?_);(case side1=>exact bC HR0.out);(case side2=>exact HC0.out);rintro e w108 ⟨v421,rfl,ho0,hb⟩;refine⟨_,rfl,?_⟩;have n0_:=Aside0.mk (Kd.R_below (bK HO_8.out) hb);have n1_:=Aside0.mk (Kd.R_elder' (bK HO_10.out) (Kd.R_base ho0) hb);have n2_:=Aside0.mk (Kd.R_below (bK HO_11.out) hb);have n3_:=Aside0.mk (Kd.R_below (bK HO_12.out) hb);have n4_:=Aside0.mk (Kd.R_lower (Kd.R_new' ho0 (Kd.R_lt (bK HO_10.out))) (below_size (bS GE376.out)));have n5_:=Aside0.mk (bM BK376.out hb);have n6_:=Aside0.mk (below_step (bS GE376.out) hb);clear HO_8 HO_10 HO_11 HO_12 BK376 HB;have HO_8:=n0_;have HO_10:=n1_;have HO_11:=n2_;have HO_12:=n3_;have HO422:=n4_;have BK376:=n5_;have HB:=n6_;clear n0_ n1_ n2_ n3_ n4_ n5_ n6_;(try clear hb);(try clear hb2);(try clear hk);(try clear hi);(try clear ho0);obtain⟨Ao109,co109,eo109⟩:=Kd.R_slice HO422.out;subst eo109)|((with_reducible refine gate_callee (f:=55) rfl ?_);refine goesA (some 66) rfl rfl Try.func55 #[.slice Ao37 t399.length co37,.slice Ao109 t420.length co109] rfl ?_;(with_reducible refine(laws_eqContactS.calls kj21 _ _ t399 _ _ t420 false _ ?side1 ?side2 ?side3 ?side4 A48.out).mono ?_);(case side1=>exact bT HO_10.out);(case side2=>exact(Kd.R_reads' HO_10.out).2.1);(case side3=>exact bT HO422.out);(case side4=>exact(Kd.R_reads' HO422.out).2.1);rintro e w110 ⟨rfl,hb⟩;refine⟨_,rfl,?_⟩;have n0_:=Aside0.mk (Kd.R_below (bK HO_8.out) hb);have n1_:=Aside0.mk (Kd.R_below (bK HO_10.out) hb);have n2_:=Aside0.mk (Kd.R_below (bK HO_11.out) hb);have n3_:=Aside0.mk (Kd.R_below (bK HO_12.out) hb);have n4_:=Aside0.mk (Kd.R_below (bK HO422.out) hb);have n5_:=Aside0.mk (bM BK376.out hb);have n6_:=Aside0.mk (below_step (bS GE376.out) hb);clear HO_8 HO_10 HO_11 HO_12 HO422 BK376 HB;have HO_8:=n0_;have HO_10:=n1_;have HO_11:=n2_;have HO_12:=n3_;have HO422:=n4_;have BK376:=n5_;have HB:=n6_;clear n0_ n1_ n2_ n3_ n4_ n5_ n6_;(try clear hb);(try clear hb2);(try clear hk);(try clear hi)))
        go_ret
        exact⟨bE,bS GE376.out⟩

end Go.Proofs.Ytjmanpicdeebgaa.XFnExactTreeFor
