-- Written by this session's own program (wip/xprint.py) out of the translation; Lean checks it.
import Derived.Test.YtnphabcbnpenjaaXFnExactMeetBothx0
import Derived.Test.YtnphabcbnpenjaaXFnExactMeetBothx1
import Derived.Test.YtnphabcbnpenjaaXFnExactMeetBothx3
import Derived.Test.YtnphabcbnpenjaaXFnExactMeetBothx5
import Derived.Test.YtnphabcbnpenjaaXFnExactMeetBothx6
namespace Go.Proofs.Ytnphabcbnpenjaa.XFnExactMeetBoth
open Go.RowKit Go.Proofs.YtnphabcbnpenjaaW.PrintWords Go.Proofs.YtnphabcbnpenjaaW.PrintLast Go.Proofs.YtnphabcbnpenjaaW.PrintMore
attribute [local go_sem] max2_int min2_int max_two min_two max_three min_three max_four min_four   -- for this text's walks alone
set_option linter.unusedVariables false
set_option linter.unusedSimpArgs false

/-! ### laws_FnExactMeetBoth: function 7 -/
mutual
def laws_FnExactMeetBoth.j0:Nat→Bool→Bool→Bool→List Int→Int→Bool→Int→Int→List Int→Int→Bool→List Int→Int→Bool→List Int→Int→Bool→Option (Bool)
 | 0,_,_,_,_,_,_,_,_,_,_,_,_,_,_,_,_,_=>none
 | k+1,x7,x10,x46,x236000,x236001,x236002,x237000,x237001,x252000,x252001,x252002,x258000,x258001,x258002,x267000,x267001,x267002=>if x46=true then (some false) else ((laws_toSpray.f k x236000 x236001 x236002).bind fun bt268=>((laws_eqSpray.f k x258000 x258001 x258002 bt268.1 bt268.2.1 bt268.2.2).bind fun t273=>(if t273=true then ((laws_markSpray.f k x258000 x258001 x258002 1).bind fun bt274=>(if bt274.1 < 0 then (laws_FnExactMeetBoth.j1 k x7 true x236000 x236001 x236002 x237000 x237001 x252000 x252001 x252002 x267000 x267001 x267002) else ((laws_eqSpray.f k x267000 x267001 x267002 x252000 x252001 x252002).bind fun t276=>(if t276=true then (laws_FnExactMeetBoth.j1 k x7 (x10 != x7) x236000 x236001 x236002 x237000 x237001 x252000 x252001 x252002 x267000 x267001 x267002) else (laws_FnExactMeetBoth.j1 k x7 true x236000 x236001 x236002 x237000 x237001 x252000 x252001 x252002 x267000 x267001 x267002))))) else (some false))))
def laws_FnExactMeetBoth.j1:Nat→Bool→Bool→List Int→Int→Bool→Int→Int→List Int→Int→Bool→List Int→Int→Bool→Option (Bool)
 | 0,_,_,_,_,_,_,_,_,_,_,_,_,_=>none
 | k+1,x7,x67,x236000,x236001,x236002,x237000,x237001,x252000,x252001,x252002,x267000,x267001,x267002=>if x67=true then (some false) else ((laws_markSpray.f k x267000 x267001 x267002 1).bind fun bt277=>((laws_heldSpray.f k bt277.2 x267001 x267002 1).bind fun t279=>(if t279 < 0 then (some false) else (if t279=bt277.1 then ((laws_toSpray.f k x236000 x236001 x236002).bind fun bt280=>((laws_toMeet.f x237000 x237001).bind fun bt285=>((impl_MeetBoth.f k bt280.1 bt280.2.1 bt280.2.2 bt285.1 bt285.2).bind fun bt287=>((laws_eqSpray.f k bt287.1 bt287.2.1 bt287.2.2.1 x252000 x252001 x252002).bind fun t294=>(if t294=true then (laws_FnExactMeetBoth.j2 k bt277.1 (bt287.2.2.2 != x7) bt277.2 x267001 x267002) else (laws_FnExactMeetBoth.j2 k bt277.1 true bt277.2 x267001 x267002)))))) else (some false)))))
def laws_FnExactMeetBoth.j2:Nat→Int→Bool→List Int→Int→Bool→Option (Bool)
 | 0,_,_,_,_,_=>none
 | k+1,x12,x95,x267000,x267001,x267002=>if x95=true then (some false) else ((laws_heldSpray.f k x267000 x267001 x267002 1).bind fun t295=>(if t295 < 0 then (some false) else (if t295=x12 then (some true) else (some false))))
end
def laws_FnExactMeetBoth.f (k:Nat) (l0_0:List Int) (a0_1:Int) (a0_2:Bool) (a1_0:Int) (a1_1:Int):Option (Bool):=(laws_szSpray.f l0_0 a0_1 a0_2 1048576).bind fun t237=>(if t237 < 0 then (some true) else ((laws_toSpray.f k l0_0 a0_1 a0_2).bind fun bt238=>((laws_toMeet.f a1_0 a1_1).bind fun bt243=>((spec_MeetBoth.f k bt238.1 bt238.2.1 bt238.2.2 bt243.1 bt243.2).bind fun bt245=>((laws_toSpray.f k l0_0 a0_1 a0_2).bind fun bt252=>((laws_toMeet.f a1_0 a1_1).bind fun bt258=>((impl_MeetBoth.f k bt252.1 bt252.2.1 bt252.2.2 bt258.1 bt258.2).bind fun bt260=>((laws_eqSpray.f k bt260.1 bt260.2.1 bt260.2.2.1 bt245.1 bt245.2.1 bt245.2.2.1).bind fun t267=>(if t267=true then (laws_FnExactMeetBoth.j0 k bt245.2.2.2 bt260.2.2.2 (bt260.2.2.2 != bt245.2.2.2) l0_0 a0_1 a0_2 a1_0 a1_1 bt245.1 bt245.2.1 bt245.2.2.1 bt252.1 bt252.2.1 bt252.2.2 bt260.1 bt260.2.1 bt260.2.2.1) else (laws_FnExactMeetBoth.j0 k bt245.2.2.2 bt260.2.2.2 true l0_0 a0_1 a0_2 a1_0 a1_1 bt245.1 bt245.2.1 bt245.2.2.1 bt252.1 bt252.2.1 bt252.2.2 bt260.1 bt260.2.1 bt260.2.2.1))))))))))
theorem laws_FnExactMeetBoth.mono_l : ∀ k,(∀ y0 y1 y2 y3 y4 y5 y6 y7 y8 y9 y10 y11 y12 y13 y14 y15 y16,LeO (laws_FnExactMeetBoth.j0 k y0 y1 y2 y3 y4 y5 y6 y7 y8 y9 y10 y11 y12 y13 y14 y15 y16) (laws_FnExactMeetBoth.j0 (k+1) y0 y1 y2 y3 y4 y5 y6 y7 y8 y9 y10 y11 y12 y13 y14 y15 y16))∧(∀ y0 y1 y2 y3 y4 y5 y6 y7 y8 y9 y10 y11 y12,LeO (laws_FnExactMeetBoth.j1 k y0 y1 y2 y3 y4 y5 y6 y7 y8 y9 y10 y11 y12) (laws_FnExactMeetBoth.j1 (k+1) y0 y1 y2 y3 y4 y5 y6 y7 y8 y9 y10 y11 y12))∧(∀ y0 y1 y2 y3 y4,LeO (laws_FnExactMeetBoth.j2 k y0 y1 y2 y3 y4) (laws_FnExactMeetBoth.j2 (k+1) y0 y1 y2 y3 y4))
 | 0=>⟨fun _ _ _ _ _ _ _ _ _ _ _ _ _ _ _ _ _ r h=>by simp[laws_FnExactMeetBoth.j0] at h,fun _ _ _ _ _ _ _ _ _ _ _ _ _ r h=>by simp[laws_FnExactMeetBoth.j1] at h,fun _ _ _ _ _ r h=>by simp[laws_FnExactMeetBoth.j2] at h⟩
 | k+1=>by
  obtain⟨ih0,ih1,ih2⟩:=laws_FnExactMeetBoth.mono_l k
  refine⟨?_,?_,?_⟩
  ·intro y0 y1 y2 y3 y4 y5 y6 y7 y8 y9 y10 y11 y12 y13 y14 y15 y16
   unfold laws_FnExactMeetBoth.j0
   repeat' first
   | (with_reducible exact ih0 _ _ _ _ _ _ _ _ _ _ _ _ _ _ _ _ _)
   | (with_reducible exact ih1 _ _ _ _ _ _ _ _ _ _ _ _ _)
   | (with_reducible exact ih2 _ _ _ _ _)
   | (with_reducible exact impl_MeetBoth.mono _ _ _ _ _ _)
   | (with_reducible exact laws_eqSpray.mono _ _ _ _ _ _ _)
   | (with_reducible exact laws_heldSpray.mono _ _ _ _ _)
   | (with_reducible exact laws_markSpray.mono _ _ _ _ _)
   | (with_reducible exact laws_toSpray.mono _ _ _ _)
   | (with_reducible exact spec_MeetBoth.mono _ _ _ _ _ _)
   | (with_reducible exact LeO.refl _)
   | (with_reducible exact LeO.none _)
   | (with_reducible refine LeO.ite ?_ ?_)
   | (with_reducible refine LeO.bind ?_ (fun _ => ?_))
   | exact ih0 _ _ _ _ _ _ _ _ _ _ _ _ _ _ _ _ _
   | exact ih1 _ _ _ _ _ _ _ _ _ _ _ _ _
   | exact ih2 _ _ _ _ _
   | exact impl_MeetBoth.mono _ _ _ _ _ _
   | exact laws_eqSpray.mono _ _ _ _ _ _ _
   | exact laws_heldSpray.mono _ _ _ _ _
   | exact laws_markSpray.mono _ _ _ _ _
   | exact laws_toSpray.mono _ _ _ _
   | exact spec_MeetBoth.mono _ _ _ _ _ _
   | exact LeO.none _
   | refine LeO.ite ?_ ?_
   | refine LeO.bind ?_ (fun _ => ?_)
  ·intro y0 y1 y2 y3 y4 y5 y6 y7 y8 y9 y10 y11 y12
   unfold laws_FnExactMeetBoth.j1
   repeat' first
   | (with_reducible exact ih0 _ _ _ _ _ _ _ _ _ _ _ _ _ _ _ _ _)
   | (with_reducible exact ih1 _ _ _ _ _ _ _ _ _ _ _ _ _)
   | (with_reducible exact ih2 _ _ _ _ _)
   | (with_reducible exact impl_MeetBoth.mono _ _ _ _ _ _)
   | (with_reducible exact laws_eqSpray.mono _ _ _ _ _ _ _)
   | (with_reducible exact laws_heldSpray.mono _ _ _ _ _)
   | (with_reducible exact laws_markSpray.mono _ _ _ _ _)
   | (with_reducible exact laws_toSpray.mono _ _ _ _)
   | (with_reducible exact spec_MeetBoth.mono _ _ _ _ _ _)
   | (with_reducible exact LeO.refl _)
   | (with_reducible exact LeO.none _)
   | (with_reducible refine LeO.ite ?_ ?_)
   | (with_reducible refine LeO.bind ?_ (fun _ => ?_))
   | exact ih0 _ _ _ _ _ _ _ _ _ _ _ _ _ _ _ _ _
   | exact ih1 _ _ _ _ _ _ _ _ _ _ _ _ _
   | exact ih2 _ _ _ _ _
   | exact impl_MeetBoth.mono _ _ _ _ _ _
   | exact laws_eqSpray.mono _ _ _ _ _ _ _
   | exact laws_heldSpray.mono _ _ _ _ _
   | exact laws_markSpray.mono _ _ _ _ _
   | exact laws_toSpray.mono _ _ _ _
   | exact spec_MeetBoth.mono _ _ _ _ _ _
   | exact LeO.none _
   | refine LeO.ite ?_ ?_
   | refine LeO.bind ?_ (fun _ => ?_)
  ·intro y0 y1 y2 y3 y4
   unfold laws_FnExactMeetBoth.j2
   repeat' first
   | (with_reducible exact ih0 _ _ _ _ _ _ _ _ _ _ _ _ _ _ _ _ _)
   | (with_reducible exact ih1 _ _ _ _ _ _ _ _ _ _ _ _ _)
   | (with_reducible exact ih2 _ _ _ _ _)
   | (with_reducible exact impl_MeetBoth.mono _ _ _ _ _ _)
   | (with_reducible exact laws_eqSpray.mono _ _ _ _ _ _ _)
   | (with_reducible exact laws_heldSpray.mono _ _ _ _ _)
   | (with_reducible exact laws_markSpray.mono _ _ _ _ _)
   | (with_reducible exact laws_toSpray.mono _ _ _ _)
   | (with_reducible exact spec_MeetBoth.mono _ _ _ _ _ _)
   | (with_reducible exact LeO.refl _)
   | (with_reducible exact LeO.none _)
   | (with_reducible refine LeO.ite ?_ ?_)
   | (with_reducible refine LeO.bind ?_ (fun _ => ?_))
   | exact ih0 _ _ _ _ _ _ _ _ _ _ _ _ _ _ _ _ _
   | exact ih1 _ _ _ _ _ _ _ _ _ _ _ _ _
   | exact ih2 _ _ _ _ _
   | exact impl_MeetBoth.mono _ _ _ _ _ _
   | exact laws_eqSpray.mono _ _ _ _ _ _ _
   | exact laws_heldSpray.mono _ _ _ _ _
   | exact laws_markSpray.mono _ _ _ _ _
   | exact laws_toSpray.mono _ _ _ _
   | exact spec_MeetBoth.mono _ _ _ _ _ _
   | exact LeO.none _
   | refine LeO.ite ?_ ?_
   | refine LeO.bind ?_ (fun _ => ?_)
theorem laws_FnExactMeetBoth.mono : ∀ a0 a1 a2 a3 a4 k,LeO (laws_FnExactMeetBoth.f k a0 a1 a2 a3 a4) (laws_FnExactMeetBoth.f (k+1) a0 a1 a2 a3 a4):=by
 intro a0 a1 a2 a3 a4 k
 obtain⟨ih0,ih1,ih2⟩:=laws_FnExactMeetBoth.mono_l k
 unfold laws_FnExactMeetBoth.f
 repeat' first
  | (with_reducible exact ih0 _ _ _ _ _ _ _ _ _ _ _ _ _ _ _ _ _)
  | (with_reducible exact ih1 _ _ _ _ _ _ _ _ _ _ _ _ _)
  | (with_reducible exact ih2 _ _ _ _ _)
  | (with_reducible exact impl_MeetBoth.mono _ _ _ _ _ _)
  | (with_reducible exact laws_eqSpray.mono _ _ _ _ _ _ _)
  | (with_reducible exact laws_heldSpray.mono _ _ _ _ _)
  | (with_reducible exact laws_markSpray.mono _ _ _ _ _)
  | (with_reducible exact laws_toSpray.mono _ _ _ _)
  | (with_reducible exact spec_MeetBoth.mono _ _ _ _ _ _)
  | (with_reducible exact LeO.refl _)
  | (with_reducible exact LeO.none _)
  | (with_reducible refine LeO.ite ?_ ?_)
  | (with_reducible refine LeO.bind ?_ (fun _ => ?_))
  | exact ih0 _ _ _ _ _ _ _ _ _ _ _ _ _ _ _ _ _
  | exact ih1 _ _ _ _ _ _ _ _ _ _ _ _ _
  | exact ih2 _ _ _ _ _
  | exact impl_MeetBoth.mono _ _ _ _ _ _
  | exact laws_eqSpray.mono _ _ _ _ _ _ _
  | exact laws_heldSpray.mono _ _ _ _ _
  | exact laws_markSpray.mono _ _ _ _ _
  | exact laws_toSpray.mono _ _ _ _
  | exact spec_MeetBoth.mono _ _ _ _ _ _
  | exact LeO.none _
  | refine LeO.ite ?_ ?_
  | refine LeO.bind ?_ (fun _ => ?_)
def laws_FnExactMeetBoth.T5:Bool × List (List Nat × List Nat):=(true,[([],[]),([0],[0]),([],[]),([2,1],[2]),([1,3,3],[1,3]),([4],[4]),([5],[5]),([5],[5]),([],[]),([8,6,4,0,1,2,3,4,5,6,8],[6,8]),([7,9,0,1,2,3,4,5,6,7,8,9],[7])])
def laws_FnExactMeetBoth.B5:List Nat:=[0,1,0,7,15,31,63,63,0,383,1023]
theorem laws_FnExactMeetBoth.tab5:rtab .any (opsOf Try.f7 5)=laws_FnExactMeetBoth.T5:=by kernel_rfl
theorem laws_FnExactMeetBoth.bits5:waitsOk laws_FnExactMeetBoth.T5.2 laws_FnExactMeetBoth.B5=true:=by kernel_rfl
def laws_FnExactMeetBoth.T7:Bool × List (List Nat × List Nat):=(true,[([],[]),([],[]),([1],[1]),([0,2,2],[0,2]),([3],[3]),([4],[4]),([4],[4]),([],[]),([7,5,3,0,1,2,3,4,5,7],[5,7]),([6,8,0,1,2,3,4,5,6,7,8],[6])])
def laws_FnExactMeetBoth.B7:List Nat:=[0,0,2,7,15,31,31,0,191,511]
theorem laws_FnExactMeetBoth.tab7:rtab .any (opsOf Try.f7 7)=laws_FnExactMeetBoth.T7:=by kernel_rfl
theorem laws_FnExactMeetBoth.bits7:waitsOk laws_FnExactMeetBoth.T7.2 laws_FnExactMeetBoth.B7=true:=by kernel_rfl
def laws_FnExactMeetBoth.T24:Bool × List (List Nat × List Nat):=(true,[([],[]),([0],[0]),([],[]),([2,1],[2]),([1,3,3],[1,3]),([4],[4]),([5],[5]),([5],[5]),([],[]),([8,6,4,0,1,2,3,4,5,6,8],[6,8]),([7,9,0,1,2,3,4,5,6,7,8,9],[7])])
def laws_FnExactMeetBoth.B24:List Nat:=[0,1,0,7,15,31,63,63,0,383,1023]
theorem laws_FnExactMeetBoth.tab24:rtab .any (opsOf Try.f7 24)=laws_FnExactMeetBoth.T24:=by kernel_rfl
theorem laws_FnExactMeetBoth.bits24:waitsOk laws_FnExactMeetBoth.T24.2 laws_FnExactMeetBoth.B24=true:=by kernel_rfl
set_option maxHeartbeats 8000000 in
set_option maxRecDepth 100000 in
theorem laws_FnExactMeetBoth.calls (k:Nat) (A0_0:Option Addr) (c0_0:Nat) (l0_0:List Int) (a0_1:Int) (a0_2:Bool) (a1_0:Int) (a1_1:Int) (r:Bool) (w:World) (hr0_0:Kd.C (Kd.int .i64) w A0_0 l0_0.length l0_0) (hc0_0:l0_0.length≤c0_0) (h:laws_FnExactMeetBoth.f k l0_0 a0_1 a0_2 a1_0 a1_1=some r) :
  Calls Try.prog 7 #[.agg #[.slice A0_0 l0_0.length c0_0,.int .i64 a0_1,.bool a0_2],.agg #[.int .i64 a1_0,.int .i64 a1_1]] w fun e w'=>e=.returned (.bool r)∧Below w.heap.size w w':=by
 have hu35:=Try.underlying35
 have hu57:=Try.underlying57
 have hu39:=Try.underlying39
 have HR0_0:=Aside0.mk hr0_0
 have HC0_0:=Aside0.mk hc0_0
 clear hr0_0 hc0_0
 have HB:=Aside0.mk (Below.refl w.heap.size w)
 have H:((laws_szSpray.f l0_0 a0_1 a0_2 1048576).bind fun t237=>(if t237 < 0 then (some true) else ((laws_toSpray.f k l0_0 a0_1 a0_2).bind fun bt238=>((laws_toMeet.f a1_0 a1_1).bind fun bt243=>((spec_MeetBoth.f k bt238.1 bt238.2.1 bt238.2.2 bt243.1 bt243.2).bind fun bt245=>((laws_toSpray.f k l0_0 a0_1 a0_2).bind fun bt252=>((laws_toMeet.f a1_0 a1_1).bind fun bt258=>((impl_MeetBoth.f k bt252.1 bt252.2.1 bt252.2.2 bt258.1 bt258.2).bind fun bt260=>((laws_eqSpray.f k bt260.1 bt260.2.1 bt260.2.2.1 bt245.1 bt245.2.1 bt245.2.2.1).bind fun t267=>(if t267=true then (laws_FnExactMeetBoth.j0 k bt245.2.2.2 bt260.2.2.2 (bt260.2.2.2 != bt245.2.2.2) l0_0 a0_1 a0_2 a1_0 a1_1 bt245.1 bt245.2.1 bt245.2.2.1 bt252.1 bt252.2.1 bt252.2.2 bt260.1 bt260.2.1 bt260.2.2.1) else (laws_FnExactMeetBoth.j0 k bt245.2.2.2 bt260.2.2.2 true l0_0 a0_1 a0_2 a1_0 a1_1 bt245.1 bt245.2.1 bt245.2.2.1 bt252.1 bt252.2.1 bt252.2.2 bt260.1 bt260.2.1 bt260.2.2.1)))))))))))=some r:=h
 clear h
 replace H:=Option.bind_eq_some_iff.mp H
 obtain⟨t237,A30,H⟩:=H
 have A3:=Aside0.mk A30
 clear A30
 by_cases c4:t237 < 0
 ·rw[if_pos c4] at H
  have c4b0:decide (t237 < 0)=true:=decide_eq_true c4
  clear c4
  obtain rfl:=Option.some.inj H
  go_enter Try.func7,Try.ntmps7
  go_wp2_with (first|((with_reducible refine gate_dst (N:=2) rfl ?_);refine box_event ?hg (N:=2) ?hd (cs:=#[.slice A0_0 l0_0.length c0_0,.int .i64 a0_1,.bool a0_2]) (t:=35) ?hr ?_;(case hd=>rfl);(case hg=>rfl);(case hr=>first|(go_simp;done)|(go_simp;rfl));intro gb235 hg w5 hbox hb;have n0_:=Aside0.mk (below_step (bB) hb);have n1_:=Aside0.mk (hbox);have n2_:=Aside0.mk ((bG:w.heap.size≤gb235));have n3_:=Aside0.mk ((bG:w.heap.size≤gb235));clear HB;have HB:=n0_;have BK235:=n1_;have GW235:=n2_;have GE235:=n3_;clear n0_ n1_ n2_ n3_;clear hb hbox hg)|((with_reducible refine gate_dst (N:=3) rfl ?_);refine box_event ?hg (N:=3) ?hd (cs:=#[.int .i64 a1_0,.int .i64 a1_1]) (t:=57) ?hr ?_;(case hd=>rfl);(case hg=>rfl);(case hr=>first|(go_simp;done)|(go_simp;rfl));intro gb236 hg w6 hbox hb;have n0_:=Aside0.mk (bM BK235.out hb);have n1_:=Aside0.mk (below_step (bS GE235.out) hb);have n2_:=Aside0.mk (hbox);have n3_:=Aside0.mk ((by rw[hg];exact(below_size (bS GE235.out)):w.heap.size≤gb236));have n4_:=Aside0.mk ((by rw[hg];exact(below_size (bS GE235.out)):w.heap.size≤gb236));have n5_:=Aside0.mk ((bN BK235.out hg:gb235≠gb236));have n6_:=Aside0.mk ((bO BK235.out hg:gb236≠gb235));clear BK235 HB;have BK235:=n0_;have HB:=n1_;have BK236:=n2_;have GW236:=n3_;have GE236:=n4_;have NB235_236:=n5_;have NB236_235:=n6_;clear n0_ n1_ n2_ n3_ n4_ n5_ n6_;clear hb hbox hg;have hnb7:=NB235_236.out;have hnc7:=NB236_235.out;obtain⟨hcz8_0,hcz8_1,hcz8_2⟩:=cC3 BK235.out;obtain⟨hfz8_0,hfz8_1,hfz8_2⟩:=cF3 BK235.out)|((with_reducible refine gate_callee (f:=20) rfl ?_);refine goesA (some 18) rfl rfl Try.func20 #[.agg #[.slice A0_0 l0_0.length c0_0,.int .i64 a0_1,.bool a0_2],.int .i64 1048576] rfl ?_;(with_reducible refine(laws_szSpray.calls _ _ l0_0 a0_1 a0_2 1048576 t237 _ ?side1 ?side2 A3.out).mono ?_);(case side1=>exact bC HR0_0.out);(case side2=>exact HC0_0.out);rintro e w9 ⟨rfl,hb⟩;refine⟨_,rfl,?_⟩;have n0_:=Aside0.mk (bM BK235.out hb);have n1_:=Aside0.mk (bM BK236.out hb);have n2_:=Aside0.mk (below_step (bS2 GE235.out GE236.out) hb);clear BK235 BK236 HB;have BK235:=n0_;have BK236:=n1_;have HB:=n2_;clear n0_ n1_ n2_;(try clear hb);(try clear hb2);(try clear hk);(try clear hi)))
  go_ret
  exact⟨bE,bS2 GE235.out GE236.out⟩
 ·rw[if_neg c4] at H
  have c4b0:decide (t237 < 0)=false:=decide_eq_false c4
  clear c4
  replace H:=Option.bind_eq_some_iff.mp H
  obtain⟨⟨t238,t241,t242⟩,A100,H⟩:=H
  have A10:=Aside0.mk A100
  clear A100
  replace H:=Option.bind_eq_some_iff.mp H
  obtain⟨⟨t243,t244⟩,A110,H⟩:=H
  have A11:=Aside0.mk A110
  clear A110
  replace H:=Option.bind_eq_some_iff.mp H
  obtain⟨⟨t245,t248,t249,t250⟩,A120,H⟩:=H
  have A12:=Aside0.mk A120
  clear A120
  replace H:=Option.bind_eq_some_iff.mp H
  obtain⟨⟨t252,t255,t256⟩,A130,H⟩:=H
  have A13:=Aside0.mk A130
  clear A130
  replace H:=Option.bind_eq_some_iff.mp H
  obtain⟨⟨t258,t259⟩,A140,H⟩:=H
  have A14:=Aside0.mk A140
  clear A140
  replace H:=Option.bind_eq_some_iff.mp H
  obtain⟨⟨t260,t263,t264,t265⟩,A150,H⟩:=H
  have A15:=Aside0.mk A150
  clear A150
  have HC16:=Aside0.mk H
  clear H
  go_enter Try.func7,Try.ntmps7
  try go_wp2_with (first|((with_reducible refine gate_dst (N:=2) rfl ?_);refine box_event ?hg (N:=2) ?hd (cs:=#[.slice A0_0 l0_0.length c0_0,.int .i64 a0_1,.bool a0_2]) (t:=35) ?hr ?_;(case hd=>rfl);(case hg=>rfl);(case hr=>first|(go_simp;done)|(go_simp;rfl));intro gb235 hg w17 hbox hb;have n0_:=Aside0.mk (below_step (bB) hb);have n1_:=Aside0.mk (hbox);have n2_:=Aside0.mk ((bG:w.heap.size≤gb235));have n3_:=Aside0.mk ((bG:w.heap.size≤gb235));clear HB;have HB:=n0_;have BK235:=n1_;have GW235:=n2_;have GE235:=n3_;clear n0_ n1_ n2_ n3_;clear hb hbox hg)|((with_reducible refine gate_dst (N:=3) rfl ?_);refine box_event ?hg (N:=3) ?hd (cs:=#[.int .i64 a1_0,.int .i64 a1_1]) (t:=57) ?hr ?_;(case hd=>rfl);(case hg=>rfl);(case hr=>first|(go_simp;done)|(go_simp;rfl));intro gb236 hg w18 hbox hb;have n0_:=Aside0.mk (bM BK235.out hb);have n1_:=Aside0.mk (below_step (bS GE235.out) hb);have n2_:=Aside0.mk (hbox);have n3_:=Aside0.mk ((by rw[hg];exact(below_size (bS GE235.out)):w.heap.size≤gb236));have n4_:=Aside0.mk ((by rw[hg];exact(below_size (bS GE235.out)):w.heap.size≤gb236));have n5_:=Aside0.mk ((bN BK235.out hg:gb235≠gb236));have n6_:=Aside0.mk ((bO BK235.out hg:gb236≠gb235));clear BK235 HB;have BK235:=n0_;have HB:=n1_;have BK236:=n2_;have GW236:=n3_;have GE236:=n4_;have NB235_236:=n5_;have NB236_235:=n6_;clear n0_ n1_ n2_ n3_ n4_ n5_ n6_;clear hb hbox hg;have hnb19:=NB235_236.out;have hnc19:=NB236_235.out;obtain⟨hcz20_0,hcz20_1,hcz20_2⟩:=cC3 BK235.out;obtain⟨hfz20_0,hfz20_1,hfz20_2⟩:=cF3 BK235.out)|((with_reducible refine gate_callee (f:=20) rfl ?_);refine goesA (some 18) rfl rfl Try.func20 #[.agg #[.slice A0_0 l0_0.length c0_0,.int .i64 a0_1,.bool a0_2],.int .i64 1048576] rfl ?_;(with_reducible refine(laws_szSpray.calls _ _ l0_0 a0_1 a0_2 1048576 t237 _ ?side1 ?side2 A3.out).mono ?_);(case side1=>exact bC HR0_0.out);(case side2=>exact HC0_0.out);rintro e w21 ⟨rfl,hb⟩;refine⟨_,rfl,?_⟩;have n0_:=Aside0.mk (bM BK235.out hb);have n1_:=Aside0.mk (bM BK236.out hb);have n2_:=Aside0.mk (below_step (bS2 GE235.out GE236.out) hb);clear BK235 BK236 HB;have BK235:=n0_;have BK236:=n1_;have HB:=n2_;clear n0_ n1_ n2_;(try clear hb);(try clear hb2);(try clear hk);(try clear hi)))
  (try (rw[drewN_self w21];generalize hq_:World.drewN w21 _=w21;have n0_:=Aside0.mk (blk_at hq_ BK235.out);have n1_:=Aside0.mk (blk_at hq_ BK236.out);have n2_:=Aside0.mk (below_at hq_ HB.out);clear hq_ BK235 BK236 HB;have BK235:=n0_;have BK236:=n1_;have HB:=n2_;clear n0_ n1_ n2_))
  have n0_:=Aside0.mk (blk_drew BK235.out)
  have n1_:=Aside0.mk (blk_drew BK236.out)
  have n2_:=Aside0.mk (below_drew1 HB.out)
  clear BK235 BK236 HB
  have BK235:=n0_
  have BK236:=n1_
  have HB:=n2_
  clear n0_ n1_ n2_
  refine start_ (n:=11) (S:=fun w'=>w'.cell? ⟨gb235,0,none⟩=some (.slice A0_0 l0_0.length c0_0)∧w'.cell? ⟨gb235,1,none⟩=some (.int .i64 a0_1)∧w'.cell? ⟨gb235,2,none⟩=some (.bool a0_2)∧w'.cell? ⟨gb236,0,none⟩=some (.int .i64 a1_0)∧w'.cell? ⟨gb236,1,none⟩=some (.int .i64 a1_1)) (ds:=[]) #[false,false,false,false,false,false,false,false,false,false,false] (by kernel_rfl) rfl rfl ⟨(blk_cell BK235.out 0).trans rfl,(blk_cell BK235.out 1).trans rfl,(blk_cell BK235.out 2).trans rfl,(blk_cell BK236.out 0).trans rfl,(blk_cell BK236.out 1).trans rfl⟩ (fun hHeld => ?_);refine with_tabW laws_FnExactMeetBoth.tab5 laws_FnExactMeetBoth.bits5 (fun HT_ HW_ => ?_)
  generalize w21.drew=w22 at BK235 BK236 HB hHeld ⊢
  refine take_ (i:=0) (N:=some 22) (v:=?_) (a':=?_) #[true,false,false,false,false,false,false,false,false,false,false] rfl rfl (take_ofW HT_.out HW_.out (by kernel_rfl)) (fun _ _ _ h=>h) (Or.inl ⟨by rfl,?_⟩) hHeld ?_ ?_
  rotate_left
  ·rintro w' ⟨s0,s1,s2,s3,s4⟩
   go_simp
   with_reducible rfl
  rotate_left
  ·simp only[Act.put,List.setIfInBounds_toArray,List.set_cons_zero,List.set_cons_succ,i64_w,i32_w]
   rfl
  refine take_ (i:=2) (N:=some 24) (v:=?_) (a':=?_) #[true,false,true,false,false,false,false,false,false,false,false] rfl rfl (take_ofW HT_.out HW_.out (by kernel_rfl)) (fun _ _ _ h=>h) (Or.inl ⟨by rfl,?_⟩) hHeld ?_ ?_
  rotate_left
  ·rintro w' ⟨s0,s1,s2,s3,s4⟩
   go_simp
   with_reducible rfl
  rotate_left
  ·simp only[Act.put,List.setIfInBounds_toArray,List.set_cons_zero,List.set_cons_succ,i64_w,i32_w]
   rfl
  refine join_ (σ:=Value × Value × Nat) 2 #[true,true,true,true,true,true,true,true,true,false,false] (fun s_=>[(23,.agg #[s_.1,.int .i64 t241,.bool t242]),(25,.agg #[.int .i64 t243,.int .i64 t244]),(26,.tuple #[.agg #[s_.2.1,.int .i64 t248,.bool t249],.bool t250]),(6,.pointer (some ⟨s_.2.2,0,none⟩)),(21,.tuple #[.agg #[s_.2.1,.int .i64 t248,.bool t249],.bool t250]),(27,.agg #[s_.2.1,.int .i64 t248,.bool t249]),(28,.bool t250)]) (fun s_ w'=>(w'.cell? ⟨gb235,0,none⟩=some (.slice A0_0 l0_0.length c0_0)∧w'.cell? ⟨gb235,1,none⟩=some (.int .i64 a0_1)∧w'.cell? ⟨gb235,2,none⟩=some (.bool a0_2)∧w'.cell? ⟨gb236,0,none⟩=some (.int .i64 a1_0)∧w'.cell? ⟨gb236,1,none⟩=some (.int .i64 a1_1))∧(Kd.R (Kd.int .i64) 3 w' w.heap.size (fun k_=>some k_≠(s_.2.1:Value).ownBlock) s_.1 t238)∧(Kd.R (Kd.int .i64) 3 w' w.heap.size (fun k_=>some k_≠(s_.1:Value).ownBlock) s_.2.1 t245)∧(w'.heap[gb235]?=some (.cells #[.slice A0_0 l0_0.length c0_0,.int .i64 a0_1,.bool a0_2] 35 (0,0)))∧(w'.heap[gb236]?=some (.cells #[.int .i64 a1_0,.int .i64 a1_1] 57 (0,0)))∧(w'.heap[s_.2.2]?=some (.cells #[.slice none 0 0,.int .i64 0,.bool false] 39 (0,0)))∧(w.heap.size≤s_.2.2)∧(w.heap.size≤s_.2.2)∧(gb235≠s_.2.2)∧(s_.2.2≠gb235)∧(gb236≠s_.2.2)∧(s_.2.2≠gb236)∧(Below w.heap.size w w')) ?_ ?_
  rotate_left
  ·intro hCont
   refine two_ (i:=1) (j:=8) (Ni:=some 23) (Nj:=some 6) #[true,true,true,false,false,false,false,false,false,false,false] #[true,false,true,false,false,false,false,false,true,false,false] rfl rfl rfl rfl (two_of HT_.out (by kernel_rfl)) (by decide) (by decide) (fun K hK => ?_) (fun K hK => ?_)
   ·skip
    refine goes_ Try.func22 (by kernel_rfl) rfl #[.agg #[.slice A0_0 l0_0.length c0_0,.int .i64 a0_1,.bool a0_2]] (by rfl) rfl rfl (by(try simp only[List.map_toArray,List.map_cons,List.map_nil]);first|done|rfl|(simp only[List.length_drop,List.length_take];rfl)) ?_
    with_reducible refine(laws_toSpray.calls k _ _ l0_0 a0_1 a0_2 t238 t241 t242 _ ?side1 ?side2 A10.out).mono ?_
    (case side1=>exact bC HR0_0.out)
    (case side2=>exact HC0_0.out)
    rintro e w23 ⟨v239,rfl,ho0,hb⟩
    refine⟨_,rfl,?_⟩
    have n0_:=Aside0.mk (Kd.R_lower ho0 (below_size (bS2 GE235.out GE236.out)))
    have n1_:=Aside0.mk (bM BK235.out hb)
    have n2_:=Aside0.mk (bM BK236.out hb)
    have n3_:=Aside0.mk (below_step (bS2 GE235.out GE236.out) hb)
    clear BK235 BK236 HB
    have HO240:=n0_
    have BK235:=n1_
    have BK236:=n2_
    have HB:=n3_
    clear n0_ n1_ n2_ n3_
    (try clear hb)
    (try clear hb2)
    (try clear hk)
    (try clear hi)
    (try clear ho0)
    refine hK.out _ _ ⟨(blk_cell BK235.out 0).trans rfl,(blk_cell BK235.out 1).trans rfl,(blk_cell BK235.out 2).trans rfl,(blk_cell BK236.out 0).trans rfl,(blk_cell BK236.out 1).trans rfl⟩ (fun hHeld => ?_)
    clear hK K
    refine norm_ (a':=?_) ?_ ?_
    rotate_left
    ·show Act.put _ (some 23) _=_
     simp only[Act.put,List.setIfInBounds_toArray,List.set_cons_zero,List.set_cons_succ,i64_w,i32_w]
     rfl
    refine two_ (i:=3) (j:=8) (Ni:=some 25) (Nj:=some 6) #[true,true,true,true,false,false,false,false,false,false,false] #[true,true,true,false,false,false,false,false,true,false,false] rfl rfl rfl rfl (two_of HT_.out (by kernel_rfl)) (by decide) (by decide) (fun K hK => ?_) (fun K hK => ?_)
    ·skip
     refine goes_ Try.func38 (by kernel_rfl) rfl #[.agg #[.int .i64 a1_0,.int .i64 a1_1]] (by rfl) rfl rfl (by(try simp only[List.map_toArray,List.map_cons,List.map_nil]);first|done|rfl|(simp only[List.length_drop,List.length_take];rfl)) ?_
     with_reducible refine(laws_toMeet.calls a1_0 a1_1 t243 t244 _ A11.out).mono ?_
     rintro e w24 ⟨rfl,hb⟩
     refine⟨_,rfl,?_⟩
     have n0_:=Aside0.mk (Kd.R_below (bK HO240.out) hb)
     have n1_:=Aside0.mk (bM BK235.out hb)
     have n2_:=Aside0.mk (bM BK236.out hb)
     have n3_:=Aside0.mk (below_step (bS2 GE235.out GE236.out) hb)
     clear HO240 BK235 BK236 HB
     have HO240:=n0_
     have BK235:=n1_
     have BK236:=n2_
     have HB:=n3_
     clear n0_ n1_ n2_ n3_
     (try clear hb)
     (try clear hb2)
     (try clear hk)
     (try clear hi)
     obtain⟨Ao25,co25,eo25⟩:=Kd.R_slice HO240.out
     (first|subst eo25|(injection eo25 with f1_ f2_ f3_;have f4_:=f1_.symm;have f5_:=f3_.symm;clear f1_ f2_ f3_;subst f4_;subst f5_))
     refine hK.out _ _ ⟨(blk_cell BK235.out 0).trans rfl,(blk_cell BK235.out 1).trans rfl,(blk_cell BK235.out 2).trans rfl,(blk_cell BK236.out 0).trans rfl,(blk_cell BK236.out 1).trans rfl⟩ (fun hHeld => ?_)
     clear hK K
     refine norm_ (a':=?_) ?_ ?_
     rotate_left
     ·show Act.put _ (some 25) _=_
      simp only[Act.put,List.setIfInBounds_toArray,List.set_cons_zero,List.set_cons_succ,i64_w,i32_w]
      rfl
     refine two_ (i:=4) (j:=8) (Ni:=some 26) (Nj:=some 6) #[true,true,true,true,true,false,false,false,false,false,false] #[true,true,true,true,false,false,false,false,true,false,false] rfl rfl rfl rfl (two_of HT_.out (by kernel_rfl)) (by decide) (by decide) (fun K hK => ?_) (fun K hK => ?_)
     ·skip
      refine goes_ Try.func37 (by kernel_rfl) rfl #[.agg #[.slice Ao25 t238.length co25,.int .i64 t241,.bool t242],.agg #[.int .i64 t243,.int .i64 t244]] (by rfl) rfl rfl (by(try simp only[List.map_toArray,List.map_cons,List.map_nil]);first|done|rfl|(simp only[List.length_drop,List.length_take];rfl)) ?_
      with_reducible refine(spec_MeetBoth.calls k _ _ t238 t241 t242 t243 t244 t245 t248 t249 t250 _ ?side1 ?side2 A12.out).mono ?_
      (case side1=>exact bT HO240.out)
      (case side2=>exact(Kd.R_reads' HO240.out).2.1)
      rintro e w26 ⟨v246,rfl,ho0,hb⟩
      refine⟨_,rfl,?_⟩
      have n0_:=Aside0.mk (Kd.R_elder' (bK HO240.out) (Kd.R_base ho0) hb)
      have n1_:=Aside0.mk (Kd.R_lower (Kd.R_new' ho0 (Kd.R_lt (bK HO240.out))) (below_size (bS2 GE235.out GE236.out)))
      have n2_:=Aside0.mk (bM BK235.out hb)
      have n3_:=Aside0.mk (bM BK236.out hb)
      have n4_:=Aside0.mk (below_step (bS2 GE235.out GE236.out) hb)
      clear HO240 BK235 BK236 HB
      have HO240:=n0_
      have HO247:=n1_
      have BK235:=n2_
      have BK236:=n3_
      have HB:=n4_
      clear n0_ n1_ n2_ n3_ n4_
      (try clear hb)
      (try clear hb2)
      (try clear hk)
      (try clear hi)
      (try clear ho0)
      refine hK.out _ _ ⟨(blk_cell BK235.out 0).trans rfl,(blk_cell BK235.out 1).trans rfl,(blk_cell BK235.out 2).trans rfl,(blk_cell BK236.out 0).trans rfl,(blk_cell BK236.out 1).trans rfl⟩ (fun hHeld => ?_)
      clear hK K
      refine norm_ (a':=?_) ?_ ?_
      rotate_left
      ·show Act.put _ (some 26) _=_
       simp only[Act.put,List.setIfInBounds_toArray,List.set_cons_zero,List.set_cons_succ,i64_w,i32_w]
       rfl
      refine pure_ (i:=5) (N:=some 21) (v:=?_) (a':=?_) #[true,true,true,true,true,true,false,false,false,false,false] rfl rfl (any_of HT_.out (by kernel_rfl)) (fun _ _ _ h=>h) (Or.inl ⟨by rfl,?_⟩) ?_ ?_
      rotate_left
      ·intro w'
       go_simp
       with_reducible rfl
      rotate_left
      ·simp only[Act.put,List.setIfInBounds_toArray,List.set_cons_zero,List.set_cons_succ,i64_w,i32_w]
       rfl
      refine pure_ (i:=6) (N:=some 27) (v:=?_) (a':=?_) #[true,true,true,true,true,true,true,false,false,false,false] rfl rfl (any_of HT_.out (by kernel_rfl)) (fun _ _ _ h=>h) (Or.inl ⟨by rfl,?_⟩) ?_ ?_
      rotate_left
      ·intro w'
       go_simp
       with_reducible rfl
      rotate_left
      ·simp only[Act.put,List.setIfInBounds_toArray,List.set_cons_zero,List.set_cons_succ,i64_w,i32_w]
       rfl
      refine pure_ (i:=7) (N:=some 28) (v:=?_) (a':=?_) #[true,true,true,true,true,true,true,true,false,false,false] rfl rfl (any_of HT_.out (by kernel_rfl)) (fun _ _ _ h=>h) (Or.inl ⟨by rfl,?_⟩) ?_ ?_
      rotate_left
      ·intro w'
       go_simp
       with_reducible rfl
      rotate_left
      ·simp only[Act.put,List.setIfInBounds_toArray,List.set_cons_zero,List.set_cons_succ,i64_w,i32_w]
       rfl
      refine one_ (i:=8) (N:=some 6) #[true,true,true,true,true,true,true,true,true,false,false] rfl rfl (one_of HT_.out (by kernel_rfl)) (by decide) (fun K hK => ?_)
      refine box_step ?hg (N:=6) ?hd (cs:=#[.slice none 0 0,.int .i64 0,.bool false]) (t:=39) ?hr ?_;(case hd=>rfl);(case hg=>rfl);(case hr=>first|(go_simp;done)|(go_simp;rfl))
      intro gb251 hg w27 hbox hb
      have n0_:=Aside0.mk (Kd.R_below (bK HO240.out) hb)
      have n1_:=Aside0.mk (Kd.R_below (bK HO247.out) hb)
      have n2_:=Aside0.mk (bM BK235.out hb)
      have n3_:=Aside0.mk (bM BK236.out hb)
      have n4_:=Aside0.mk (below_step (bS2 GE235.out GE236.out) hb)
      have n5_:=Aside0.mk (hbox)
      have n6_:=Aside0.mk ((by rw[hg];exact(below_size (bS2 GE235.out GE236.out)):w.heap.size≤gb251))
      have n7_:=Aside0.mk ((by rw[hg];exact(below_size (bS2 GE235.out GE236.out)):w.heap.size≤gb251))
      have n8_:=Aside0.mk ((bN BK235.out hg:gb235≠gb251))
      have n9_:=Aside0.mk ((bO BK235.out hg:gb251≠gb235))
      have n10_:=Aside0.mk ((bN BK236.out hg:gb236≠gb251))
      have n11_:=Aside0.mk ((bO BK236.out hg:gb251≠gb236))
      clear HO240 HO247 BK235 BK236 HB
      have HO240:=n0_
      have HO247:=n1_
      have BK235:=n2_
      have BK236:=n3_
      have HB:=n4_
      have BK251:=n5_
      have GW251:=n6_
      have GE251:=n7_
      have NB235_251:=n8_
      have NB251_235:=n9_
      have NB236_251:=n10_
      have NB251_236:=n11_
      clear n0_ n1_ n2_ n3_ n4_ n5_ n6_ n7_ n8_ n9_ n10_ n11_ hb hbox hg
      refine hK.out _ _ ⟨(blk_cell BK235.out 0).trans rfl,(blk_cell BK235.out 1).trans rfl,(blk_cell BK235.out 2).trans rfl,(blk_cell BK236.out 0).trans rfl,(blk_cell BK236.out 1).trans rfl⟩ (fun hHeld => ?_)
      clear hK K
      refine norm_ (a':=?_) ?_ ?_
      rotate_left
      ·show Act.put _ (some 6) _=_
       simp only[Act.put,List.setIfInBounds_toArray,List.set_cons_zero,List.set_cons_succ,i64_w,i32_w]
       rfl
      exact norm_ (by simp only[putAll,Act.put,List.setIfInBounds_toArray,List.set_cons_zero,List.set_cons_succ]) (hCont (.slice Ao25 t238.length co25,v246,gb251) _ ⟨hHeld,(by(with_reducible repeat (first|apply Kd.R_alloc|apply Kd.R_drewN|apply Kd.R_drew));exact Kd.R_mono HO240.out (fun _ hk=>hk.2)),(by(with_reducible repeat (first|apply Kd.R_alloc|apply Kd.R_drewN|apply Kd.R_drew));exact Kd.R_mono HO247.out (fun _ hk=>hk.2)),(bL BK235.out),(bL BK236.out),(bL BK251.out),GW251.out,GE251.out,NB235_251.out,NB251_235.out,NB236_251.out,NB251_236.out,(bS3 GE235.out GE236.out GE251.out)⟩)
     ·skip
      refine box_step ?hg (N:=6) ?hd (cs:=#[.slice none 0 0,.int .i64 0,.bool false]) (t:=39) ?hr ?_;(case hd=>rfl);(case hg=>rfl);(case hr=>first|(go_simp;done)|(go_simp;rfl))
      intro gb251 hg w25 hbox hb
      have n0_:=Aside0.mk (Kd.R_below (bK HO240.out) hb)
      have n1_:=Aside0.mk (bM BK235.out hb)
      have n2_:=Aside0.mk (bM BK236.out hb)
      have n3_:=Aside0.mk (below_step (bS2 GE235.out GE236.out) hb)
      have n4_:=Aside0.mk (hbox)
      have n5_:=Aside0.mk ((by rw[hg];exact(below_size (bS2 GE235.out GE236.out)):w.heap.size≤gb251))
      have n6_:=Aside0.mk ((by rw[hg];exact(below_size (bS2 GE235.out GE236.out)):w.heap.size≤gb251))
      have n7_:=Aside0.mk ((bN BK235.out hg:gb235≠gb251))
      have n8_:=Aside0.mk ((bO BK235.out hg:gb251≠gb235))
      have n9_:=Aside0.mk ((bN BK236.out hg:gb236≠gb251))
      have n10_:=Aside0.mk ((bO BK236.out hg:gb251≠gb236))
      clear HO240 BK235 BK236 HB
      have HO240:=n0_
      have BK235:=n1_
      have BK236:=n2_
      have HB:=n3_
      have BK251:=n4_
      have GW251:=n5_
      have GE251:=n6_
      have NB235_251:=n7_
      have NB251_235:=n8_
      have NB236_251:=n9_
      have NB251_236:=n10_
      clear n0_ n1_ n2_ n3_ n4_ n5_ n6_ n7_ n8_ n9_ n10_ hb hbox hg
      obtain⟨Ao26,co26,eo26⟩:=Kd.R_slice HO240.out
      (first|subst eo26|(injection eo26 with f1_ f2_ f3_;have f4_:=f1_.symm;have f5_:=f3_.symm;clear f1_ f2_ f3_;subst f4_;subst f5_))
      refine hK.out _ _ ⟨(blk_cell BK235.out 0).trans rfl,(blk_cell BK235.out 1).trans rfl,(blk_cell BK235.out 2).trans rfl,(blk_cell BK236.out 0).trans rfl,(blk_cell BK236.out 1).trans rfl⟩ (fun hHeld => ?_)
      clear hK K
      refine norm_ (a':=?_) ?_ ?_
      rotate_left
      ·show Act.put _ (some 6) _=_
       simp only[Act.put,List.setIfInBounds_toArray,List.set_cons_zero,List.set_cons_succ,i64_w,i32_w]
       rfl
      refine one_ (i:=4) (N:=some 26) #[true,true,true,true,true,false,false,false,true,false,false] rfl rfl (one_of HT_.out (by kernel_rfl)) (by decide) (fun K hK => ?_)
      refine goes_ Try.func37 (by kernel_rfl) rfl #[.agg #[.slice Ao26 t238.length co26,.int .i64 t241,.bool t242],.agg #[.int .i64 t243,.int .i64 t244]] (by rfl) rfl rfl (by(try simp only[List.map_toArray,List.map_cons,List.map_nil]);first|done|rfl|(simp only[List.length_drop,List.length_take];rfl)) ?_
      with_reducible refine(spec_MeetBoth.calls k _ _ t238 t241 t242 t243 t244 t245 t248 t249 t250 _ ?side1 ?side2 A12.out).mono ?_
      (case side1=>exact bT HO240.out)
      (case side2=>exact(Kd.R_reads' HO240.out).2.1)
      rintro e w27 ⟨v246,rfl,ho0,hb⟩
      refine⟨_,rfl,?_⟩
      have n0_:=Aside0.mk (Kd.R_elder' (bK HO240.out) (Kd.R_base ho0) hb)
      have n1_:=Aside0.mk (Kd.R_lower (Kd.R_new' ho0 (Kd.R_lt (bK HO240.out))) (below_size (bS3 GE235.out GE236.out GE251.out)))
      have n2_:=Aside0.mk (bM BK235.out hb)
      have n3_:=Aside0.mk (bM BK236.out hb)
      have n4_:=Aside0.mk (bM BK251.out hb)
      have n5_:=Aside0.mk (below_step (bS3 GE235.out GE236.out GE251.out) hb)
      clear HO240 BK235 BK236 BK251 HB
      have HO240:=n0_
      have HO247:=n1_
      have BK235:=n2_
      have BK236:=n3_
      have BK251:=n4_
      have HB:=n5_
      clear n0_ n1_ n2_ n3_ n4_ n5_
      (try clear hb)
      (try clear hb2)
      (try clear hk)
      (try clear hi)
      (try clear ho0)
      refine hK.out _ _ ⟨(blk_cell BK235.out 0).trans rfl,(blk_cell BK235.out 1).trans rfl,(blk_cell BK235.out 2).trans rfl,(blk_cell BK236.out 0).trans rfl,(blk_cell BK236.out 1).trans rfl⟩ (fun hHeld => ?_)
      clear hK K
      refine norm_ (a':=?_) ?_ ?_
      rotate_left
      ·show Act.put _ (some 26) _=_
       simp only[Act.put,List.setIfInBounds_toArray,List.set_cons_zero,List.set_cons_succ,i64_w,i32_w]
       rfl
      refine pure_ (i:=5) (N:=some 21) (v:=?_) (a':=?_) #[true,true,true,true,true,true,false,false,true,false,false] rfl rfl (any_of HT_.out (by kernel_rfl)) (fun _ _ _ h=>h) (Or.inl ⟨by rfl,?_⟩) ?_ ?_
      rotate_left
      ·intro w'
       go_simp
       with_reducible rfl
      rotate_left
      ·simp only[Act.put,List.setIfInBounds_toArray,List.set_cons_zero,List.set_cons_succ,i64_w,i32_w]
       rfl
      refine pure_ (i:=6) (N:=some 27) (v:=?_) (a':=?_) #[true,true,true,true,true,true,true,false,true,false,false] rfl rfl (any_of HT_.out (by kernel_rfl)) (fun _ _ _ h=>h) (Or.inl ⟨by rfl,?_⟩) ?_ ?_
      rotate_left
      ·intro w'
       go_simp
       with_reducible rfl
      rotate_left
      ·simp only[Act.put,List.setIfInBounds_toArray,List.set_cons_zero,List.set_cons_succ,i64_w,i32_w]
       rfl
      refine pure_ (i:=7) (N:=some 28) (v:=?_) (a':=?_) #[true,true,true,true,true,true,true,true,true,false,false] rfl rfl (any_of HT_.out (by kernel_rfl)) (fun _ _ _ h=>h) (Or.inl ⟨by rfl,?_⟩) ?_ ?_
      rotate_left
      ·intro w'
       go_simp
       with_reducible rfl
      rotate_left
      ·simp only[Act.put,List.setIfInBounds_toArray,List.set_cons_zero,List.set_cons_succ,i64_w,i32_w]
       rfl
      exact norm_ (by simp only[putAll,Act.put,List.setIfInBounds_toArray,List.set_cons_zero,List.set_cons_succ]) (hCont (.slice Ao26 t238.length co26,v246,gb251) _ ⟨hHeld,(by(with_reducible repeat (first|apply Kd.R_alloc|apply Kd.R_drewN|apply Kd.R_drew));exact Kd.R_mono HO240.out (fun _ hk=>hk.2)),(by(with_reducible repeat (first|apply Kd.R_alloc|apply Kd.R_drewN|apply Kd.R_drew));exact Kd.R_mono HO247.out (fun _ hk=>hk.2)),(bL BK235.out),(bL BK236.out),(bL BK251.out),GW251.out,GE251.out,NB235_251.out,NB251_235.out,NB236_251.out,NB251_236.out,(bS3 GE235.out GE236.out GE251.out)⟩)
    ·skip
     refine box_step ?hg (N:=6) ?hd (cs:=#[.slice none 0 0,.int .i64 0,.bool false]) (t:=39) ?hr ?_;(case hd=>rfl);(case hg=>rfl);(case hr=>first|(go_simp;done)|(go_simp;rfl))
     intro gb251 hg w24 hbox hb
     have n0_:=Aside0.mk (Kd.R_below (bK HO240.out) hb)
     have n1_:=Aside0.mk (bM BK235.out hb)
     have n2_:=Aside0.mk (bM BK236.out hb)
     have n3_:=Aside0.mk (below_step (bS2 GE235.out GE236.out) hb)
     have n4_:=Aside0.mk (hbox)
     have n5_:=Aside0.mk ((by rw[hg];exact(below_size (bS2 GE235.out GE236.out)):w.heap.size≤gb251))
     have n6_:=Aside0.mk ((by rw[hg];exact(below_size (bS2 GE235.out GE236.out)):w.heap.size≤gb251))
     have n7_:=Aside0.mk ((bN BK235.out hg:gb235≠gb251))
     have n8_:=Aside0.mk ((bO BK235.out hg:gb251≠gb235))
     have n9_:=Aside0.mk ((bN BK236.out hg:gb236≠gb251))
     have n10_:=Aside0.mk ((bO BK236.out hg:gb251≠gb236))
     clear HO240 BK235 BK236 HB
     have HO240:=n0_
     have BK235:=n1_
     have BK236:=n2_
     have HB:=n3_
     have BK251:=n4_
     have GW251:=n5_
     have GE251:=n6_
     have NB235_251:=n7_
     have NB251_235:=n8_
     have NB236_251:=n9_
     have NB251_236:=n10_
     clear n0_ n1_ n2_ n3_ n4_ n5_ n6_ n7_ n8_ n9_ n10_ hb hbox hg
     refine hK.out _ _ ⟨(blk_cell BK235.out 0).trans rfl,(blk_cell BK235.out 1).trans rfl,(blk_cell BK235.out 2).trans rfl,(blk_cell BK236.out 0).trans rfl,(blk_cell BK236.out 1).trans rfl⟩ (fun hHeld => ?_)
     clear hK K
     refine norm_ (a':=?_) ?_ ?_
     rotate_left
     ·show Act.put _ (some 6) _=_
      simp only[Act.put,List.setIfInBounds_toArray,List.set_cons_zero,List.set_cons_succ,i64_w,i32_w]
      rfl
     refine one_ (i:=3) (N:=some 25) #[true,true,true,true,false,false,false,false,true,false,false] rfl rfl (one_of HT_.out (by kernel_rfl)) (by decide) (fun K hK => ?_)
     refine goes_ Try.func38 (by kernel_rfl) rfl #[.agg #[.int .i64 a1_0,.int .i64 a1_1]] (by rfl) rfl rfl (by(try simp only[List.map_toArray,List.map_cons,List.map_nil]);first|done|rfl|(simp only[List.length_drop,List.length_take];rfl)) ?_
     with_reducible refine(laws_toMeet.calls a1_0 a1_1 t243 t244 _ A11.out).mono ?_
     rintro e w25 ⟨rfl,hb⟩
     refine⟨_,rfl,?_⟩
     have n0_:=Aside0.mk (Kd.R_below (bK HO240.out) hb)
     have n1_:=Aside0.mk (bM BK235.out hb)
     have n2_:=Aside0.mk (bM BK236.out hb)
     have n3_:=Aside0.mk (bM BK251.out hb)
     have n4_:=Aside0.mk (below_step (bS3 GE235.out GE236.out GE251.out) hb)
     clear HO240 BK235 BK236 BK251 HB
     have HO240:=n0_
     have BK235:=n1_
     have BK236:=n2_
     have BK251:=n3_
     have HB:=n4_
     clear n0_ n1_ n2_ n3_ n4_
     (try clear hb)
     (try clear hb2)
     (try clear hk)
     (try clear hi)
     obtain⟨Ao26,co26,eo26⟩:=Kd.R_slice HO240.out
     (first|subst eo26|(injection eo26 with f1_ f2_ f3_;have f4_:=f1_.symm;have f5_:=f3_.symm;clear f1_ f2_ f3_;subst f4_;subst f5_))
     refine hK.out _ _ ⟨(blk_cell BK235.out 0).trans rfl,(blk_cell BK235.out 1).trans rfl,(blk_cell BK235.out 2).trans rfl,(blk_cell BK236.out 0).trans rfl,(blk_cell BK236.out 1).trans rfl⟩ (fun hHeld => ?_)
     clear hK K
     refine norm_ (a':=?_) ?_ ?_
     rotate_left
     ·show Act.put _ (some 25) _=_
      simp only[Act.put,List.setIfInBounds_toArray,List.set_cons_zero,List.set_cons_succ,i64_w,i32_w]
      rfl
     refine one_ (i:=4) (N:=some 26) #[true,true,true,true,true,false,false,false,true,false,false] rfl rfl (one_of HT_.out (by kernel_rfl)) (by decide) (fun K hK => ?_)
     refine goes_ Try.func37 (by kernel_rfl) rfl #[.agg #[.slice Ao26 t238.length co26,.int .i64 t241,.bool t242],.agg #[.int .i64 t243,.int .i64 t244]] (by rfl) rfl rfl (by(try simp only[List.map_toArray,List.map_cons,List.map_nil]);first|done|rfl|(simp only[List.length_drop,List.length_take];rfl)) ?_
     with_reducible refine(spec_MeetBoth.calls k _ _ t238 t241 t242 t243 t244 t245 t248 t249 t250 _ ?side1 ?side2 A12.out).mono ?_
     (case side1=>exact bT HO240.out)
     (case side2=>exact(Kd.R_reads' HO240.out).2.1)
     rintro e w27 ⟨v246,rfl,ho0,hb⟩
     refine⟨_,rfl,?_⟩
     have n0_:=Aside0.mk (Kd.R_elder' (bK HO240.out) (Kd.R_base ho0) hb)
     have n1_:=Aside0.mk (Kd.R_lower (Kd.R_new' ho0 (Kd.R_lt (bK HO240.out))) (below_size (bS3 GE235.out GE236.out GE251.out)))
     have n2_:=Aside0.mk (bM BK235.out hb)
     have n3_:=Aside0.mk (bM BK236.out hb)
     have n4_:=Aside0.mk (bM BK251.out hb)
     have n5_:=Aside0.mk (below_step (bS3 GE235.out GE236.out GE251.out) hb)
     clear HO240 BK235 BK236 BK251 HB
     have HO240:=n0_
     have HO247:=n1_
     have BK235:=n2_
     have BK236:=n3_
     have BK251:=n4_
     have HB:=n5_
     clear n0_ n1_ n2_ n3_ n4_ n5_
     (try clear hb)
     (try clear hb2)
     (try clear hk)
     (try clear hi)
     (try clear ho0)
     refine hK.out _ _ ⟨(blk_cell BK235.out 0).trans rfl,(blk_cell BK235.out 1).trans rfl,(blk_cell BK235.out 2).trans rfl,(blk_cell BK236.out 0).trans rfl,(blk_cell BK236.out 1).trans rfl⟩ (fun hHeld => ?_)
     clear hK K
     refine norm_ (a':=?_) ?_ ?_
     rotate_left
     ·show Act.put _ (some 26) _=_
      simp only[Act.put,List.setIfInBounds_toArray,List.set_cons_zero,List.set_cons_succ,i64_w,i32_w]
      rfl
     refine pure_ (i:=5) (N:=some 21) (v:=?_) (a':=?_) #[true,true,true,true,true,true,false,false,true,false,false] rfl rfl (any_of HT_.out (by kernel_rfl)) (fun _ _ _ h=>h) (Or.inl ⟨by rfl,?_⟩) ?_ ?_
     rotate_left
     ·intro w'
      go_simp
      with_reducible rfl
     rotate_left
     ·simp only[Act.put,List.setIfInBounds_toArray,List.set_cons_zero,List.set_cons_succ,i64_w,i32_w]
      rfl
     refine pure_ (i:=6) (N:=some 27) (v:=?_) (a':=?_) #[true,true,true,true,true,true,true,false,true,false,false] rfl rfl (any_of HT_.out (by kernel_rfl)) (fun _ _ _ h=>h) (Or.inl ⟨by rfl,?_⟩) ?_ ?_
     rotate_left
     ·intro w'
      go_simp
      with_reducible rfl
     rotate_left
     ·simp only[Act.put,List.setIfInBounds_toArray,List.set_cons_zero,List.set_cons_succ,i64_w,i32_w]
      rfl
     refine pure_ (i:=7) (N:=some 28) (v:=?_) (a':=?_) #[true,true,true,true,true,true,true,true,true,false,false] rfl rfl (any_of HT_.out (by kernel_rfl)) (fun _ _ _ h=>h) (Or.inl ⟨by rfl,?_⟩) ?_ ?_
     rotate_left
     ·intro w'
      go_simp
      with_reducible rfl
     rotate_left
     ·simp only[Act.put,List.setIfInBounds_toArray,List.set_cons_zero,List.set_cons_succ,i64_w,i32_w]
      rfl
     exact norm_ (by simp only[putAll,Act.put,List.setIfInBounds_toArray,List.set_cons_zero,List.set_cons_succ]) (hCont (.slice Ao26 t238.length co26,v246,gb251) _ ⟨hHeld,(by(with_reducible repeat (first|apply Kd.R_alloc|apply Kd.R_drewN|apply Kd.R_drew));exact Kd.R_mono HO240.out (fun _ hk=>hk.2)),(by(with_reducible repeat (first|apply Kd.R_alloc|apply Kd.R_drewN|apply Kd.R_drew));exact Kd.R_mono HO247.out (fun _ hk=>hk.2)),(bL BK235.out),(bL BK236.out),(bL BK251.out),GW251.out,GE251.out,NB235_251.out,NB251_235.out,NB236_251.out,NB251_236.out,(bS3 GE235.out GE236.out GE251.out)⟩)
   ·skip
    refine box_step ?hg (N:=6) ?hd (cs:=#[.slice none 0 0,.int .i64 0,.bool false]) (t:=39) ?hr ?_;(case hd=>rfl);(case hg=>rfl);(case hr=>first|(go_simp;done)|(go_simp;rfl))
    intro gb251 hg w23 hbox hb
    have n0_:=Aside0.mk (bM BK235.out hb)
    have n1_:=Aside0.mk (bM BK236.out hb)
    have n2_:=Aside0.mk (below_step (bS2 GE235.out GE236.out) hb)
    have n3_:=Aside0.mk (hbox)
    have n4_:=Aside0.mk ((by rw[hg];exact(below_size (bS2 GE235.out GE236.out)):w.heap.size≤gb251))
    have n5_:=Aside0.mk ((by rw[hg];exact(below_size (bS2 GE235.out GE236.out)):w.heap.size≤gb251))
    have n6_:=Aside0.mk ((bN BK235.out hg:gb235≠gb251))
    have n7_:=Aside0.mk ((bO BK235.out hg:gb251≠gb235))
    have n8_:=Aside0.mk ((bN BK236.out hg:gb236≠gb251))
    have n9_:=Aside0.mk ((bO BK236.out hg:gb251≠gb236))
    clear BK235 BK236 HB
    have BK235:=n0_
    have BK236:=n1_
    have HB:=n2_
    have BK251:=n3_
    have GW251:=n4_
    have GE251:=n5_
    have NB235_251:=n6_
    have NB251_235:=n7_
    have NB236_251:=n8_
    have NB251_236:=n9_
    clear n0_ n1_ n2_ n3_ n4_ n5_ n6_ n7_ n8_ n9_ hb hbox hg
    refine hK.out _ _ ⟨(blk_cell BK235.out 0).trans rfl,(blk_cell BK235.out 1).trans rfl,(blk_cell BK235.out 2).trans rfl,(blk_cell BK236.out 0).trans rfl,(blk_cell BK236.out 1).trans rfl⟩ (fun hHeld => ?_)
    clear hK K
    refine norm_ (a':=?_) ?_ ?_
    rotate_left
    ·show Act.put _ (some 6) _=_
     simp only[Act.put,List.setIfInBounds_toArray,List.set_cons_zero,List.set_cons_succ,i64_w,i32_w]
     rfl
    refine one_ (i:=1) (N:=some 23) #[true,true,true,false,false,false,false,false,true,false,false] rfl rfl (one_of HT_.out (by kernel_rfl)) (by decide) (fun K hK => ?_)
    refine goes_ Try.func22 (by kernel_rfl) rfl #[.agg #[.slice A0_0 l0_0.length c0_0,.int .i64 a0_1,.bool a0_2]] (by rfl) rfl rfl (by(try simp only[List.map_toArray,List.map_cons,List.map_nil]);first|done|rfl|(simp only[List.length_drop,List.length_take];rfl)) ?_
    with_reducible refine(laws_toSpray.calls k _ _ l0_0 a0_1 a0_2 t238 t241 t242 _ ?side1 ?side2 A10.out).mono ?_
    (case side1=>exact bC HR0_0.out)
    (case side2=>exact HC0_0.out)
    rintro e w24 ⟨v239,rfl,ho0,hb⟩
    refine⟨_,rfl,?_⟩
    have n0_:=Aside0.mk (Kd.R_lower ho0 (below_size (bS3 GE235.out GE236.out GE251.out)))
    have n1_:=Aside0.mk (bM BK235.out hb)
    have n2_:=Aside0.mk (bM BK236.out hb)
    have n3_:=Aside0.mk (bM BK251.out hb)
    have n4_:=Aside0.mk (below_step (bS3 GE235.out GE236.out GE251.out) hb)
    clear BK235 BK236 BK251 HB
    have HO240:=n0_
    have BK235:=n1_
    have BK236:=n2_
    have BK251:=n3_
    have HB:=n4_
    clear n0_ n1_ n2_ n3_ n4_
    (try clear hb)
    (try clear hb2)
    (try clear hk)
    (try clear hi)
    (try clear ho0)
    refine hK.out _ _ ⟨(blk_cell BK235.out 0).trans rfl,(blk_cell BK235.out 1).trans rfl,(blk_cell BK235.out 2).trans rfl,(blk_cell BK236.out 0).trans rfl,(blk_cell BK236.out 1).trans rfl⟩ (fun hHeld => ?_)
    clear hK K
    refine norm_ (a':=?_) ?_ ?_
    rotate_left
    ·show Act.put _ (some 23) _=_
     simp only[Act.put,List.setIfInBounds_toArray,List.set_cons_zero,List.set_cons_succ,i64_w,i32_w]
     rfl
    refine one_ (i:=3) (N:=some 25) #[true,true,true,true,false,false,false,false,true,false,false] rfl rfl (one_of HT_.out (by kernel_rfl)) (by decide) (fun K hK => ?_)
    refine goes_ Try.func38 (by kernel_rfl) rfl #[.agg #[.int .i64 a1_0,.int .i64 a1_1]] (by rfl) rfl rfl (by(try simp only[List.map_toArray,List.map_cons,List.map_nil]);first|done|rfl|(simp only[List.length_drop,List.length_take];rfl)) ?_
    with_reducible refine(laws_toMeet.calls a1_0 a1_1 t243 t244 _ A11.out).mono ?_
    rintro e w25 ⟨rfl,hb⟩
    refine⟨_,rfl,?_⟩
    have n0_:=Aside0.mk (Kd.R_below (bK HO240.out) hb)
    have n1_:=Aside0.mk (bM BK235.out hb)
    have n2_:=Aside0.mk (bM BK236.out hb)
    have n3_:=Aside0.mk (bM BK251.out hb)
    have n4_:=Aside0.mk (below_step (bS3 GE235.out GE236.out GE251.out) hb)
    clear HO240 BK235 BK236 BK251 HB
    have HO240:=n0_
    have BK235:=n1_
    have BK236:=n2_
    have BK251:=n3_
    have HB:=n4_
    clear n0_ n1_ n2_ n3_ n4_
    (try clear hb)
    (try clear hb2)
    (try clear hk)
    (try clear hi)
    obtain⟨Ao26,co26,eo26⟩:=Kd.R_slice HO240.out
    (first|subst eo26|(injection eo26 with f1_ f2_ f3_;have f4_:=f1_.symm;have f5_:=f3_.symm;clear f1_ f2_ f3_;subst f4_;subst f5_))
    refine hK.out _ _ ⟨(blk_cell BK235.out 0).trans rfl,(blk_cell BK235.out 1).trans rfl,(blk_cell BK235.out 2).trans rfl,(blk_cell BK236.out 0).trans rfl,(blk_cell BK236.out 1).trans rfl⟩ (fun hHeld => ?_)
    clear hK K
    refine norm_ (a':=?_) ?_ ?_
    rotate_left
    ·show Act.put _ (some 25) _=_
     simp only[Act.put,List.setIfInBounds_toArray,List.set_cons_zero,List.set_cons_succ,i64_w,i32_w]
     rfl
    refine one_ (i:=4) (N:=some 26) #[true,true,true,true,true,false,false,false,true,false,false] rfl rfl (one_of HT_.out (by kernel_rfl)) (by decide) (fun K hK => ?_)
    refine goes_ Try.func37 (by kernel_rfl) rfl #[.agg #[.slice Ao26 t238.length co26,.int .i64 t241,.bool t242],.agg #[.int .i64 t243,.int .i64 t244]] (by rfl) rfl rfl (by(try simp only[List.map_toArray,List.map_cons,List.map_nil]);first|done|rfl|(simp only[List.length_drop,List.length_take];rfl)) ?_
    with_reducible refine(spec_MeetBoth.calls k _ _ t238 t241 t242 t243 t244 t245 t248 t249 t250 _ ?side1 ?side2 A12.out).mono ?_
    (case side1=>exact bT HO240.out)
    (case side2=>exact(Kd.R_reads' HO240.out).2.1)
    rintro e w27 ⟨v246,rfl,ho0,hb⟩
    refine⟨_,rfl,?_⟩
    have n0_:=Aside0.mk (Kd.R_elder' (bK HO240.out) (Kd.R_base ho0) hb)
    have n1_:=Aside0.mk (Kd.R_lower (Kd.R_new' ho0 (Kd.R_lt (bK HO240.out))) (below_size (bS3 GE235.out GE236.out GE251.out)))
    have n2_:=Aside0.mk (bM BK235.out hb)
    have n3_:=Aside0.mk (bM BK236.out hb)
    have n4_:=Aside0.mk (bM BK251.out hb)
    have n5_:=Aside0.mk (below_step (bS3 GE235.out GE236.out GE251.out) hb)
    clear HO240 BK235 BK236 BK251 HB
    have HO240:=n0_
    have HO247:=n1_
    have BK235:=n2_
    have BK236:=n3_
    have BK251:=n4_
    have HB:=n5_
    clear n0_ n1_ n2_ n3_ n4_ n5_
    (try clear hb)
    (try clear hb2)
    (try clear hk)
    (try clear hi)
    (try clear ho0)
    refine hK.out _ _ ⟨(blk_cell BK235.out 0).trans rfl,(blk_cell BK235.out 1).trans rfl,(blk_cell BK235.out 2).trans rfl,(blk_cell BK236.out 0).trans rfl,(blk_cell BK236.out 1).trans rfl⟩ (fun hHeld => ?_)
    clear hK K
    refine norm_ (a':=?_) ?_ ?_
    rotate_left
    ·show Act.put _ (some 26) _=_
     simp only[Act.put,List.setIfInBounds_toArray,List.set_cons_zero,List.set_cons_succ,i64_w,i32_w]
     rfl
    refine pure_ (i:=5) (N:=some 21) (v:=?_) (a':=?_) #[true,true,true,true,true,true,false,false,true,false,false] rfl rfl (any_of HT_.out (by kernel_rfl)) (fun _ _ _ h=>h) (Or.inl ⟨by rfl,?_⟩) ?_ ?_
    rotate_left
    ·intro w'
     go_simp
     with_reducible rfl
    rotate_left
    ·simp only[Act.put,List.setIfInBounds_toArray,List.set_cons_zero,List.set_cons_succ,i64_w,i32_w]
     rfl
    refine pure_ (i:=6) (N:=some 27) (v:=?_) (a':=?_) #[true,true,true,true,true,true,true,false,true,false,false] rfl rfl (any_of HT_.out (by kernel_rfl)) (fun _ _ _ h=>h) (Or.inl ⟨by rfl,?_⟩) ?_ ?_
    rotate_left
    ·intro w'
     go_simp
     with_reducible rfl
    rotate_left
    ·simp only[Act.put,List.setIfInBounds_toArray,List.set_cons_zero,List.set_cons_succ,i64_w,i32_w]
     rfl
    refine pure_ (i:=7) (N:=some 28) (v:=?_) (a':=?_) #[true,true,true,true,true,true,true,true,true,false,false] rfl rfl (any_of HT_.out (by kernel_rfl)) (fun _ _ _ h=>h) (Or.inl ⟨by rfl,?_⟩) ?_ ?_
    rotate_left
    ·intro w'
     go_simp
     with_reducible rfl
    rotate_left
    ·simp only[Act.put,List.setIfInBounds_toArray,List.set_cons_zero,List.set_cons_succ,i64_w,i32_w]
     rfl
    exact norm_ (by simp only[putAll,Act.put,List.setIfInBounds_toArray,List.set_cons_zero,List.set_cons_succ]) (hCont (.slice Ao26 t238.length co26,v246,gb251) _ ⟨hHeld,(by(with_reducible repeat (first|apply Kd.R_alloc|apply Kd.R_drewN|apply Kd.R_drew));exact Kd.R_mono HO240.out (fun _ hk=>hk.2)),(by(with_reducible repeat (first|apply Kd.R_alloc|apply Kd.R_drewN|apply Kd.R_drew));exact Kd.R_mono HO247.out (fun _ hk=>hk.2)),(bL BK235.out),(bL BK236.out),(bL BK251.out),GW251.out,GE251.out,NB235_251.out,NB251_235.out,NB236_251.out,NB251_236.out,(bS3 GE235.out GE236.out GE251.out)⟩)
  rintro⟨v239,v246,gb251⟩ w28 ⟨hS_,h0_,h1_,h2_,h3_,h4_,h5_,h6_,h7_,h8_,h9_,h10_,h11_⟩
  have n0_:Aside0 (Kd.R (Kd.int .i64) 3 w28 w.heap.size (fun k_=>some k_≠(v246:Value).ownBlock) v239 t238):=⟨h0_⟩
  have n1_:Aside0 (Kd.R (Kd.int .i64) 3 w28 w.heap.size (fun k_=>some k_≠(v239:Value).ownBlock) v246 t245):=⟨h1_⟩
  have n2_:Aside0 (w28.heap[gb235]?=some (.cells #[.slice A0_0 l0_0.length c0_0,.int .i64 a0_1,.bool a0_2] 35 (0,0))):=⟨h2_⟩
  have n3_:Aside0 (w28.heap[gb236]?=some (.cells #[.int .i64 a1_0,.int .i64 a1_1] 57 (0,0))):=⟨h3_⟩
  have n4_:Aside0 (w28.heap[gb251]?=some (.cells #[.slice none 0 0,.int .i64 0,.bool false] 39 (0,0))):=⟨h4_⟩
  have n5_:Aside0 (w.heap.size≤gb251):=⟨h5_⟩
  have n6_:Aside0 (w.heap.size≤gb251):=⟨h6_⟩
  have n7_:Aside0 (gb235≠gb251):=⟨h7_⟩
  have n8_:Aside0 (gb251≠gb235):=⟨h8_⟩
  have n9_:Aside0 (gb236≠gb251):=⟨h9_⟩
  have n10_:Aside0 (gb251≠gb236):=⟨h10_⟩
  have n11_:Aside0 (Below w.heap.size w w28):=⟨h11_⟩
  clear BK235 BK236 HB h0_ h1_ h2_ h3_ h4_ h5_ h6_ h7_ h8_ h9_ h10_ h11_
  have HO240:=n0_
  have HO247:=n1_
  have BK235:=n2_
  have BK236:=n3_
  have BK251:=n4_
  have GW251:=n5_
  have GE251:=n6_
  have NB235_251:=n7_
  have NB251_235:=n8_
  have NB236_251:=n9_
  have NB251_236:=n10_
  have HB:=n11_
  clear n0_ n1_ n2_ n3_ n4_ n5_ n6_ n7_ n8_ n9_ n10_ n11_
  have hHeld:w28.cell? ⟨gb235,0,none⟩=some (.slice A0_0 l0_0.length c0_0)∧w28.cell? ⟨gb235,1,none⟩=some (.int .i64 a0_1)∧w28.cell? ⟨gb235,2,none⟩=some (.bool a0_2)∧w28.cell? ⟨gb236,0,none⟩=some (.int .i64 a1_0)∧w28.cell? ⟨gb236,1,none⟩=some (.int .i64 a1_1):=hS_
  obtain⟨Ao29,co29,eo29⟩:=Kd.R_slice HO247.out
  (first|subst eo29|(injection eo29 with f1_ f2_ f3_;have f4_:=f1_.symm;have f5_:=f3_.symm;clear f1_ f2_ f3_;subst f4_;subst f5_))
  refine norm_ (a':=?_) ?_ ?_
  rotate_left
  ·simp only[putAll,Act.put,List.setIfInBounds_toArray,List.set_cons_zero,List.set_cons_succ]
   rfl
  refine one_ (i:=9) (N:=none) #[true,true,true,true,true,true,true,true,true,true,false] rfl rfl (one_of HT_.out (by kernel_rfl)) (by decide) (fun K hK => ?_)
  have hs30:w28.cell? ⟨gb251,0,none⟩=some (.slice none 0 0):=(blk_cell BK251.out 0).trans rfl
  have hfs30:=blk_frozen BK251.out 0
  have hns30_0:=NB235_251.out
  have hns30_1:=NB236_251.out
  have hms30_0:=NB251_235.out
  have hms30_1:=NB251_236.out
  have hs31:w28.cell? ⟨gb251,1,none⟩=some (.int .i64 0):=(blk_cell BK251.out 1).trans rfl
  have hfs31:=blk_frozen BK251.out 1
  have hns31_0:=NB235_251.out
  have hns31_1:=NB236_251.out
  have hms31_0:=NB251_235.out
  have hms31_1:=NB251_236.out
  have hs32:w28.cell? ⟨gb251,2,none⟩=some (.bool false):=(blk_cell BK251.out 2).trans rfl
  have hfs32:=blk_frozen BK251.out 2
  have hns32_0:=NB235_251.out
  have hns32_1:=NB236_251.out
  have hms32_0:=NB251_235.out
  have hms32_1:=NB251_236.out
  refine skip_ (w1:=?_) (by rfl) rfl ?_ ?_
  rotate_left
  ·go_simp
   rfl
  refine hK.out _ _ ⟨((cell_far (p:=⟨gb251,_,none⟩) NB235_251.out _).trans (((cell_far (p:=⟨gb251,_,none⟩) NB235_251.out _).trans (((cell_far (p:=⟨gb251,_,none⟩) NB235_251.out _).trans (hHeld.1)))))),((cell_far (p:=⟨gb251,_,none⟩) NB235_251.out _).trans (((cell_far (p:=⟨gb251,_,none⟩) NB235_251.out _).trans (((cell_far (p:=⟨gb251,_,none⟩) NB235_251.out _).trans (hHeld.2.1)))))),((cell_far (p:=⟨gb251,_,none⟩) NB235_251.out _).trans (((cell_far (p:=⟨gb251,_,none⟩) NB235_251.out _).trans (((cell_far (p:=⟨gb251,_,none⟩) NB235_251.out _).trans (hHeld.2.2.1)))))),((cell_far (p:=⟨gb251,_,none⟩) NB236_251.out _).trans (((cell_far (p:=⟨gb251,_,none⟩) NB236_251.out _).trans (((cell_far (p:=⟨gb251,_,none⟩) NB236_251.out _).trans (hHeld.2.2.2.1)))))),((cell_far (p:=⟨gb251,_,none⟩) NB236_251.out _).trans (((cell_far (p:=⟨gb251,_,none⟩) NB236_251.out _).trans (((cell_far (p:=⟨gb251,_,none⟩) NB236_251.out _).trans (hHeld.2.2.2.2))))))⟩ (fun hHeld => ?_)
  clear hK K
  refine pure_ (i:=10) (N:=some 7) (v:=?_) (a':=?_) #[true,true,true,true,true,true,true,true,true,true,true] rfl rfl (any_of HT_.out (by kernel_rfl)) (fun _ _ _ h=>h) (Or.inl ⟨by rfl,?_⟩) ?_ ?_
  rotate_left
  ·intro w'
   go_simp
   with_reducible rfl
  rotate_left
  ·simp only[Act.put,List.setIfInBounds_toArray,List.set_cons_zero,List.set_cons_succ,i64_w,i32_w]
   rfl
  refine done_ (done_of HT_.out (by kernel_rfl)) ?_
  have hnb33:=NB235_251.out
  have hnc33:=NB251_235.out
  obtain⟨hcz34_0,hcz34_1,hcz34_2⟩:=cC3 BK235.out
  obtain⟨hfz34_0,hfz34_1,hfz34_2⟩:=cF3 BK235.out
  try go_wp2_with (first|((with_reducible refine gate_callee (f:=22) rfl ?_);refine goesA (some 30) rfl rfl Try.func22 #[.agg #[.slice A0_0 l0_0.length c0_0,.int .i64 a0_1,.bool a0_2]] rfl ?_;(with_reducible refine(laws_toSpray.calls k _ _ l0_0 a0_1 a0_2 t252 t255 t256 _ ?side1 ?side2 A13.out).mono ?_);(case side1=>exact Kd.C_below HR0_0.out (bS3 GE235.out GE236.out GE251.out));(case side2=>exact HC0_0.out);rintro e w35 ⟨v253,rfl,ho0,hb⟩;refine⟨_,rfl,?_⟩;have n0_:=Aside0.mk (Kd.R_elder' (by(with_reducible repeat (first|apply Kd.R_alloc|apply Kd.R_drewN|apply Kd.R_drew));exact(Kd.R_mono (Kd.R_far (p:=⟨gb251,2,none⟩) (Kd.R_far (p:=⟨gb251,1,none⟩) (Kd.R_far (p:=⟨gb251,0,none⟩) (Kd.R_types HO240.out BK251.out (by decide)) (fun _ hk=>hk.2) (.slice Ao29 t245.length co29)) (fun _ hk=>hk.2) (.int .i64 t248)) (fun _ hk=>hk.2) (.bool t249)) (fun _ h_=>h_.1))) (Kd.R_base ho0) hb);have n1_:=Aside0.mk (Kd.R_elder' (by(with_reducible repeat (first|apply Kd.R_alloc|apply Kd.R_drewN|apply Kd.R_drew));exact(Kd.R_mono (Kd.R_far (p:=⟨gb251,2,none⟩) (Kd.R_far (p:=⟨gb251,1,none⟩) (Kd.R_far (p:=⟨gb251,0,none⟩) (Kd.R_types HO247.out BK251.out (by decide)) (fun _ hk=>hk.2) (.slice Ao29 t245.length co29)) (fun _ hk=>hk.2) (.int .i64 t248)) (fun _ hk=>hk.2) (.bool t249)) (fun _ h_=>h_.1))) (Kd.R_base ho0) hb);have n2_:=Aside0.mk (Kd.R_lower (Kd.R_new' (Kd.R_new' ho0 (Kd.R_lt (by(with_reducible repeat (first|apply Kd.R_alloc|apply Kd.R_drewN|apply Kd.R_drew));exact(Kd.R_mono (Kd.R_far (p:=⟨gb251,2,none⟩) (Kd.R_far (p:=⟨gb251,1,none⟩) (Kd.R_far (p:=⟨gb251,0,none⟩) (Kd.R_types HO240.out BK251.out (by decide)) (fun _ hk=>hk.2) (.slice Ao29 t245.length co29)) (fun _ hk=>hk.2) (.int .i64 t248)) (fun _ hk=>hk.2) (.bool t249)) (fun _ h_=>h_.1))))) (Kd.R_lt (by(with_reducible repeat (first|apply Kd.R_alloc|apply Kd.R_drewN|apply Kd.R_drew));exact(Kd.R_mono (Kd.R_far (p:=⟨gb251,2,none⟩) (Kd.R_far (p:=⟨gb251,1,none⟩) (Kd.R_far (p:=⟨gb251,0,none⟩) (Kd.R_types HO247.out BK251.out (by decide)) (fun _ hk=>hk.2) (.slice Ao29 t245.length co29)) (fun _ hk=>hk.2) (.int .i64 t248)) (fun _ hk=>hk.2) (.bool t249)) (fun _ h_=>h_.1))))) (below_size (bS3 GE235.out GE236.out GE251.out)));have n3_:=Aside0.mk (blk_below (g:=gb235) (o:=.cells #[.slice A0_0 l0_0.length c0_0,.int .i64 a0_1,.bool a0_2] 35 (0,0)) (by(with_reducible repeat (first|refine blk_drewN ?_ _|refine blk_drew ?_|refine blk_alloc ?_ _));refine blk_far ?_ NB235_251.out _;(with_reducible repeat (first|refine blk_drewN ?_ _|refine blk_drew ?_|refine blk_alloc ?_ _));refine blk_far ?_ NB235_251.out _;(with_reducible repeat (first|refine blk_drewN ?_ _|refine blk_drew ?_|refine blk_alloc ?_ _));refine blk_far ?_ NB235_251.out _;(with_reducible repeat (first|refine blk_drewN ?_ _|refine blk_drew ?_|refine blk_alloc ?_ _));exact BK235.out) hb);have n4_:=Aside0.mk (blk_below (g:=gb236) (o:=.cells #[.int .i64 a1_0,.int .i64 a1_1] 57 (0,0)) (by(with_reducible repeat (first|refine blk_drewN ?_ _|refine blk_drew ?_|refine blk_alloc ?_ _));refine blk_far ?_ NB236_251.out _;(with_reducible repeat (first|refine blk_drewN ?_ _|refine blk_drew ?_|refine blk_alloc ?_ _));refine blk_far ?_ NB236_251.out _;(with_reducible repeat (first|refine blk_drewN ?_ _|refine blk_drew ?_|refine blk_alloc ?_ _));refine blk_far ?_ NB236_251.out _;(with_reducible repeat (first|refine blk_drewN ?_ _|refine blk_drew ?_|refine blk_alloc ?_ _));exact BK236.out) hb);have n5_:=Aside0.mk (blk_below (g:=gb251) (o:=.cells #[.slice Ao29 t245.length co29,.int .i64 t248,.bool t249] 39 (0,0)) (by(with_reducible repeat (first|refine blk_drewN ?_ _|refine blk_drew ?_|refine blk_alloc ?_ _));refine blk_put (cs:=#[.slice Ao29 t245.length co29,.int .i64 t248,.bool false]) ?_ 2 _ rfl;(with_reducible repeat (first|refine blk_drewN ?_ _|refine blk_drew ?_|refine blk_alloc ?_ _));refine blk_put (cs:=#[.slice Ao29 t245.length co29,.int .i64 0,.bool false]) ?_ 1 _ rfl;(with_reducible repeat (first|refine blk_drewN ?_ _|refine blk_drew ?_|refine blk_alloc ?_ _));refine blk_put (cs:=#[.slice none 0 0,.int .i64 0,.bool false]) ?_ 0 _ rfl;(with_reducible repeat (first|refine blk_drewN ?_ _|refine blk_drew ?_|refine blk_alloc ?_ _));exact BK251.out) hb);have n6_:=Aside0.mk (below_step (bS3 GE235.out GE236.out GE251.out) hb);clear HO240 HO247 BK235 BK236 BK251 HB;have HO240:=n0_;have HO247:=n1_;have HO254:=n2_;have BK235:=n3_;have BK236:=n4_;have BK251:=n5_;have HB:=n6_;clear n0_ n1_ n2_ n3_ n4_ n5_ n6_;(try clear hb);(try clear hb2);(try clear hk);(try clear hi);(try clear ho0))|((with_reducible refine gate_dst (N:=8) rfl ?_);refine box_event ?hg (N:=8) ?hd (cs:=#[.slice none 0 0,.int .i64 0,.bool false]) (t:=39) ?hr ?_;(case hd=>rfl);(case hg=>rfl);(case hr=>first|(go_simp;done)|(go_simp;rfl));intro gb257 hg w36 hbox hb;have n0_:=Aside0.mk (Kd.R_below (bK HO240.out) hb);have n1_:=Aside0.mk (Kd.R_below (bK HO247.out) hb);have n2_:=Aside0.mk (Kd.R_below (bK HO254.out) hb);have n3_:=Aside0.mk (bM BK235.out hb);have n4_:=Aside0.mk (bM BK236.out hb);have n5_:=Aside0.mk (bM BK251.out hb);have n6_:=Aside0.mk (below_step (bS3 GE235.out GE236.out GE251.out) hb);have n7_:=Aside0.mk (hbox);have n8_:=Aside0.mk ((by rw[hg];exact(below_size (bS3 GE235.out GE236.out GE251.out)):w.heap.size≤gb257));have n9_:=Aside0.mk ((by rw[hg];exact(below_size (bS3 GE235.out GE236.out GE251.out)):w.heap.size≤gb257));have n10_:=Aside0.mk ((bN BK235.out hg:gb235≠gb257));have n11_:=Aside0.mk ((bO BK235.out hg:gb257≠gb235));have n12_:=Aside0.mk ((bN BK236.out hg:gb236≠gb257));have n13_:=Aside0.mk ((bO BK236.out hg:gb257≠gb236));have n14_:=Aside0.mk ((bN BK251.out hg:gb251≠gb257));have n15_:=Aside0.mk ((bO BK251.out hg:gb257≠gb251));clear HO240 HO247 HO254 BK235 BK236 BK251 HB;have HO240:=n0_;have HO247:=n1_;have HO254:=n2_;have BK235:=n3_;have BK236:=n4_;have BK251:=n5_;have HB:=n6_;have BK257:=n7_;have GW257:=n8_;have GE257:=n9_;have NB235_257:=n10_;have NB257_235:=n11_;have NB236_257:=n12_;have NB257_236:=n13_;have NB251_257:=n14_;have NB257_251:=n15_;clear n0_ n1_ n2_ n3_ n4_ n5_ n6_ n7_ n8_ n9_ n10_ n11_ n12_ n13_ n14_ n15_;clear hb hbox hg;obtain⟨Ao37,co37,eo37⟩:=Kd.R_slice HO254.out;subst eo37;have hnb38:=NB257_235.out;have hnc38:=NB235_257.out;have hnb39:=NB257_236.out;have hnc39:=NB236_257.out;have hnb40:=NB257_251.out;have hnc40:=NB251_257.out;obtain⟨hcz41_0,hcz41_1,hcz41_2⟩:=cC3 BK257.out;obtain⟨hfz41_0,hfz41_1,hfz41_2⟩:=cF3 BK257.out))
  have n0_:Aside0 (Kd.R (Kd.int .i64) 3 (((w36.setCell ⟨gb257,0,none⟩ (.slice Ao37 t252.length co37)).setCell ⟨gb257,1,none⟩ (.int .i64 t255)).setCell ⟨gb257,2,none⟩ (.bool t256)) w.heap.size (fun k_=>some k_≠(.slice Ao29 t245.length co29:Value).ownBlock∧some k_≠(.slice Ao37 t252.length co37:Value).ownBlock) v239 t238):=⟨by(with_reducible repeat (first|apply Kd.R_alloc|apply Kd.R_drewN|apply Kd.R_drew));exact Kd.R_mono (Kd.R_far (p:=⟨gb257,2,none⟩) (Kd.R_far (p:=⟨gb257,1,none⟩) (Kd.R_far (p:=⟨gb257,0,none⟩) (Kd.R_types HO240.out BK257.out (by decide)) (fun _ hk=>hk.2) (.slice Ao37 t252.length co37)) (fun _ hk=>hk.2) (.int .i64 t255)) (fun _ hk=>hk.2) (.bool t256)) (fun _ hk=>⟨hk.1.1,hk.1.2⟩)⟩
  have n1_:Aside0 (Kd.R (Kd.int .i64) 3 (((w36.setCell ⟨gb257,0,none⟩ (.slice Ao37 t252.length co37)).setCell ⟨gb257,1,none⟩ (.int .i64 t255)).setCell ⟨gb257,2,none⟩ (.bool t256)) w.heap.size (fun k_=>some k_≠(v239:Value).ownBlock∧some k_≠(.slice Ao37 t252.length co37:Value).ownBlock) (.slice Ao29 t245.length co29) t245):=⟨by(with_reducible repeat (first|apply Kd.R_alloc|apply Kd.R_drewN|apply Kd.R_drew));exact Kd.R_mono (Kd.R_far (p:=⟨gb257,2,none⟩) (Kd.R_far (p:=⟨gb257,1,none⟩) (Kd.R_far (p:=⟨gb257,0,none⟩) (Kd.R_types HO247.out BK257.out (by decide)) (fun _ hk=>hk.2) (.slice Ao37 t252.length co37)) (fun _ hk=>hk.2) (.int .i64 t255)) (fun _ hk=>hk.2) (.bool t256)) (fun _ hk=>⟨hk.1.1,hk.1.2⟩)⟩
  have n2_:Aside0 (Kd.R (Kd.int .i64) 3 (((w36.setCell ⟨gb257,0,none⟩ (.slice Ao37 t252.length co37)).setCell ⟨gb257,1,none⟩ (.int .i64 t255)).setCell ⟨gb257,2,none⟩ (.bool t256)) w.heap.size (fun k_=>some k_≠(v239:Value).ownBlock∧some k_≠(.slice Ao29 t245.length co29:Value).ownBlock) (.slice Ao37 t252.length co37) t252):=⟨by(with_reducible repeat (first|apply Kd.R_alloc|apply Kd.R_drewN|apply Kd.R_drew));exact Kd.R_mono (Kd.R_far (p:=⟨gb257,2,none⟩) (Kd.R_far (p:=⟨gb257,1,none⟩) (Kd.R_far (p:=⟨gb257,0,none⟩) (Kd.R_types HO254.out BK257.out (by decide)) (fun _ hk=>hk.2) (.slice Ao37 t252.length co37)) (fun _ hk=>hk.2) (.int .i64 t255)) (fun _ hk=>hk.2) (.bool t256)) (fun _ hk=>⟨hk.1.1.2,hk.1.2⟩)⟩
  have n3_:Aside0 ((((w36.setCell ⟨gb257,0,none⟩ (.slice Ao37 t252.length co37)).setCell ⟨gb257,1,none⟩ (.int .i64 t255)).setCell ⟨gb257,2,none⟩ (.bool t256)).heap[gb235]?=some (.cells #[.slice A0_0 l0_0.length c0_0,.int .i64 a0_1,.bool a0_2] 35 (0,0))):=⟨by(with_reducible repeat (first|refine blk_drewN ?_ _|refine blk_drew ?_|refine blk_alloc ?_ _));refine blk_far ?_ NB235_257.out _;(with_reducible repeat (first|refine blk_drewN ?_ _|refine blk_drew ?_|refine blk_alloc ?_ _));refine blk_far ?_ NB235_257.out _;(with_reducible repeat (first|refine blk_drewN ?_ _|refine blk_drew ?_|refine blk_alloc ?_ _));refine blk_far ?_ NB235_257.out _;(with_reducible repeat (first|refine blk_drewN ?_ _|refine blk_drew ?_|refine blk_alloc ?_ _));exact BK235.out⟩
  have n4_:Aside0 ((((w36.setCell ⟨gb257,0,none⟩ (.slice Ao37 t252.length co37)).setCell ⟨gb257,1,none⟩ (.int .i64 t255)).setCell ⟨gb257,2,none⟩ (.bool t256)).heap[gb236]?=some (.cells #[.int .i64 a1_0,.int .i64 a1_1] 57 (0,0))):=⟨by(with_reducible repeat (first|refine blk_drewN ?_ _|refine blk_drew ?_|refine blk_alloc ?_ _));refine blk_far ?_ NB236_257.out _;(with_reducible repeat (first|refine blk_drewN ?_ _|refine blk_drew ?_|refine blk_alloc ?_ _));refine blk_far ?_ NB236_257.out _;(with_reducible repeat (first|refine blk_drewN ?_ _|refine blk_drew ?_|refine blk_alloc ?_ _));refine blk_far ?_ NB236_257.out _;(with_reducible repeat (first|refine blk_drewN ?_ _|refine blk_drew ?_|refine blk_alloc ?_ _));exact BK236.out⟩
  have n5_:Aside0 ((((w36.setCell ⟨gb257,0,none⟩ (.slice Ao37 t252.length co37)).setCell ⟨gb257,1,none⟩ (.int .i64 t255)).setCell ⟨gb257,2,none⟩ (.bool t256)).heap[gb251]?=some (.cells #[.slice Ao29 t245.length co29,.int .i64 t248,.bool t249] 39 (0,0))):=⟨by(with_reducible repeat (first|refine blk_drewN ?_ _|refine blk_drew ?_|refine blk_alloc ?_ _));refine blk_far ?_ NB251_257.out _;(with_reducible repeat (first|refine blk_drewN ?_ _|refine blk_drew ?_|refine blk_alloc ?_ _));refine blk_far ?_ NB251_257.out _;(with_reducible repeat (first|refine blk_drewN ?_ _|refine blk_drew ?_|refine blk_alloc ?_ _));refine blk_far ?_ NB251_257.out _;(with_reducible repeat (first|refine blk_drewN ?_ _|refine blk_drew ?_|refine blk_alloc ?_ _));exact BK251.out⟩
  have n6_:Aside0 ((((w36.setCell ⟨gb257,0,none⟩ (.slice Ao37 t252.length co37)).setCell ⟨gb257,1,none⟩ (.int .i64 t255)).setCell ⟨gb257,2,none⟩ (.bool t256)).heap[gb257]?=some (.cells #[.slice Ao37 t252.length co37,.int .i64 t255,.bool t256] 39 (0,0))):=⟨by(with_reducible repeat (first|refine blk_drewN ?_ _|refine blk_drew ?_|refine blk_alloc ?_ _));refine blk_put (cs:=#[.slice Ao37 t252.length co37,.int .i64 t255,.bool false]) ?_ 2 _ rfl;(with_reducible repeat (first|refine blk_drewN ?_ _|refine blk_drew ?_|refine blk_alloc ?_ _));refine blk_put (cs:=#[.slice Ao37 t252.length co37,.int .i64 0,.bool false]) ?_ 1 _ rfl;(with_reducible repeat (first|refine blk_drewN ?_ _|refine blk_drew ?_|refine blk_alloc ?_ _));refine blk_put (cs:=#[.slice none 0 0,.int .i64 0,.bool false]) ?_ 0 _ rfl;(with_reducible repeat (first|refine blk_drewN ?_ _|refine blk_drew ?_|refine blk_alloc ?_ _));exact BK257.out⟩
  have n7_:Aside0 (Below w.heap.size w (((w36.setCell ⟨gb257,0,none⟩ (.slice Ao37 t252.length co37)).setCell ⟨gb257,1,none⟩ (.int .i64 t255)).setCell ⟨gb257,2,none⟩ (.bool t256))):=⟨bS4 GE235.out GE236.out GE251.out GE257.out⟩
  (try clear HO240)
  (try clear HO247)
  (try clear HO254)
  (try clear BK235)
  (try clear BK236)
  (try clear BK251)
  (try clear BK257)
  (try clear HB)
  generalize (((w36.setCell ⟨gb257,0,none⟩ (.slice Ao37 t252.length co37)).setCell ⟨gb257,1,none⟩ (.int .i64 t255)).setCell ⟨gb257,2,none⟩ (.bool t256))=w42 at n0_ n1_ n2_ n3_ n4_ n5_ n6_ n7_ ⊢
  have HO240:=n0_
  have HO247:=n1_
  have HO254:=n2_
  have BK235:=n3_
  have BK236:=n4_
  have BK251:=n5_
  have BK257:=n6_
  have HB:=n7_
  clear n0_ n1_ n2_ n3_ n4_ n5_ n6_ n7_
  (try (rw[drewN_self w42];generalize hq_:World.drewN w42 _=w42;have n0_:=Aside0.mk (Kd.R_at hq_ HO240.out);have n1_:=Aside0.mk (Kd.R_at hq_ HO247.out);have n2_:=Aside0.mk (Kd.R_at hq_ HO254.out);have n3_:=Aside0.mk (blk_at hq_ BK235.out);have n4_:=Aside0.mk (blk_at hq_ BK236.out);have n5_:=Aside0.mk (blk_at hq_ BK251.out);have n6_:=Aside0.mk (blk_at hq_ BK257.out);have n7_:=Aside0.mk (below_at hq_ HB.out);clear hq_ HO240 HO247 HO254 BK235 BK236 BK251 BK257 HB;have HO240:=n0_;have HO247:=n1_;have HO254:=n2_;have BK235:=n3_;have BK236:=n4_;have BK251:=n5_;have BK257:=n6_;have HB:=n7_;clear n0_ n1_ n2_ n3_ n4_ n5_ n6_ n7_))
  have n0_:=Aside0.mk (Kd.R_drew HO240.out)
  have n1_:=Aside0.mk (Kd.R_drew HO247.out)
  have n2_:=Aside0.mk (Kd.R_drew HO254.out)
  have n3_:=Aside0.mk (blk_drew BK235.out)
  have n4_:=Aside0.mk (blk_drew BK236.out)
  have n5_:=Aside0.mk (blk_drew BK251.out)
  have n6_:=Aside0.mk (blk_drew BK257.out)
  have n7_:=Aside0.mk (below_drew1 HB.out)
  clear HO240 HO247 HO254 BK235 BK236 BK251 BK257 HB
  have HO240:=n0_
  have HO247:=n1_
  have HO254:=n2_
  have BK235:=n3_
  have BK236:=n4_
  have BK251:=n5_
  have BK257:=n6_
  have HB:=n7_
  clear n0_ n1_ n2_ n3_ n4_ n5_ n6_ n7_
  refine start_ (n:=10) (S:=fun w'=>w'.cell? ⟨gb257,0,none⟩=some (.slice Ao37 t252.length co37)∧w'.cell? ⟨gb257,1,none⟩=some (.int .i64 t255)∧w'.cell? ⟨gb257,2,none⟩=some (.bool t256)∧w'.cell? ⟨gb236,0,none⟩=some (.int .i64 a1_0)∧w'.cell? ⟨gb236,1,none⟩=some (.int .i64 a1_1)) (ds:=[]) #[false,false,false,false,false,false,false,false,false,false] (by kernel_rfl) rfl rfl ⟨(blk_cell BK257.out 0).trans rfl,(blk_cell BK257.out 1).trans rfl,(blk_cell BK257.out 2).trans rfl,(blk_cell BK236.out 0).trans rfl,(blk_cell BK236.out 1).trans rfl⟩ (fun hHeld => ?_);refine with_tabW laws_FnExactMeetBoth.tab7 laws_FnExactMeetBoth.bits7 (fun HT_ HW_ => ?_)
  generalize w42.drew=w43 at HO240 HO247 HO254 BK235 BK236 BK251 BK257 HB hHeld ⊢
  refine take_ (i:=0) (N:=some 32) (v:=?_) (a':=?_) #[true,false,false,false,false,false,false,false,false,false] rfl rfl (take_ofW HT_.out HW_.out (by kernel_rfl)) (fun _ _ _ h=>h) (Or.inl ⟨by rfl,?_⟩) hHeld ?_ ?_
  rotate_left
  ·rintro w' ⟨s0,s1,s2,s3,s4⟩
   go_simp
   with_reducible rfl
  rotate_left
  ·simp only[Act.put,List.setIfInBounds_toArray,List.set_cons_zero,List.set_cons_succ,i64_w,i32_w]
   rfl
  refine take_ (i:=1) (N:=some 33) (v:=?_) (a':=?_) #[true,true,false,false,false,false,false,false,false,false] rfl rfl (take_ofW HT_.out HW_.out (by kernel_rfl)) (fun _ _ _ h=>h) (Or.inl ⟨by rfl,?_⟩) hHeld ?_ ?_
  rotate_left
  ·rintro w' ⟨s0,s1,s2,s3,s4⟩
   go_simp
   with_reducible rfl
  rotate_left
  ·simp only[Act.put,List.setIfInBounds_toArray,List.set_cons_zero,List.set_cons_succ,i64_w,i32_w]
   rfl
  refine join_ (σ:=Value × Nat) 2 #[true,true,true,true,true,true,true,true,false,false] (fun s_=>[(34,.agg #[.int .i64 t258,.int .i64 t259]),(35,.tuple #[.agg #[s_.1,.int .i64 t263,.bool t264],.bool t265]),(9,.pointer (some ⟨s_.2,0,none⟩)),(31,.tuple #[.agg #[s_.1,.int .i64 t263,.bool t264],.bool t265]),(36,.agg #[s_.1,.int .i64 t263,.bool t264]),(37,.bool t265)]) (fun s_ w'=>(w'.cell? ⟨gb257,0,none⟩=some (.slice Ao37 t252.length co37)∧w'.cell? ⟨gb257,1,none⟩=some (.int .i64 t255)∧w'.cell? ⟨gb257,2,none⟩=some (.bool t256)∧w'.cell? ⟨gb236,0,none⟩=some (.int .i64 a1_0)∧w'.cell? ⟨gb236,1,none⟩=some (.int .i64 a1_1))∧(Kd.R (Kd.int .i64) 3 w' w.heap.size (fun k_=>some k_≠(.slice Ao29 t245.length co29:Value).ownBlock∧some k_≠(.slice Ao37 t252.length co37:Value).ownBlock∧some k_≠(s_.1:Value).ownBlock) v239 t238)∧(Kd.R (Kd.int .i64) 3 w' w.heap.size (fun k_=>some k_≠(v239:Value).ownBlock∧some k_≠(.slice Ao37 t252.length co37:Value).ownBlock∧some k_≠(s_.1:Value).ownBlock) (.slice Ao29 t245.length co29) t245)∧(Kd.R (Kd.int .i64) 3 w' w.heap.size (fun k_=>some k_≠(v239:Value).ownBlock∧some k_≠(.slice Ao29 t245.length co29:Value).ownBlock∧some k_≠(s_.1:Value).ownBlock) (.slice Ao37 t252.length co37) t252)∧(Kd.R (Kd.int .i64) 3 w' w.heap.size (fun k_=>some k_≠(v239:Value).ownBlock∧some k_≠(.slice Ao29 t245.length co29:Value).ownBlock∧some k_≠(.slice Ao37 t252.length co37:Value).ownBlock) s_.1 t260)∧(w'.heap[gb235]?=some (.cells #[.slice A0_0 l0_0.length c0_0,.int .i64 a0_1,.bool a0_2] 35 (0,0)))∧(w'.heap[gb236]?=some (.cells #[.int .i64 a1_0,.int .i64 a1_1] 57 (0,0)))∧(w'.heap[gb251]?=some (.cells #[.slice Ao29 t245.length co29,.int .i64 t248,.bool t249] 39 (0,0)))∧(w'.heap[gb257]?=some (.cells #[.slice Ao37 t252.length co37,.int .i64 t255,.bool t256] 39 (0,0)))∧(w'.heap[s_.2]?=some (.cells #[.slice none 0 0,.int .i64 0,.bool false] 39 (0,0)))∧(w.heap.size≤s_.2)∧(w.heap.size≤s_.2)∧(gb235≠s_.2)∧(s_.2≠gb235)∧(gb236≠s_.2)∧(s_.2≠gb236)∧(gb251≠s_.2)∧(s_.2≠gb251)∧(gb257≠s_.2)∧(s_.2≠gb257)∧(Below w.heap.size w w')) ?_ ?_
  rotate_left
  ·intro hCont
   refine two_ (i:=2) (j:=7) (Ni:=some 34) (Nj:=some 9) #[true,true,true,false,false,false,false,false,false,false] #[true,true,false,false,false,false,false,true,false,false] rfl rfl rfl rfl (two_of HT_.out (by kernel_rfl)) (by decide) (by decide) (fun K hK => ?_) (fun K hK => ?_)
   ·skip
    refine goes_ Try.func38 (by kernel_rfl) rfl #[.agg #[.int .i64 a1_0,.int .i64 a1_1]] (by rfl) rfl rfl (by(try simp only[List.map_toArray,List.map_cons,List.map_nil]);first|done|rfl|(simp only[List.length_drop,List.length_take];rfl)) ?_
    with_reducible refine(laws_toMeet.calls a1_0 a1_1 t258 t259 _ A14.out).mono ?_
    rintro e w44 ⟨rfl,hb⟩
    refine⟨_,rfl,?_⟩
    have n0_:=Aside0.mk (Kd.R_below (bK HO240.out) hb)
    have n1_:=Aside0.mk (Kd.R_below (bK HO247.out) hb)
    have n2_:=Aside0.mk (Kd.R_below (bK HO254.out) hb)
    have n3_:=Aside0.mk (bM BK235.out hb)
    have n4_:=Aside0.mk (bM BK236.out hb)
    have n5_:=Aside0.mk (bM BK251.out hb)
    have n6_:=Aside0.mk (bM BK257.out hb)
    have n7_:=Aside0.mk (below_step (bS4 GE235.out GE236.out GE251.out GE257.out) hb)
    clear HO240 HO247 HO254 BK235 BK236 BK251 BK257 HB
    have HO240:=n0_
    have HO247:=n1_
    have HO254:=n2_
    have BK235:=n3_
    have BK236:=n4_
    have BK251:=n5_
    have BK257:=n6_
    have HB:=n7_
    clear n0_ n1_ n2_ n3_ n4_ n5_ n6_ n7_
    (try clear hb)
    (try clear hb2)
    (try clear hk)
    (try clear hi)
    refine hK.out _ _ ⟨(blk_cell BK257.out 0).trans rfl,(blk_cell BK257.out 1).trans rfl,(blk_cell BK257.out 2).trans rfl,(blk_cell BK236.out 0).trans rfl,(blk_cell BK236.out 1).trans rfl⟩ (fun hHeld => ?_)
    clear hK K
    refine norm_ (a':=?_) ?_ ?_
    rotate_left
    ·show Act.put _ (some 34) _=_
     simp only[Act.put,List.setIfInBounds_toArray,List.set_cons_zero,List.set_cons_succ,i64_w,i32_w]
     rfl
    refine two_ (i:=3) (j:=7) (Ni:=some 35) (Nj:=some 9) #[true,true,true,true,false,false,false,false,false,false] #[true,true,true,false,false,false,false,true,false,false] rfl rfl rfl rfl (two_of HT_.out (by kernel_rfl)) (by decide) (by decide) (fun K hK => ?_) (fun K hK => ?_)
    ·skip
     refine goes_ Try.func39 (by kernel_rfl) rfl #[.agg #[.slice Ao37 t252.length co37,.int .i64 t255,.bool t256],.agg #[.int .i64 t258,.int .i64 t259]] (by rfl) rfl rfl (by(try simp only[List.map_toArray,List.map_cons,List.map_nil]);first|done|rfl|(simp only[List.length_drop,List.length_take];rfl)) ?_
     with_reducible refine(impl_MeetBoth.calls k _ _ t252 t255 t256 t258 t259 t260 t263 t264 t265 _ ?side1 ?side2 A15.out).mono ?_
     (case side1=>exact bT HO254.out)
     (case side2=>exact(Kd.R_reads' HO254.out).2.1)
     rintro e w45 ⟨v261,rfl,ho0,hb⟩
     refine⟨_,rfl,?_⟩
     have n0_:=Aside0.mk (Kd.R_elder' (bK HO240.out) (Kd.R_base ho0) hb)
     have n1_:=Aside0.mk (Kd.R_elder' (bK HO247.out) (Kd.R_base ho0) hb)
     have n2_:=Aside0.mk (Kd.R_elder' (bK HO254.out) (Kd.R_base ho0) hb)
     have n3_:=Aside0.mk (Kd.R_lower (Kd.R_new' (Kd.R_new' (Kd.R_new' ho0 (Kd.R_lt (bK HO240.out))) (Kd.R_lt (bK HO247.out))) (Kd.R_lt (bK HO254.out))) (below_size (bS4 GE235.out GE236.out GE251.out GE257.out)))
     have n4_:=Aside0.mk (bM BK235.out hb)
     have n5_:=Aside0.mk (bM BK236.out hb)
     have n6_:=Aside0.mk (bM BK251.out hb)
     have n7_:=Aside0.mk (bM BK257.out hb)
     have n8_:=Aside0.mk (below_step (bS4 GE235.out GE236.out GE251.out GE257.out) hb)
     clear HO240 HO247 HO254 BK235 BK236 BK251 BK257 HB
     have HO240:=n0_
     have HO247:=n1_
     have HO254:=n2_
     have HO262:=n3_
     have BK235:=n4_
     have BK236:=n5_
     have BK251:=n6_
     have BK257:=n7_
     have HB:=n8_
     clear n0_ n1_ n2_ n3_ n4_ n5_ n6_ n7_ n8_
     (try clear hb)
     (try clear hb2)
     (try clear hk)
     (try clear hi)
     (try clear ho0)
     refine hK.out _ _ ⟨(blk_cell BK257.out 0).trans rfl,(blk_cell BK257.out 1).trans rfl,(blk_cell BK257.out 2).trans rfl,(blk_cell BK236.out 0).trans rfl,(blk_cell BK236.out 1).trans rfl⟩ (fun hHeld => ?_)
     clear hK K
     refine norm_ (a':=?_) ?_ ?_
     rotate_left
     ·show Act.put _ (some 35) _=_
      simp only[Act.put,List.setIfInBounds_toArray,List.set_cons_zero,List.set_cons_succ,i64_w,i32_w]
      rfl
     refine pure_ (i:=4) (N:=some 31) (v:=?_) (a':=?_) #[true,true,true,true,true,false,false,false,false,false] rfl rfl (any_of HT_.out (by kernel_rfl)) (fun _ _ _ h=>h) (Or.inl ⟨by rfl,?_⟩) ?_ ?_
     rotate_left
     ·intro w'
      go_simp
      with_reducible rfl
     rotate_left
     ·simp only[Act.put,List.setIfInBounds_toArray,List.set_cons_zero,List.set_cons_succ,i64_w,i32_w]
      rfl
     refine pure_ (i:=5) (N:=some 36) (v:=?_) (a':=?_) #[true,true,true,true,true,true,false,false,false,false] rfl rfl (any_of HT_.out (by kernel_rfl)) (fun _ _ _ h=>h) (Or.inl ⟨by rfl,?_⟩) ?_ ?_
     rotate_left
     ·intro w'
      go_simp
      with_reducible rfl
     rotate_left
     ·simp only[Act.put,List.setIfInBounds_toArray,List.set_cons_zero,List.set_cons_succ,i64_w,i32_w]
      rfl
     refine pure_ (i:=6) (N:=some 37) (v:=?_) (a':=?_) #[true,true,true,true,true,true,true,false,false,false] rfl rfl (any_of HT_.out (by kernel_rfl)) (fun _ _ _ h=>h) (Or.inl ⟨by rfl,?_⟩) ?_ ?_
     rotate_left
     ·intro w'
      go_simp
      with_reducible rfl
     rotate_left
     ·simp only[Act.put,List.setIfInBounds_toArray,List.set_cons_zero,List.set_cons_succ,i64_w,i32_w]
      rfl
     refine one_ (i:=7) (N:=some 9) #[true,true,true,true,true,true,true,true,false,false] rfl rfl (one_of HT_.out (by kernel_rfl)) (by decide) (fun K hK => ?_)
     refine box_step ?hg (N:=9) ?hd (cs:=#[.slice none 0 0,.int .i64 0,.bool false]) (t:=39) ?hr ?_;(case hd=>rfl);(case hg=>rfl);(case hr=>first|(go_simp;done)|(go_simp;rfl))
     intro gb266 hg w46 hbox hb
     have n0_:=Aside0.mk (Kd.R_below (bK HO240.out) hb)
     have n1_:=Aside0.mk (Kd.R_below (bK HO247.out) hb)
     have n2_:=Aside0.mk (Kd.R_below (bK HO254.out) hb)
     have n3_:=Aside0.mk (Kd.R_below (bK HO262.out) hb)
     have n4_:=Aside0.mk (bM BK235.out hb)
     have n5_:=Aside0.mk (bM BK236.out hb)
     have n6_:=Aside0.mk (bM BK251.out hb)
     have n7_:=Aside0.mk (bM BK257.out hb)
     have n8_:=Aside0.mk (below_step (bS4 GE235.out GE236.out GE251.out GE257.out) hb)
     have n9_:=Aside0.mk (hbox)
     have n10_:=Aside0.mk ((by rw[hg];exact(below_size (bS4 GE235.out GE236.out GE251.out GE257.out)):w.heap.size≤gb266))
     have n11_:=Aside0.mk ((by rw[hg];exact(below_size (bS4 GE235.out GE236.out GE251.out GE257.out)):w.heap.size≤gb266))
     have n12_:=Aside0.mk ((bN BK235.out hg:gb235≠gb266))
     have n13_:=Aside0.mk ((bO BK235.out hg:gb266≠gb235))
     have n14_:=Aside0.mk ((bN BK236.out hg:gb236≠gb266))
     have n15_:=Aside0.mk ((bO BK236.out hg:gb266≠gb236))
     have n16_:=Aside0.mk ((bN BK251.out hg:gb251≠gb266))
     have n17_:=Aside0.mk ((bO BK251.out hg:gb266≠gb251))
     have n18_:=Aside0.mk ((bN BK257.out hg:gb257≠gb266))
     have n19_:=Aside0.mk ((bO BK257.out hg:gb266≠gb257))
     clear HO240 HO247 HO254 HO262 BK235 BK236 BK251 BK257 HB
     have HO240:=n0_
     have HO247:=n1_
     have HO254:=n2_
     have HO262:=n3_
     have BK235:=n4_
     have BK236:=n5_
     have BK251:=n6_
     have BK257:=n7_
     have HB:=n8_
     have BK266:=n9_
     have GW266:=n10_
     have GE266:=n11_
     have NB235_266:=n12_
     have NB266_235:=n13_
     have NB236_266:=n14_
     have NB266_236:=n15_
     have NB251_266:=n16_
     have NB266_251:=n17_
     have NB257_266:=n18_
     have NB266_257:=n19_
     clear n0_ n1_ n2_ n3_ n4_ n5_ n6_ n7_ n8_ n9_ n10_ n11_ n12_ n13_ n14_ n15_ n16_ n17_ n18_ n19_ hb hbox hg
     refine hK.out _ _ ⟨(blk_cell BK257.out 0).trans rfl,(blk_cell BK257.out 1).trans rfl,(blk_cell BK257.out 2).trans rfl,(blk_cell BK236.out 0).trans rfl,(blk_cell BK236.out 1).trans rfl⟩ (fun hHeld => ?_)
     clear hK K
     refine norm_ (a':=?_) ?_ ?_
     rotate_left
     ·show Act.put _ (some 9) _=_
      simp only[Act.put,List.setIfInBounds_toArray,List.set_cons_zero,List.set_cons_succ,i64_w,i32_w]
      rfl
     exact norm_ (by simp only[putAll,Act.put,List.setIfInBounds_toArray,List.set_cons_zero,List.set_cons_succ]) (hCont (v261,gb266) _ ⟨hHeld,(by(with_reducible repeat (first|apply Kd.R_alloc|apply Kd.R_drewN|apply Kd.R_drew));exact Kd.R_mono HO240.out (fun _ hk=>⟨hk.1.1,⟨hk.1.2,hk.2⟩⟩)),(by(with_reducible repeat (first|apply Kd.R_alloc|apply Kd.R_drewN|apply Kd.R_drew));exact Kd.R_mono HO247.out (fun _ hk=>⟨hk.1.1,⟨hk.1.2,hk.2⟩⟩)),(by(with_reducible repeat (first|apply Kd.R_alloc|apply Kd.R_drewN|apply Kd.R_drew));exact Kd.R_mono HO254.out (fun _ hk=>⟨hk.1.1,⟨hk.1.2,hk.2⟩⟩)),(by(with_reducible repeat (first|apply Kd.R_alloc|apply Kd.R_drewN|apply Kd.R_drew));exact Kd.R_mono HO262.out (fun _ hk=>⟨hk.1.1.2,⟨hk.1.2,hk.2⟩⟩)),(bL BK235.out),(bL BK236.out),(bL BK251.out),(bL BK257.out),(bL BK266.out),GW266.out,GE266.out,NB235_266.out,NB266_235.out,NB236_266.out,NB266_236.out,NB251_266.out,NB266_251.out,NB257_266.out,NB266_257.out,(bS5 GE235.out GE236.out GE251.out GE257.out GE266.out)⟩)
    ·skip
     refine box_step ?hg (N:=9) ?hd (cs:=#[.slice none 0 0,.int .i64 0,.bool false]) (t:=39) ?hr ?_;(case hd=>rfl);(case hg=>rfl);(case hr=>first|(go_simp;done)|(go_simp;rfl))
     intro gb266 hg w45 hbox hb
     have n0_:=Aside0.mk (Kd.R_below (bK HO240.out) hb)
     have n1_:=Aside0.mk (Kd.R_below (bK HO247.out) hb)
     have n2_:=Aside0.mk (Kd.R_below (bK HO254.out) hb)
     have n3_:=Aside0.mk (bM BK235.out hb)
     have n4_:=Aside0.mk (bM BK236.out hb)
     have n5_:=Aside0.mk (bM BK251.out hb)
     have n6_:=Aside0.mk (bM BK257.out hb)
     have n7_:=Aside0.mk (below_step (bS4 GE235.out GE236.out GE251.out GE257.out) hb)
     have n8_:=Aside0.mk (hbox)
     have n9_:=Aside0.mk ((by rw[hg];exact(below_size (bS4 GE235.out GE236.out GE251.out GE257.out)):w.heap.size≤gb266))
     have n10_:=Aside0.mk ((by rw[hg];exact(below_size (bS4 GE235.out GE236.out GE251.out GE257.out)):w.heap.size≤gb266))
     have n11_:=Aside0.mk ((bN BK235.out hg:gb235≠gb266))
     have n12_:=Aside0.mk ((bO BK235.out hg:gb266≠gb235))
     have n13_:=Aside0.mk ((bN BK236.out hg:gb236≠gb266))
     have n14_:=Aside0.mk ((bO BK236.out hg:gb266≠gb236))
     have n15_:=Aside0.mk ((bN BK251.out hg:gb251≠gb266))
     have n16_:=Aside0.mk ((bO BK251.out hg:gb266≠gb251))
     have n17_:=Aside0.mk ((bN BK257.out hg:gb257≠gb266))
     have n18_:=Aside0.mk ((bO BK257.out hg:gb266≠gb257))
     clear HO240 HO247 HO254 BK235 BK236 BK251 BK257 HB
     have HO240:=n0_
     have HO247:=n1_
     have HO254:=n2_
     have BK235:=n3_
     have BK236:=n4_
     have BK251:=n5_
     have BK257:=n6_
     have HB:=n7_
     have BK266:=n8_
     have GW266:=n9_
     have GE266:=n10_
     have NB235_266:=n11_
     have NB266_235:=n12_
     have NB236_266:=n13_
     have NB266_236:=n14_
     have NB251_266:=n15_
     have NB266_251:=n16_
     have NB257_266:=n17_
     have NB266_257:=n18_
     clear n0_ n1_ n2_ n3_ n4_ n5_ n6_ n7_ n8_ n9_ n10_ n11_ n12_ n13_ n14_ n15_ n16_ n17_ n18_ hb hbox hg
     refine hK.out _ _ ⟨(blk_cell BK257.out 0).trans rfl,(blk_cell BK257.out 1).trans rfl,(blk_cell BK257.out 2).trans rfl,(blk_cell BK236.out 0).trans rfl,(blk_cell BK236.out 1).trans rfl⟩ (fun hHeld => ?_)
     clear hK K
     refine norm_ (a':=?_) ?_ ?_
     rotate_left
     ·show Act.put _ (some 9) _=_
      simp only[Act.put,List.setIfInBounds_toArray,List.set_cons_zero,List.set_cons_succ,i64_w,i32_w]
      rfl
     refine one_ (i:=3) (N:=some 35) #[true,true,true,true,false,false,false,true,false,false] rfl rfl (one_of HT_.out (by kernel_rfl)) (by decide) (fun K hK => ?_)
     refine goes_ Try.func39 (by kernel_rfl) rfl #[.agg #[.slice Ao37 t252.length co37,.int .i64 t255,.bool t256],.agg #[.int .i64 t258,.int .i64 t259]] (by rfl) rfl rfl (by(try simp only[List.map_toArray,List.map_cons,List.map_nil]);first|done|rfl|(simp only[List.length_drop,List.length_take];rfl)) ?_
     with_reducible refine(impl_MeetBoth.calls k _ _ t252 t255 t256 t258 t259 t260 t263 t264 t265 _ ?side1 ?side2 A15.out).mono ?_
     (case side1=>exact bT HO254.out)
     (case side2=>exact(Kd.R_reads' HO254.out).2.1)
     rintro e w46 ⟨v261,rfl,ho0,hb⟩
     refine⟨_,rfl,?_⟩
     have n0_:=Aside0.mk (Kd.R_elder' (bK HO240.out) (Kd.R_base ho0) hb)
     have n1_:=Aside0.mk (Kd.R_elder' (bK HO247.out) (Kd.R_base ho0) hb)
     have n2_:=Aside0.mk (Kd.R_elder' (bK HO254.out) (Kd.R_base ho0) hb)
     have n3_:=Aside0.mk (Kd.R_lower (Kd.R_new' (Kd.R_new' (Kd.R_new' ho0 (Kd.R_lt (bK HO240.out))) (Kd.R_lt (bK HO247.out))) (Kd.R_lt (bK HO254.out))) (below_size (bS5 GE235.out GE236.out GE251.out GE257.out GE266.out)))
     have n4_:=Aside0.mk (bM BK235.out hb)
     have n5_:=Aside0.mk (bM BK236.out hb)
     have n6_:=Aside0.mk (bM BK251.out hb)
     have n7_:=Aside0.mk (bM BK257.out hb)
     have n8_:=Aside0.mk (bM BK266.out hb)
     have n9_:=Aside0.mk (below_step (bS5 GE235.out GE236.out GE251.out GE257.out GE266.out) hb)
     clear HO240 HO247 HO254 BK235 BK236 BK251 BK257 BK266 HB
     have HO240:=n0_
     have HO247:=n1_
     have HO254:=n2_
     have HO262:=n3_
     have BK235:=n4_
     have BK236:=n5_
     have BK251:=n6_
     have BK257:=n7_
     have BK266:=n8_
     have HB:=n9_
     clear n0_ n1_ n2_ n3_ n4_ n5_ n6_ n7_ n8_ n9_
     (try clear hb)
     (try clear hb2)
     (try clear hk)
     (try clear hi)
     (try clear ho0)
     refine hK.out _ _ ⟨(blk_cell BK257.out 0).trans rfl,(blk_cell BK257.out 1).trans rfl,(blk_cell BK257.out 2).trans rfl,(blk_cell BK236.out 0).trans rfl,(blk_cell BK236.out 1).trans rfl⟩ (fun hHeld => ?_)
     clear hK K
     refine norm_ (a':=?_) ?_ ?_
     rotate_left
     ·show Act.put _ (some 35) _=_
      simp only[Act.put,List.setIfInBounds_toArray,List.set_cons_zero,List.set_cons_succ,i64_w,i32_w]
      rfl
     refine pure_ (i:=4) (N:=some 31) (v:=?_) (a':=?_) #[true,true,true,true,true,false,false,true,false,false] rfl rfl (any_of HT_.out (by kernel_rfl)) (fun _ _ _ h=>h) (Or.inl ⟨by rfl,?_⟩) ?_ ?_
     rotate_left
     ·intro w'
      go_simp
      with_reducible rfl
     rotate_left
     ·simp only[Act.put,List.setIfInBounds_toArray,List.set_cons_zero,List.set_cons_succ,i64_w,i32_w]
      rfl
     refine pure_ (i:=5) (N:=some 36) (v:=?_) (a':=?_) #[true,true,true,true,true,true,false,true,false,false] rfl rfl (any_of HT_.out (by kernel_rfl)) (fun _ _ _ h=>h) (Or.inl ⟨by rfl,?_⟩) ?_ ?_
     rotate_left
     ·intro w'
      go_simp
      with_reducible rfl
     rotate_left
     ·simp only[Act.put,List.setIfInBounds_toArray,List.set_cons_zero,List.set_cons_succ,i64_w,i32_w]
      rfl
     refine pure_ (i:=6) (N:=some 37) (v:=?_) (a':=?_) #[true,true,true,true,true,true,true,true,false,false] rfl rfl (any_of HT_.out (by kernel_rfl)) (fun _ _ _ h=>h) (Or.inl ⟨by rfl,?_⟩) ?_ ?_
     rotate_left
     ·intro w'
      go_simp
      with_reducible rfl
     rotate_left
     ·simp only[Act.put,List.setIfInBounds_toArray,List.set_cons_zero,List.set_cons_succ,i64_w,i32_w]
      rfl
     exact norm_ (by simp only[putAll,Act.put,List.setIfInBounds_toArray,List.set_cons_zero,List.set_cons_succ]) (hCont (v261,gb266) _ ⟨hHeld,(by(with_reducible repeat (first|apply Kd.R_alloc|apply Kd.R_drewN|apply Kd.R_drew));exact Kd.R_mono HO240.out (fun _ hk=>⟨hk.1.1,⟨hk.1.2,hk.2⟩⟩)),(by(with_reducible repeat (first|apply Kd.R_alloc|apply Kd.R_drewN|apply Kd.R_drew));exact Kd.R_mono HO247.out (fun _ hk=>⟨hk.1.1,⟨hk.1.2,hk.2⟩⟩)),(by(with_reducible repeat (first|apply Kd.R_alloc|apply Kd.R_drewN|apply Kd.R_drew));exact Kd.R_mono HO254.out (fun _ hk=>⟨hk.1.1,⟨hk.1.2,hk.2⟩⟩)),(by(with_reducible repeat (first|apply Kd.R_alloc|apply Kd.R_drewN|apply Kd.R_drew));exact Kd.R_mono HO262.out (fun _ hk=>⟨hk.1.1.2,⟨hk.1.2,hk.2⟩⟩)),(bL BK235.out),(bL BK236.out),(bL BK251.out),(bL BK257.out),(bL BK266.out),GW266.out,GE266.out,NB235_266.out,NB266_235.out,NB236_266.out,NB266_236.out,NB251_266.out,NB266_251.out,NB257_266.out,NB266_257.out,(bS5 GE235.out GE236.out GE251.out GE257.out GE266.out)⟩)
   ·skip
    refine box_step ?hg (N:=9) ?hd (cs:=#[.slice none 0 0,.int .i64 0,.bool false]) (t:=39) ?hr ?_;(case hd=>rfl);(case hg=>rfl);(case hr=>first|(go_simp;done)|(go_simp;rfl))
    intro gb266 hg w44 hbox hb
    have n0_:=Aside0.mk (Kd.R_below (bK HO240.out) hb)
    have n1_:=Aside0.mk (Kd.R_below (bK HO247.out) hb)
    have n2_:=Aside0.mk (Kd.R_below (bK HO254.out) hb)
    have n3_:=Aside0.mk (bM BK235.out hb)
    have n4_:=Aside0.mk (bM BK236.out hb)
    have n5_:=Aside0.mk (bM BK251.out hb)
    have n6_:=Aside0.mk (bM BK257.out hb)
    have n7_:=Aside0.mk (below_step (bS4 GE235.out GE236.out GE251.out GE257.out) hb)
    have n8_:=Aside0.mk (hbox)
    have n9_:=Aside0.mk ((by rw[hg];exact(below_size (bS4 GE235.out GE236.out GE251.out GE257.out)):w.heap.size≤gb266))
    have n10_:=Aside0.mk ((by rw[hg];exact(below_size (bS4 GE235.out GE236.out GE251.out GE257.out)):w.heap.size≤gb266))
    have n11_:=Aside0.mk ((bN BK235.out hg:gb235≠gb266))
    have n12_:=Aside0.mk ((bO BK235.out hg:gb266≠gb235))
    have n13_:=Aside0.mk ((bN BK236.out hg:gb236≠gb266))
    have n14_:=Aside0.mk ((bO BK236.out hg:gb266≠gb236))
    have n15_:=Aside0.mk ((bN BK251.out hg:gb251≠gb266))
    have n16_:=Aside0.mk ((bO BK251.out hg:gb266≠gb251))
    have n17_:=Aside0.mk ((bN BK257.out hg:gb257≠gb266))
    have n18_:=Aside0.mk ((bO BK257.out hg:gb266≠gb257))
    clear HO240 HO247 HO254 BK235 BK236 BK251 BK257 HB
    have HO240:=n0_
    have HO247:=n1_
    have HO254:=n2_
    have BK235:=n3_
    have BK236:=n4_
    have BK251:=n5_
    have BK257:=n6_
    have HB:=n7_
    have BK266:=n8_
    have GW266:=n9_
    have GE266:=n10_
    have NB235_266:=n11_
    have NB266_235:=n12_
    have NB236_266:=n13_
    have NB266_236:=n14_
    have NB251_266:=n15_
    have NB266_251:=n16_
    have NB257_266:=n17_
    have NB266_257:=n18_
    clear n0_ n1_ n2_ n3_ n4_ n5_ n6_ n7_ n8_ n9_ n10_ n11_ n12_ n13_ n14_ n15_ n16_ n17_ n18_ hb hbox hg
    refine hK.out _ _ ⟨(blk_cell BK257.out 0).trans rfl,(blk_cell BK257.out 1).trans rfl,(blk_cell BK257.out 2).trans rfl,(blk_cell BK236.out 0).trans rfl,(blk_cell BK236.out 1).trans rfl⟩ (fun hHeld => ?_)
    clear hK K
    refine norm_ (a':=?_) ?_ ?_
    rotate_left
    ·show Act.put _ (some 9) _=_
     simp only[Act.put,List.setIfInBounds_toArray,List.set_cons_zero,List.set_cons_succ,i64_w,i32_w]
     rfl
    refine one_ (i:=2) (N:=some 34) #[true,true,true,false,false,false,false,true,false,false] rfl rfl (one_of HT_.out (by kernel_rfl)) (by decide) (fun K hK => ?_)
    refine goes_ Try.func38 (by kernel_rfl) rfl #[.agg #[.int .i64 a1_0,.int .i64 a1_1]] (by rfl) rfl rfl (by(try simp only[List.map_toArray,List.map_cons,List.map_nil]);first|done|rfl|(simp only[List.length_drop,List.length_take];rfl)) ?_
    with_reducible refine(laws_toMeet.calls a1_0 a1_1 t258 t259 _ A14.out).mono ?_
    rintro e w45 ⟨rfl,hb⟩
    refine⟨_,rfl,?_⟩
    have n0_:=Aside0.mk (Kd.R_below (bK HO240.out) hb)
    have n1_:=Aside0.mk (Kd.R_below (bK HO247.out) hb)
    have n2_:=Aside0.mk (Kd.R_below (bK HO254.out) hb)
    have n3_:=Aside0.mk (bM BK235.out hb)
    have n4_:=Aside0.mk (bM BK236.out hb)
    have n5_:=Aside0.mk (bM BK251.out hb)
    have n6_:=Aside0.mk (bM BK257.out hb)
    have n7_:=Aside0.mk (bM BK266.out hb)
    have n8_:=Aside0.mk (below_step (bS5 GE235.out GE236.out GE251.out GE257.out GE266.out) hb)
    clear HO240 HO247 HO254 BK235 BK236 BK251 BK257 BK266 HB
    have HO240:=n0_
    have HO247:=n1_
    have HO254:=n2_
    have BK235:=n3_
    have BK236:=n4_
    have BK251:=n5_
    have BK257:=n6_
    have BK266:=n7_
    have HB:=n8_
    clear n0_ n1_ n2_ n3_ n4_ n5_ n6_ n7_ n8_
    (try clear hb)
    (try clear hb2)
    (try clear hk)
    (try clear hi)
    refine hK.out _ _ ⟨(blk_cell BK257.out 0).trans rfl,(blk_cell BK257.out 1).trans rfl,(blk_cell BK257.out 2).trans rfl,(blk_cell BK236.out 0).trans rfl,(blk_cell BK236.out 1).trans rfl⟩ (fun hHeld => ?_)
    clear hK K
    refine norm_ (a':=?_) ?_ ?_
    rotate_left
    ·show Act.put _ (some 34) _=_
     simp only[Act.put,List.setIfInBounds_toArray,List.set_cons_zero,List.set_cons_succ,i64_w,i32_w]
     rfl
    refine one_ (i:=3) (N:=some 35) #[true,true,true,true,false,false,false,true,false,false] rfl rfl (one_of HT_.out (by kernel_rfl)) (by decide) (fun K hK => ?_)
    refine goes_ Try.func39 (by kernel_rfl) rfl #[.agg #[.slice Ao37 t252.length co37,.int .i64 t255,.bool t256],.agg #[.int .i64 t258,.int .i64 t259]] (by rfl) rfl rfl (by(try simp only[List.map_toArray,List.map_cons,List.map_nil]);first|done|rfl|(simp only[List.length_drop,List.length_take];rfl)) ?_
    with_reducible refine(impl_MeetBoth.calls k _ _ t252 t255 t256 t258 t259 t260 t263 t264 t265 _ ?side1 ?side2 A15.out).mono ?_
    (case side1=>exact bT HO254.out)
    (case side2=>exact(Kd.R_reads' HO254.out).2.1)
    rintro e w46 ⟨v261,rfl,ho0,hb⟩
    refine⟨_,rfl,?_⟩
    have n0_:=Aside0.mk (Kd.R_elder' (bK HO240.out) (Kd.R_base ho0) hb)
    have n1_:=Aside0.mk (Kd.R_elder' (bK HO247.out) (Kd.R_base ho0) hb)
    have n2_:=Aside0.mk (Kd.R_elder' (bK HO254.out) (Kd.R_base ho0) hb)
    have n3_:=Aside0.mk (Kd.R_lower (Kd.R_new' (Kd.R_new' (Kd.R_new' ho0 (Kd.R_lt (bK HO240.out))) (Kd.R_lt (bK HO247.out))) (Kd.R_lt (bK HO254.out))) (below_size (bS5 GE235.out GE236.out GE251.out GE257.out GE266.out)))
    have n4_:=Aside0.mk (bM BK235.out hb)
    have n5_:=Aside0.mk (bM BK236.out hb)
    have n6_:=Aside0.mk (bM BK251.out hb)
    have n7_:=Aside0.mk (bM BK257.out hb)
    have n8_:=Aside0.mk (bM BK266.out hb)
    have n9_:=Aside0.mk (below_step (bS5 GE235.out GE236.out GE251.out GE257.out GE266.out) hb)
    clear HO240 HO247 HO254 BK235 BK236 BK251 BK257 BK266 HB
    have HO240:=n0_
    have HO247:=n1_
    have HO254:=n2_
    have HO262:=n3_
    have BK235:=n4_
    have BK236:=n5_
    have BK251:=n6_
    have BK257:=n7_
    have BK266:=n8_
    have HB:=n9_
    clear n0_ n1_ n2_ n3_ n4_ n5_ n6_ n7_ n8_ n9_
    (try clear hb)
    (try clear hb2)
    (try clear hk)
    (try clear hi)
    (try clear ho0)
    refine hK.out _ _ ⟨(blk_cell BK257.out 0).trans rfl,(blk_cell BK257.out 1).trans rfl,(blk_cell BK257.out 2).trans rfl,(blk_cell BK236.out 0).trans rfl,(blk_cell BK236.out 1).trans rfl⟩ (fun hHeld => ?_)
    clear hK K
    refine norm_ (a':=?_) ?_ ?_
    rotate_left
    ·show Act.put _ (some 35) _=_
     simp only[Act.put,List.setIfInBounds_toArray,List.set_cons_zero,List.set_cons_succ,i64_w,i32_w]
     rfl
    refine pure_ (i:=4) (N:=some 31) (v:=?_) (a':=?_) #[true,true,true,true,true,false,false,true,false,false] rfl rfl (any_of HT_.out (by kernel_rfl)) (fun _ _ _ h=>h) (Or.inl ⟨by rfl,?_⟩) ?_ ?_
    rotate_left
    ·intro w'
     go_simp
     with_reducible rfl
    rotate_left
    ·simp only[Act.put,List.setIfInBounds_toArray,List.set_cons_zero,List.set_cons_succ,i64_w,i32_w]
     rfl
    refine pure_ (i:=5) (N:=some 36) (v:=?_) (a':=?_) #[true,true,true,true,true,true,false,true,false,false] rfl rfl (any_of HT_.out (by kernel_rfl)) (fun _ _ _ h=>h) (Or.inl ⟨by rfl,?_⟩) ?_ ?_
    rotate_left
    ·intro w'
     go_simp
     with_reducible rfl
    rotate_left
    ·simp only[Act.put,List.setIfInBounds_toArray,List.set_cons_zero,List.set_cons_succ,i64_w,i32_w]
     rfl
    refine pure_ (i:=6) (N:=some 37) (v:=?_) (a':=?_) #[true,true,true,true,true,true,true,true,false,false] rfl rfl (any_of HT_.out (by kernel_rfl)) (fun _ _ _ h=>h) (Or.inl ⟨by rfl,?_⟩) ?_ ?_
    rotate_left
    ·intro w'
     go_simp
     with_reducible rfl
    rotate_left
    ·simp only[Act.put,List.setIfInBounds_toArray,List.set_cons_zero,List.set_cons_succ,i64_w,i32_w]
     rfl
    exact norm_ (by simp only[putAll,Act.put,List.setIfInBounds_toArray,List.set_cons_zero,List.set_cons_succ]) (hCont (v261,gb266) _ ⟨hHeld,(by(with_reducible repeat (first|apply Kd.R_alloc|apply Kd.R_drewN|apply Kd.R_drew));exact Kd.R_mono HO240.out (fun _ hk=>⟨hk.1.1,⟨hk.1.2,hk.2⟩⟩)),(by(with_reducible repeat (first|apply Kd.R_alloc|apply Kd.R_drewN|apply Kd.R_drew));exact Kd.R_mono HO247.out (fun _ hk=>⟨hk.1.1,⟨hk.1.2,hk.2⟩⟩)),(by(with_reducible repeat (first|apply Kd.R_alloc|apply Kd.R_drewN|apply Kd.R_drew));exact Kd.R_mono HO254.out (fun _ hk=>⟨hk.1.1,⟨hk.1.2,hk.2⟩⟩)),(by(with_reducible repeat (first|apply Kd.R_alloc|apply Kd.R_drewN|apply Kd.R_drew));exact Kd.R_mono HO262.out (fun _ hk=>⟨hk.1.1.2,⟨hk.1.2,hk.2⟩⟩)),(bL BK235.out),(bL BK236.out),(bL BK251.out),(bL BK257.out),(bL BK266.out),GW266.out,GE266.out,NB235_266.out,NB266_235.out,NB236_266.out,NB266_236.out,NB251_266.out,NB266_251.out,NB257_266.out,NB266_257.out,(bS5 GE235.out GE236.out GE251.out GE257.out GE266.out)⟩)
  rintro⟨v261,gb266⟩ w47 ⟨hS_,h0_,h1_,h2_,h3_,h4_,h5_,h6_,h7_,h8_,h9_,h10_,h11_,h12_,h13_,h14_,h15_,h16_,h17_,h18_,h19_⟩
  have n0_:Aside0 (Kd.R (Kd.int .i64) 3 w47 w.heap.size (fun k_=>some k_≠(.slice Ao29 t245.length co29:Value).ownBlock∧some k_≠(.slice Ao37 t252.length co37:Value).ownBlock∧some k_≠(v261:Value).ownBlock) v239 t238):=⟨h0_⟩
  have n1_:Aside0 (Kd.R (Kd.int .i64) 3 w47 w.heap.size (fun k_=>some k_≠(v239:Value).ownBlock∧some k_≠(.slice Ao37 t252.length co37:Value).ownBlock∧some k_≠(v261:Value).ownBlock) (.slice Ao29 t245.length co29) t245):=⟨h1_⟩
  have n2_:Aside0 (Kd.R (Kd.int .i64) 3 w47 w.heap.size (fun k_=>some k_≠(v239:Value).ownBlock∧some k_≠(.slice Ao29 t245.length co29:Value).ownBlock∧some k_≠(v261:Value).ownBlock) (.slice Ao37 t252.length co37) t252):=⟨h2_⟩
  have n3_:Aside0 (Kd.R (Kd.int .i64) 3 w47 w.heap.size (fun k_=>some k_≠(v239:Value).ownBlock∧some k_≠(.slice Ao29 t245.length co29:Value).ownBlock∧some k_≠(.slice Ao37 t252.length co37:Value).ownBlock) v261 t260):=⟨h3_⟩
  have n4_:Aside0 (w47.heap[gb235]?=some (.cells #[.slice A0_0 l0_0.length c0_0,.int .i64 a0_1,.bool a0_2] 35 (0,0))):=⟨h4_⟩
  have n5_:Aside0 (w47.heap[gb236]?=some (.cells #[.int .i64 a1_0,.int .i64 a1_1] 57 (0,0))):=⟨h5_⟩
  have n6_:Aside0 (w47.heap[gb251]?=some (.cells #[.slice Ao29 t245.length co29,.int .i64 t248,.bool t249] 39 (0,0))):=⟨h6_⟩
  have n7_:Aside0 (w47.heap[gb257]?=some (.cells #[.slice Ao37 t252.length co37,.int .i64 t255,.bool t256] 39 (0,0))):=⟨h7_⟩
  have n8_:Aside0 (w47.heap[gb266]?=some (.cells #[.slice none 0 0,.int .i64 0,.bool false] 39 (0,0))):=⟨h8_⟩
  have n9_:Aside0 (w.heap.size≤gb266):=⟨h9_⟩
  have n10_:Aside0 (w.heap.size≤gb266):=⟨h10_⟩
  have n11_:Aside0 (gb235≠gb266):=⟨h11_⟩
  have n12_:Aside0 (gb266≠gb235):=⟨h12_⟩
  have n13_:Aside0 (gb236≠gb266):=⟨h13_⟩
  have n14_:Aside0 (gb266≠gb236):=⟨h14_⟩
  have n15_:Aside0 (gb251≠gb266):=⟨h15_⟩
  have n16_:Aside0 (gb266≠gb251):=⟨h16_⟩
  have n17_:Aside0 (gb257≠gb266):=⟨h17_⟩
  have n18_:Aside0 (gb266≠gb257):=⟨h18_⟩
  have n19_:Aside0 (Below w.heap.size w w47):=⟨h19_⟩
  clear HO240 HO247 HO254 BK235 BK236 BK251 BK257 HB h0_ h1_ h2_ h3_ h4_ h5_ h6_ h7_ h8_ h9_ h10_ h11_ h12_ h13_ h14_ h15_ h16_ h17_ h18_ h19_
  have HO240:=n0_
  have HO247:=n1_
  have HO254:=n2_
  have HO262:=n3_
  have BK235:=n4_
  have BK236:=n5_
  have BK251:=n6_
  have BK257:=n7_
  have BK266:=n8_
  have GW266:=n9_
  have GE266:=n10_
  have NB235_266:=n11_
  have NB266_235:=n12_
  have NB236_266:=n13_
  have NB266_236:=n14_
  have NB251_266:=n15_
  have NB266_251:=n16_
  have NB257_266:=n17_
  have NB266_257:=n18_
  have HB:=n19_
  clear n0_ n1_ n2_ n3_ n4_ n5_ n6_ n7_ n8_ n9_ n10_ n11_ n12_ n13_ n14_ n15_ n16_ n17_ n18_ n19_
  have hHeld:w47.cell? ⟨gb257,0,none⟩=some (.slice Ao37 t252.length co37)∧w47.cell? ⟨gb257,1,none⟩=some (.int .i64 t255)∧w47.cell? ⟨gb257,2,none⟩=some (.bool t256)∧w47.cell? ⟨gb236,0,none⟩=some (.int .i64 a1_0)∧w47.cell? ⟨gb236,1,none⟩=some (.int .i64 a1_1):=hS_
  obtain⟨Ao48,co48,eo48⟩:=Kd.R_slice HO262.out
  (first|subst eo48|(injection eo48 with f1_ f2_ f3_;have f4_:=f1_.symm;have f5_:=f3_.symm;clear f1_ f2_ f3_;subst f4_;subst f5_))
  refine norm_ (a':=?_) ?_ ?_
  rotate_left
  ·simp only[putAll,Act.put,List.setIfInBounds_toArray,List.set_cons_zero,List.set_cons_succ]
   rfl
  refine one_ (i:=8) (N:=none) #[true,true,true,true,true,true,true,true,true,false] rfl rfl (one_of HT_.out (by kernel_rfl)) (by decide) (fun K hK => ?_)
  have hs49:w47.cell? ⟨gb266,0,none⟩=some (.slice none 0 0):=(blk_cell BK266.out 0).trans rfl
  have hfs49:=blk_frozen BK266.out 0
  have hns49_0:=NB235_266.out
  have hns49_1:=NB236_266.out
  have hns49_2:=NB251_266.out
  have hns49_3:=NB257_266.out
  have hms49_0:=NB266_235.out
  have hms49_1:=NB266_236.out
  have hms49_2:=NB266_251.out
  have hms49_3:=NB266_257.out
  have hs50:w47.cell? ⟨gb266,1,none⟩=some (.int .i64 0):=(blk_cell BK266.out 1).trans rfl
  have hfs50:=blk_frozen BK266.out 1
  have hns50_0:=NB235_266.out
  have hns50_1:=NB236_266.out
  have hns50_2:=NB251_266.out
  have hns50_3:=NB257_266.out
  have hms50_0:=NB266_235.out
  have hms50_1:=NB266_236.out
  have hms50_2:=NB266_251.out
  have hms50_3:=NB266_257.out
  have hs51:w47.cell? ⟨gb266,2,none⟩=some (.bool false):=(blk_cell BK266.out 2).trans rfl
  have hfs51:=blk_frozen BK266.out 2
  have hns51_0:=NB235_266.out
  have hns51_1:=NB236_266.out
  have hns51_2:=NB251_266.out
  have hns51_3:=NB257_266.out
  have hms51_0:=NB266_235.out
  have hms51_1:=NB266_236.out
  have hms51_2:=NB266_251.out
  have hms51_3:=NB266_257.out
  refine skip_ (w1:=?_) (by rfl) rfl ?_ ?_
  rotate_left
  ·go_simp
   rfl
  refine hK.out _ _ ⟨((cell_far (p:=⟨gb266,_,none⟩) NB257_266.out _).trans (((cell_far (p:=⟨gb266,_,none⟩) NB257_266.out _).trans (((cell_far (p:=⟨gb266,_,none⟩) NB257_266.out _).trans (hHeld.1)))))),((cell_far (p:=⟨gb266,_,none⟩) NB257_266.out _).trans (((cell_far (p:=⟨gb266,_,none⟩) NB257_266.out _).trans (((cell_far (p:=⟨gb266,_,none⟩) NB257_266.out _).trans (hHeld.2.1)))))),((cell_far (p:=⟨gb266,_,none⟩) NB257_266.out _).trans (((cell_far (p:=⟨gb266,_,none⟩) NB257_266.out _).trans (((cell_far (p:=⟨gb266,_,none⟩) NB257_266.out _).trans (hHeld.2.2.1)))))),((cell_far (p:=⟨gb266,_,none⟩) NB236_266.out _).trans (((cell_far (p:=⟨gb266,_,none⟩) NB236_266.out _).trans (((cell_far (p:=⟨gb266,_,none⟩) NB236_266.out _).trans (hHeld.2.2.2.1)))))),((cell_far (p:=⟨gb266,_,none⟩) NB236_266.out _).trans (((cell_far (p:=⟨gb266,_,none⟩) NB236_266.out _).trans (((cell_far (p:=⟨gb266,_,none⟩) NB236_266.out _).trans (hHeld.2.2.2.2))))))⟩ (fun hHeld => ?_)
  clear hK K
  refine pure_ (i:=9) (N:=some 10) (v:=?_) (a':=?_) #[true,true,true,true,true,true,true,true,true,true] rfl rfl (any_of HT_.out (by kernel_rfl)) (fun _ _ _ h=>h) (Or.inl ⟨by rfl,?_⟩) ?_ ?_
  rotate_left
  ·intro w'
   go_simp
   with_reducible rfl
  rotate_left
  ·simp only[Act.put,List.setIfInBounds_toArray,List.set_cons_zero,List.set_cons_succ,i64_w,i32_w]
   rfl
  refine done_ (done_of HT_.out (by kernel_rfl)) ?_
  go_upto_region 8 with (fail)
  go_cut [46] (fun v46 wc => ∃ (kq:Nat) (x46_15:Bool),v46=.bool x46_15∧Aside0 (laws_FnExactMeetBoth.j0 kq t250 t265 x46_15 l0_0 a0_1 a0_2 a1_0 a1_1 t245 t248 t249 t252 t255 t256 t260 t263 t264=some r)∧Aside0 (kq≤k)∧Aside0 (Kd.R (Kd.int .i64) 3 wc w.heap.size (fun k_=>some k_≠((.slice Ao37 t252.length co37):Value).ownBlock∧some k_≠((.slice Ao48 t260.length co48):Value).ownBlock) (.slice Ao29 t245.length co29) t245)∧Aside0 (Kd.R (Kd.int .i64) 3 wc w.heap.size (fun k_=>some k_≠((.slice Ao29 t245.length co29):Value).ownBlock∧some k_≠((.slice Ao48 t260.length co48):Value).ownBlock) (.slice Ao37 t252.length co37) t252)∧Aside0 (Kd.R (Kd.int .i64) 3 wc w.heap.size (fun k_=>some k_≠((.slice Ao29 t245.length co29):Value).ownBlock∧some k_≠((.slice Ao37 t252.length co37):Value).ownBlock) (.slice Ao48 t260.length co48) t260)∧Aside0 (wc.heap[gb235]?=some (.cells #[(.slice A0_0 l0_0.length c0_0),.int .i64 a0_1,.bool a0_2] 35 (0,0)))∧Aside0 (wc.heap[gb236]?=some (.cells #[.int .i64 a1_0,.int .i64 a1_1] 57 (0,0)))∧Aside0 (wc.heap[gb251]?=some (.cells #[(.slice Ao29 t245.length co29),.int .i64 t248,.bool t249] 39 (0,0)))∧Aside0 (wc.heap[gb257]?=some (.cells #[(.slice Ao37 t252.length co37),.int .i64 t255,.bool t256] 39 (0,0)))∧Aside0 (wc.heap[gb266]?=some (.cells #[(.slice Ao48 t260.length co48),.int .i64 t263,.bool t264] 39 (0,0)))∧Aside0 (Below w.heap.size w wc))
  case first =>
   have H:=HC16.out
   clear HC16
   replace H:=Option.bind_eq_some_iff.mp H
   obtain⟨t267,A520,H⟩:=H
   have A52:=Aside0.mk A520
   clear A520
   by_cases c53:t267=true
   ·subst c53
    have H1:(laws_FnExactMeetBoth.j0 k t250 t265 (t265 != t250) l0_0 a0_1 a0_2 a1_0 a1_1 t245 t248 t249 t252 t255 t256 t260 t263 t264)=some r:=by rw[if_pos rfl] at H;exact H
    clear H
    have H:=H1
    clear H1
    have H':=Aside0.mk H
    clear H
    have hnb54:=NB266_235.out
    have hnc54:=NB235_266.out
    have hnb55:=NB266_236.out
    have hnc55:=NB236_266.out
    have hnb56:=NB266_251.out
    have hnc56:=NB251_266.out
    have hnb57:=NB266_257.out
    have hnc57:=NB257_266.out
    obtain⟨hcz58_0,hcz58_1,hcz58_2⟩:=cC3 BK266.out
    obtain⟨hfz58_0,hfz58_1,hfz58_2⟩:=cF3 BK266.out
    have hnb59:=NB251_235.out
    have hnc59:=NB235_251.out
    have hnb60:=NB251_236.out
    have hnc60:=NB236_251.out
    have hnb61:=NB251_257.out
    have hnc61:=NB257_251.out
    obtain⟨hcz62_0,hcz62_1,hcz62_2⟩:=cC3 BK251.out
    obtain⟨hfz62_0,hfz62_1,hfz62_2⟩:=cF3 BK251.out
    go_wp2_with (first|((with_reducible refine gate_callee (f:=25) rfl ?_);refine goesA (some 40) rfl rfl Try.func25 #[.agg #[.slice Ao48 t260.length co48,.int .i64 t263,.bool t264],.agg #[.slice Ao29 t245.length co29,.int .i64 t248,.bool t249]] rfl ?_;(with_reducible refine(laws_eqSpray.calls k _ _ t260 t263 t264 _ _ t245 t248 t249 true _ ?side1 ?side2 ?side3 ?side4 A52.out).mono ?_);(case side1=>refine(Kd.R_reads' (e:=3) (base:=w.heap.size) (ok:=fun k_=>(some k_≠(v239:Value).ownBlock∧(some k_≠(.slice Ao29 t245.length co29:Value).ownBlock∧some k_≠(.slice Ao37 t252.length co37:Value).ownBlock))) (n:=t260.length) (c:=co48) ?_).2.2;exact(by(with_reducible repeat (first|apply Kd.R_alloc|apply Kd.R_drewN|apply Kd.R_drew));exact(Kd.R_mono (Kd.R_far (p:=⟨gb266,2,none⟩) (Kd.R_far (p:=⟨gb266,1,none⟩) (Kd.R_far (p:=⟨gb266,0,none⟩) (Kd.R_types HO262.out BK266.out (by decide)) (fun _ hk=>hk.2) (.slice Ao48 t260.length co48)) (fun _ hk=>hk.2) (.int .i64 t263)) (fun _ hk=>hk.2) (.bool t264)) (fun _ h_=>h_.1))));(case side2=>exact(Kd.R_reads' HO262.out).2.1);(case side3=>refine(Kd.R_reads' (e:=3) (base:=w.heap.size) (ok:=fun k_=>(some k_≠(v239:Value).ownBlock∧(some k_≠(.slice Ao37 t252.length co37:Value).ownBlock∧some k_≠(.slice Ao48 t260.length co48:Value).ownBlock))) (n:=t245.length) (c:=co29) ?_).2.2;exact(by(with_reducible repeat (first|apply Kd.R_alloc|apply Kd.R_drewN|apply Kd.R_drew));exact(Kd.R_mono (Kd.R_far (p:=⟨gb266,2,none⟩) (Kd.R_far (p:=⟨gb266,1,none⟩) (Kd.R_far (p:=⟨gb266,0,none⟩) (Kd.R_types HO247.out BK266.out (by decide)) (fun _ hk=>hk.2) (.slice Ao48 t260.length co48)) (fun _ hk=>hk.2) (.int .i64 t263)) (fun _ hk=>hk.2) (.bool t264)) (fun _ h_=>h_.1))));(case side4=>exact(Kd.R_reads' HO247.out).2.1);rintro e w63 ⟨rfl,hb⟩;refine⟨_,rfl,?_⟩;have n0_:=Aside0.mk (Kd.R_below (by(with_reducible repeat (first|apply Kd.R_alloc|apply Kd.R_drewN|apply Kd.R_drew));exact(Kd.R_mono (Kd.R_far (p:=⟨gb266,2,none⟩) (Kd.R_far (p:=⟨gb266,1,none⟩) (Kd.R_far (p:=⟨gb266,0,none⟩) (Kd.R_types HO240.out BK266.out (by decide)) (fun _ hk=>hk.2) (.slice Ao48 t260.length co48)) (fun _ hk=>hk.2) (.int .i64 t263)) (fun _ hk=>hk.2) (.bool t264)) (fun _ h_=>h_.1))) hb);have n1_:=Aside0.mk (Kd.R_below (by(with_reducible repeat (first|apply Kd.R_alloc|apply Kd.R_drewN|apply Kd.R_drew));exact(Kd.R_mono (Kd.R_far (p:=⟨gb266,2,none⟩) (Kd.R_far (p:=⟨gb266,1,none⟩) (Kd.R_far (p:=⟨gb266,0,none⟩) (Kd.R_types HO247.out BK266.out (by decide)) (fun _ hk=>hk.2) (.slice Ao48 t260.length co48)) (fun _ hk=>hk.2) (.int .i64 t263)) (fun _ hk=>hk.2) (.bool t264)) (fun _ h_=>h_.1))) hb);have n2_:=Aside0.mk (Kd.R_below (by(with_reducible repeat (first|apply Kd.R_alloc|apply Kd.R_drewN|apply Kd.R_drew));exact(Kd.R_mono (Kd.R_far (p:=⟨gb266,2,none⟩) (Kd.R_far (p:=⟨gb266,1,none⟩) (Kd.R_far (p:=⟨gb266,0,none⟩) (Kd.R_types HO254.out BK266.out (by decide)) (fun _ hk=>hk.2) (.slice Ao48 t260.length co48)) (fun _ hk=>hk.2) (.int .i64 t263)) (fun _ hk=>hk.2) (.bool t264)) (fun _ h_=>h_.1))) hb);have n3_:=Aside0.mk (Kd.R_below (by(with_reducible repeat (first|apply Kd.R_alloc|apply Kd.R_drewN|apply Kd.R_drew));exact(Kd.R_mono (Kd.R_far (p:=⟨gb266,2,none⟩) (Kd.R_far (p:=⟨gb266,1,none⟩) (Kd.R_far (p:=⟨gb266,0,none⟩) (Kd.R_types HO262.out BK266.out (by decide)) (fun _ hk=>hk.2) (.slice Ao48 t260.length co48)) (fun _ hk=>hk.2) (.int .i64 t263)) (fun _ hk=>hk.2) (.bool t264)) (fun _ h_=>h_.1))) hb);have n4_:=Aside0.mk (blk_below (g:=gb235) (o:=.cells #[.slice A0_0 l0_0.length c0_0,.int .i64 a0_1,.bool a0_2] 35 (0,0)) (by(with_reducible repeat (first|refine blk_drewN ?_ _|refine blk_drew ?_|refine blk_alloc ?_ _));refine blk_far ?_ NB235_266.out _;(with_reducible repeat (first|refine blk_drewN ?_ _|refine blk_drew ?_|refine blk_alloc ?_ _));refine blk_far ?_ NB235_266.out _;(with_reducible repeat (first|refine blk_drewN ?_ _|refine blk_drew ?_|refine blk_alloc ?_ _));refine blk_far ?_ NB235_266.out _;(with_reducible repeat (first|refine blk_drewN ?_ _|refine blk_drew ?_|refine blk_alloc ?_ _));exact BK235.out) hb);have n5_:=Aside0.mk (blk_below (g:=gb236) (o:=.cells #[.int .i64 a1_0,.int .i64 a1_1] 57 (0,0)) (by(with_reducible repeat (first|refine blk_drewN ?_ _|refine blk_drew ?_|refine blk_alloc ?_ _));refine blk_far ?_ NB236_266.out _;(with_reducible repeat (first|refine blk_drewN ?_ _|refine blk_drew ?_|refine blk_alloc ?_ _));refine blk_far ?_ NB236_266.out _;(with_reducible repeat (first|refine blk_drewN ?_ _|refine blk_drew ?_|refine blk_alloc ?_ _));refine blk_far ?_ NB236_266.out _;(with_reducible repeat (first|refine blk_drewN ?_ _|refine blk_drew ?_|refine blk_alloc ?_ _));exact BK236.out) hb);have n6_:=Aside0.mk (blk_below (g:=gb251) (o:=.cells #[.slice Ao29 t245.length co29,.int .i64 t248,.bool t249] 39 (0,0)) (by(with_reducible repeat (first|refine blk_drewN ?_ _|refine blk_drew ?_|refine blk_alloc ?_ _));refine blk_far ?_ NB251_266.out _;(with_reducible repeat (first|refine blk_drewN ?_ _|refine blk_drew ?_|refine blk_alloc ?_ _));refine blk_far ?_ NB251_266.out _;(with_reducible repeat (first|refine blk_drewN ?_ _|refine blk_drew ?_|refine blk_alloc ?_ _));refine blk_far ?_ NB251_266.out _;(with_reducible repeat (first|refine blk_drewN ?_ _|refine blk_drew ?_|refine blk_alloc ?_ _));exact BK251.out) hb);have n7_:=Aside0.mk (blk_below (g:=gb257) (o:=.cells #[.slice Ao37 t252.length co37,.int .i64 t255,.bool t256] 39 (0,0)) (by(with_reducible repeat (first|refine blk_drewN ?_ _|refine blk_drew ?_|refine blk_alloc ?_ _));refine blk_far ?_ NB257_266.out _;(with_reducible repeat (first|refine blk_drewN ?_ _|refine blk_drew ?_|refine blk_alloc ?_ _));refine blk_far ?_ NB257_266.out _;(with_reducible repeat (first|refine blk_drewN ?_ _|refine blk_drew ?_|refine blk_alloc ?_ _));refine blk_far ?_ NB257_266.out _;(with_reducible repeat (first|refine blk_drewN ?_ _|refine blk_drew ?_|refine blk_alloc ?_ _));exact BK257.out) hb);have n8_:=Aside0.mk (blk_below (g:=gb266) (o:=.cells #[.slice Ao48 t260.length co48,.int .i64 t263,.bool t264] 39 (0,0)) (by(with_reducible repeat (first|refine blk_drewN ?_ _|refine blk_drew ?_|refine blk_alloc ?_ _));refine blk_put (cs:=#[.slice Ao48 t260.length co48,.int .i64 t263,.bool false]) ?_ 2 _ rfl;(with_reducible repeat (first|refine blk_drewN ?_ _|refine blk_drew ?_|refine blk_alloc ?_ _));refine blk_put (cs:=#[.slice Ao48 t260.length co48,.int .i64 0,.bool false]) ?_ 1 _ rfl;(with_reducible repeat (first|refine blk_drewN ?_ _|refine blk_drew ?_|refine blk_alloc ?_ _));refine blk_put (cs:=#[.slice none 0 0,.int .i64 0,.bool false]) ?_ 0 _ rfl;(with_reducible repeat (first|refine blk_drewN ?_ _|refine blk_drew ?_|refine blk_alloc ?_ _));exact BK266.out) hb);have n9_:=Aside0.mk (below_step (bS5 GE235.out GE236.out GE251.out GE257.out GE266.out) hb);clear HO240 HO247 HO254 HO262 BK235 BK236 BK251 BK257 BK266 HB;have HO240:=n0_;have HO247:=n1_;have HO254:=n2_;have HO262:=n3_;have BK235:=n4_;have BK236:=n5_;have BK251:=n6_;have BK257:=n7_;have BK266:=n8_;have HB:=n9_;clear n0_ n1_ n2_ n3_ n4_ n5_ n6_ n7_ n8_ n9_;(try clear hb);(try clear hb2);(try clear hk);(try clear hi)))
    go_meet
    case rel=>exact⟨_,((t265 != t250)),(bR),H',⟨by first|omega|exact Nat.le_refl _⟩,⟨by(with_reducible repeat (first|apply Kd.R_alloc|apply Kd.R_drewN|apply Kd.R_drew));exact Kd.R_mono HO247.out (fun _ hk=>⟨hk.2.1,hk.2.2⟩)⟩,⟨by(with_reducible repeat (first|apply Kd.R_alloc|apply Kd.R_drewN|apply Kd.R_drew));exact Kd.R_mono HO254.out (fun _ hk=>⟨hk.2.1,hk.2.2⟩)⟩,⟨by(with_reducible repeat (first|apply Kd.R_alloc|apply Kd.R_drewN|apply Kd.R_drew));exact Kd.R_mono HO262.out (fun _ hk=>⟨hk.2.1,hk.2.2⟩)⟩,⟨by(with_reducible repeat (first|refine blk_drewN ?_ _|refine blk_drew ?_|refine blk_alloc ?_ _));exact BK235.out⟩,⟨by(with_reducible repeat (first|refine blk_drewN ?_ _|refine blk_drew ?_|refine blk_alloc ?_ _));exact BK236.out⟩,⟨by(with_reducible repeat (first|refine blk_drewN ?_ _|refine blk_drew ?_|refine blk_alloc ?_ _));exact BK251.out⟩,⟨by(with_reducible repeat (first|refine blk_drewN ?_ _|refine blk_drew ?_|refine blk_alloc ?_ _));exact BK257.out⟩,⟨by(with_reducible repeat (first|refine blk_drewN ?_ _|refine blk_drew ?_|refine blk_alloc ?_ _));exact BK266.out⟩,⟨bS5 GE235.out GE236.out GE251.out GE257.out GE266.out⟩⟩
   ·replace c53:=Bool.eq_false_iff.mpr c53
    subst c53
    have H1:(laws_FnExactMeetBoth.j0 k t250 t265 true l0_0 a0_1 a0_2 a1_0 a1_1 t245 t248 t249 t252 t255 t256 t260 t263 t264)=some r:=by rw[if_neg (show ¬ (false=true) by decide)] at H;exact H
    clear H
    have H:=H1
    clear H1
    have H':=Aside0.mk H
    clear H
    have hnb64:=NB266_235.out
    have hnc64:=NB235_266.out
    have hnb65:=NB266_236.out
    have hnc65:=NB236_266.out
    have hnb66:=NB266_251.out
    have hnc66:=NB251_266.out
    have hnb67:=NB266_257.out
    have hnc67:=NB257_266.out
    obtain⟨hcz68_0,hcz68_1,hcz68_2⟩:=cC3 BK266.out
    obtain⟨hfz68_0,hfz68_1,hfz68_2⟩:=cF3 BK266.out
    have hnb69:=NB251_235.out
    have hnc69:=NB235_251.out
    have hnb70:=NB251_236.out
    have hnc70:=NB236_251.out
    have hnb71:=NB251_257.out
    have hnc71:=NB257_251.out
    obtain⟨hcz72_0,hcz72_1,hcz72_2⟩:=cC3 BK251.out
    obtain⟨hfz72_0,hfz72_1,hfz72_2⟩:=cF3 BK251.out
    go_wp2_with (first|((with_reducible refine gate_callee (f:=25) rfl ?_);refine goesA (some 40) rfl rfl Try.func25 #[.agg #[.slice Ao48 t260.length co48,.int .i64 t263,.bool t264],.agg #[.slice Ao29 t245.length co29,.int .i64 t248,.bool t249]] rfl ?_;(with_reducible refine(laws_eqSpray.calls k _ _ t260 t263 t264 _ _ t245 t248 t249 false _ ?side1 ?side2 ?side3 ?side4 A52.out).mono ?_);(case side1=>refine(Kd.R_reads' (e:=3) (base:=w.heap.size) (ok:=fun k_=>(some k_≠(v239:Value).ownBlock∧(some k_≠(.slice Ao29 t245.length co29:Value).ownBlock∧some k_≠(.slice Ao37 t252.length co37:Value).ownBlock))) (n:=t260.length) (c:=co48) ?_).2.2;exact(by(with_reducible repeat (first|apply Kd.R_alloc|apply Kd.R_drewN|apply Kd.R_drew));exact(Kd.R_mono (Kd.R_far (p:=⟨gb266,2,none⟩) (Kd.R_far (p:=⟨gb266,1,none⟩) (Kd.R_far (p:=⟨gb266,0,none⟩) (Kd.R_types HO262.out BK266.out (by decide)) (fun _ hk=>hk.2) (.slice Ao48 t260.length co48)) (fun _ hk=>hk.2) (.int .i64 t263)) (fun _ hk=>hk.2) (.bool t264)) (fun _ h_=>h_.1))));(case side2=>exact(Kd.R_reads' HO262.out).2.1);(case side3=>refine(Kd.R_reads' (e:=3) (base:=w.heap.size) (ok:=fun k_=>(some k_≠(v239:Value).ownBlock∧(some k_≠(.slice Ao37 t252.length co37:Value).ownBlock∧some k_≠(.slice Ao48 t260.length co48:Value).ownBlock))) (n:=t245.length) (c:=co29) ?_).2.2;exact(by(with_reducible repeat (first|apply Kd.R_alloc|apply Kd.R_drewN|apply Kd.R_drew));exact(Kd.R_mono (Kd.R_far (p:=⟨gb266,2,none⟩) (Kd.R_far (p:=⟨gb266,1,none⟩) (Kd.R_far (p:=⟨gb266,0,none⟩) (Kd.R_types HO247.out BK266.out (by decide)) (fun _ hk=>hk.2) (.slice Ao48 t260.length co48)) (fun _ hk=>hk.2) (.int .i64 t263)) (fun _ hk=>hk.2) (.bool t264)) (fun _ h_=>h_.1))));(case side4=>exact(Kd.R_reads' HO247.out).2.1);rintro e w73 ⟨rfl,hb⟩;refine⟨_,rfl,?_⟩;have n0_:=Aside0.mk (Kd.R_below (by(with_reducible repeat (first|apply Kd.R_alloc|apply Kd.R_drewN|apply Kd.R_drew));exact(Kd.R_mono (Kd.R_far (p:=⟨gb266,2,none⟩) (Kd.R_far (p:=⟨gb266,1,none⟩) (Kd.R_far (p:=⟨gb266,0,none⟩) (Kd.R_types HO240.out BK266.out (by decide)) (fun _ hk=>hk.2) (.slice Ao48 t260.length co48)) (fun _ hk=>hk.2) (.int .i64 t263)) (fun _ hk=>hk.2) (.bool t264)) (fun _ h_=>h_.1))) hb);have n1_:=Aside0.mk (Kd.R_below (by(with_reducible repeat (first|apply Kd.R_alloc|apply Kd.R_drewN|apply Kd.R_drew));exact(Kd.R_mono (Kd.R_far (p:=⟨gb266,2,none⟩) (Kd.R_far (p:=⟨gb266,1,none⟩) (Kd.R_far (p:=⟨gb266,0,none⟩) (Kd.R_types HO247.out BK266.out (by decide)) (fun _ hk=>hk.2) (.slice Ao48 t260.length co48)) (fun _ hk=>hk.2) (.int .i64 t263)) (fun _ hk=>hk.2) (.bool t264)) (fun _ h_=>h_.1))) hb);have n2_:=Aside0.mk (Kd.R_below (by(with_reducible repeat (first|apply Kd.R_alloc|apply Kd.R_drewN|apply Kd.R_drew));exact(Kd.R_mono (Kd.R_far (p:=⟨gb266,2,none⟩) (Kd.R_far (p:=⟨gb266,1,none⟩) (Kd.R_far (p:=⟨gb266,0,none⟩) (Kd.R_types HO254.out BK266.out (by decide)) (fun _ hk=>hk.2) (.slice Ao48 t260.length co48)) (fun _ hk=>hk.2) (.int .i64 t263)) (fun _ hk=>hk.2) (.bool t264)) (fun _ h_=>h_.1))) hb);have n3_:=Aside0.mk (Kd.R_below (by(with_reducible repeat (first|apply Kd.R_alloc|apply Kd.R_drewN|apply Kd.R_drew));exact(Kd.R_mono (Kd.R_far (p:=⟨gb266,2,none⟩) (Kd.R_far (p:=⟨gb266,1,none⟩) (Kd.R_far (p:=⟨gb266,0,none⟩) (Kd.R_types HO262.out BK266.out (by decide)) (fun _ hk=>hk.2) (.slice Ao48 t260.length co48)) (fun _ hk=>hk.2) (.int .i64 t263)) (fun _ hk=>hk.2) (.bool t264)) (fun _ h_=>h_.1))) hb);have n4_:=Aside0.mk (blk_below (g:=gb235) (o:=.cells #[.slice A0_0 l0_0.length c0_0,.int .i64 a0_1,.bool a0_2] 35 (0,0)) (by(with_reducible repeat (first|refine blk_drewN ?_ _|refine blk_drew ?_|refine blk_alloc ?_ _));refine blk_far ?_ NB235_266.out _;(with_reducible repeat (first|refine blk_drewN ?_ _|refine blk_drew ?_|refine blk_alloc ?_ _));refine blk_far ?_ NB235_266.out _;(with_reducible repeat (first|refine blk_drewN ?_ _|refine blk_drew ?_|refine blk_alloc ?_ _));refine blk_far ?_ NB235_266.out _;(with_reducible repeat (first|refine blk_drewN ?_ _|refine blk_drew ?_|refine blk_alloc ?_ _));exact BK235.out) hb);have n5_:=Aside0.mk (blk_below (g:=gb236) (o:=.cells #[.int .i64 a1_0,.int .i64 a1_1] 57 (0,0)) (by(with_reducible repeat (first|refine blk_drewN ?_ _|refine blk_drew ?_|refine blk_alloc ?_ _));refine blk_far ?_ NB236_266.out _;(with_reducible repeat (first|refine blk_drewN ?_ _|refine blk_drew ?_|refine blk_alloc ?_ _));refine blk_far ?_ NB236_266.out _;(with_reducible repeat (first|refine blk_drewN ?_ _|refine blk_drew ?_|refine blk_alloc ?_ _));refine blk_far ?_ NB236_266.out _;(with_reducible repeat (first|refine blk_drewN ?_ _|refine blk_drew ?_|refine blk_alloc ?_ _));exact BK236.out) hb);have n6_:=Aside0.mk (blk_below (g:=gb251) (o:=.cells #[.slice Ao29 t245.length co29,.int .i64 t248,.bool t249] 39 (0,0)) (by(with_reducible repeat (first|refine blk_drewN ?_ _|refine blk_drew ?_|refine blk_alloc ?_ _));refine blk_far ?_ NB251_266.out _;(with_reducible repeat (first|refine blk_drewN ?_ _|refine blk_drew ?_|refine blk_alloc ?_ _));refine blk_far ?_ NB251_266.out _;(with_reducible repeat (first|refine blk_drewN ?_ _|refine blk_drew ?_|refine blk_alloc ?_ _));refine blk_far ?_ NB251_266.out _;(with_reducible repeat (first|refine blk_drewN ?_ _|refine blk_drew ?_|refine blk_alloc ?_ _));exact BK251.out) hb);have n7_:=Aside0.mk (blk_below (g:=gb257) (o:=.cells #[.slice Ao37 t252.length co37,.int .i64 t255,.bool t256] 39 (0,0)) (by(with_reducible repeat (first|refine blk_drewN ?_ _|refine blk_drew ?_|refine blk_alloc ?_ _));refine blk_far ?_ NB257_266.out _;(with_reducible repeat (first|refine blk_drewN ?_ _|refine blk_drew ?_|refine blk_alloc ?_ _));refine blk_far ?_ NB257_266.out _;(with_reducible repeat (first|refine blk_drewN ?_ _|refine blk_drew ?_|refine blk_alloc ?_ _));refine blk_far ?_ NB257_266.out _;(with_reducible repeat (first|refine blk_drewN ?_ _|refine blk_drew ?_|refine blk_alloc ?_ _));exact BK257.out) hb);have n8_:=Aside0.mk (blk_below (g:=gb266) (o:=.cells #[.slice Ao48 t260.length co48,.int .i64 t263,.bool t264] 39 (0,0)) (by(with_reducible repeat (first|refine blk_drewN ?_ _|refine blk_drew ?_|refine blk_alloc ?_ _));refine blk_put (cs:=#[.slice Ao48 t260.length co48,.int .i64 t263,.bool false]) ?_ 2 _ rfl;(with_reducible repeat (first|refine blk_drewN ?_ _|refine blk_drew ?_|refine blk_alloc ?_ _));refine blk_put (cs:=#[.slice Ao48 t260.length co48,.int .i64 0,.bool false]) ?_ 1 _ rfl;(with_reducible repeat (first|refine blk_drewN ?_ _|refine blk_drew ?_|refine blk_alloc ?_ _));refine blk_put (cs:=#[.slice none 0 0,.int .i64 0,.bool false]) ?_ 0 _ rfl;(with_reducible repeat (first|refine blk_drewN ?_ _|refine blk_drew ?_|refine blk_alloc ?_ _));exact BK266.out) hb);have n9_:=Aside0.mk (below_step (bS5 GE235.out GE236.out GE251.out GE257.out GE266.out) hb);clear HO240 HO247 HO254 HO262 BK235 BK236 BK251 BK257 BK266 HB;have HO240:=n0_;have HO247:=n1_;have HO254:=n2_;have HO262:=n3_;have BK235:=n4_;have BK236:=n5_;have BK251:=n6_;have BK257:=n7_;have BK266:=n8_;have HB:=n9_;clear n0_ n1_ n2_ n3_ n4_ n5_ n6_ n7_ n8_ n9_;(try clear hb);(try clear hb2);(try clear hk);(try clear hi)))
    go_meet
    case rel=>exact⟨_,(true),(bR),H',⟨by first|omega|exact Nat.le_refl _⟩,⟨by(with_reducible repeat (first|apply Kd.R_alloc|apply Kd.R_drewN|apply Kd.R_drew));exact Kd.R_mono HO247.out (fun _ hk=>⟨hk.2.1,hk.2.2⟩)⟩,⟨by(with_reducible repeat (first|apply Kd.R_alloc|apply Kd.R_drewN|apply Kd.R_drew));exact Kd.R_mono HO254.out (fun _ hk=>⟨hk.2.1,hk.2.2⟩)⟩,⟨by(with_reducible repeat (first|apply Kd.R_alloc|apply Kd.R_drewN|apply Kd.R_drew));exact Kd.R_mono HO262.out (fun _ hk=>⟨hk.2.1,hk.2.2⟩)⟩,⟨by(with_reducible repeat (first|refine blk_drewN ?_ _|refine blk_drew ?_|refine blk_alloc ?_ _));exact BK235.out⟩,⟨by(with_reducible repeat (first|refine blk_drewN ?_ _|refine blk_drew ?_|refine blk_alloc ?_ _));exact BK236.out⟩,⟨by(with_reducible repeat (first|refine blk_drewN ?_ _|refine blk_drew ?_|refine blk_alloc ?_ _));exact BK251.out⟩,⟨by(with_reducible repeat (first|refine blk_drewN ?_ _|refine blk_drew ?_|refine blk_alloc ?_ _));exact BK257.out⟩,⟨by(with_reducible repeat (first|refine blk_drewN ?_ _|refine blk_drew ?_|refine blk_alloc ?_ _));exact BK266.out⟩,⟨bS5 GE235.out GE236.out GE251.out GE257.out GE266.out⟩⟩
  case rest =>
   clear HC16
   try clear c2
   try clear p2
   try clear c3
   try clear c5
   try clear c6
   try clear c7
   try clear c25
   try clear c38
   try clear c39
   try clear c53
   try clear c54
   try clear c55
   try clear c56
   try clear c57
   try clear c59
   try clear c60
   try clear c61
   try clear c64
   try clear c65
   try clear c66
   try clear c67
   try clear c69
   try clear c70
   try clear c71
   try clear hcz58_0
   try clear hcz58_1
   try clear hcz58_2
   try clear hcz62_0
   try clear hcz62_1
   try clear hcz62_2
   try clear hcz68_0
   try clear hcz68_1
   try clear hcz68_2
   try clear hcz72_0
   try clear hcz72_1
   try clear hcz72_2
   try clear hfz58_0
   try clear hfz58_1
   try clear hfz58_2
   try clear hfz62_0
   try clear hfz62_1
   try clear hfz62_2
   try clear hfz68_0
   try clear hfz68_1
   try clear hfz68_2
   try clear hfz72_0
   try clear hfz72_1
   try clear hfz72_2
   obtain⟨kq,x46_15,rfl,HA,HJ15,HO_252000,HO_258000,HO_267000,BK235,BK236,BK251,BK257,BK266,HB⟩:=hcut
   cases kq with
   | zero=>exact absurd HA.out (by simp[laws_FnExactMeetBoth.j0])
   | succ kj15 =>
    have H:=HA.out
    clear HA
    simp only[laws_FnExactMeetBoth.j0] at H
    by_cases c74:x46_15=true
    ·subst c74
     have H1:(some false)=some r:=by rw[if_pos rfl] at H;exact H
     clear H
     have H:=H1
     clear H1
     obtain rfl:=Option.some.inj H
     go_wp2
     go_ret
     exact⟨bE,bS5 GE235.out GE236.out GE251.out GE257.out GE266.out⟩
    ·replace c74:=Bool.eq_false_iff.mpr c74
     subst c74
     have H1:((laws_toSpray.f kj15 l0_0 a0_1 a0_2).bind fun bt268=>((laws_eqSpray.f kj15 t252 t255 t256 bt268.1 bt268.2.1 bt268.2.2).bind fun t273=>(if t273=true then ((laws_markSpray.f kj15 t252 t255 t256 1).bind fun bt274=>(if bt274.1 < 0 then (laws_FnExactMeetBoth.j1 kj15 t250 true l0_0 a0_1 a0_2 a1_0 a1_1 t245 t248 t249 t260 t263 t264) else ((laws_eqSpray.f kj15 t260 t263 t264 t245 t248 t249).bind fun t276=>(if t276=true then (laws_FnExactMeetBoth.j1 kj15 t250 (t265 != t250) l0_0 a0_1 a0_2 a1_0 a1_1 t245 t248 t249 t260 t263 t264) else (laws_FnExactMeetBoth.j1 kj15 t250 true l0_0 a0_1 a0_2 a1_0 a1_1 t245 t248 t249 t260 t263 t264))))) else (some false))))=some r:=by rw[if_neg (show ¬ (false=true) by decide)] at H;exact H
     clear H
     have H:=H1
     clear H1
     replace H:=Option.bind_eq_some_iff.mp H
     obtain⟨⟨t268,t271,t272⟩,A750,H⟩:=H
     have A75:=Aside0.mk A750
     clear A750
     replace H:=Option.bind_eq_some_iff.mp H
     obtain⟨t273,A760,H⟩:=H
     have A76:=Aside0.mk A760
     clear A760
     by_cases c77:t273=true
     ·subst c77
      have H1:((laws_markSpray.f kj15 t252 t255 t256 1).bind fun bt274=>(if bt274.1 < 0 then (laws_FnExactMeetBoth.j1 kj15 t250 true l0_0 a0_1 a0_2 a1_0 a1_1 t245 t248 t249 t260 t263 t264) else ((laws_eqSpray.f kj15 t260 t263 t264 t245 t248 t249).bind fun t276=>(if t276=true then (laws_FnExactMeetBoth.j1 kj15 t250 (t265 != t250) l0_0 a0_1 a0_2 a1_0 a1_1 t245 t248 t249 t260 t263 t264) else (laws_FnExactMeetBoth.j1 kj15 t250 true l0_0 a0_1 a0_2 a1_0 a1_1 t245 t248 t249 t260 t263 t264)))))=some r:=by rw[if_pos rfl] at H;exact H
      clear H
      have H:=H1
      clear H1
      replace H:=Option.bind_eq_some_iff.mp H
      obtain⟨⟨t274,t275⟩,A780,H⟩:=H
      have A78:=Aside0.mk A780
      clear A780
      have HC79:=Aside0.mk H
      clear H
      try go_wp2
      have n0_:=Aside0.mk (Kd.R_drew HO_252000.out)
      have n1_:=Aside0.mk (Kd.R_drew HO_258000.out)
      have n2_:=Aside0.mk (Kd.R_drew HO_267000.out)
      have n3_:=Aside0.mk (blk_drew BK235.out)
      have n4_:=Aside0.mk (blk_drew BK236.out)
      have n5_:=Aside0.mk (blk_drew BK251.out)
      have n6_:=Aside0.mk (blk_drew BK257.out)
      have n7_:=Aside0.mk (blk_drew BK266.out)
      have n8_:=Aside0.mk (below_drew1 HB.out)
      clear HO_252000 HO_258000 HO_267000 BK235 BK236 BK251 BK257 BK266 HB
      have HO_252000:=n0_
      have HO_258000:=n1_
      have HO_267000:=n2_
      have BK235:=n3_
      have BK236:=n4_
      have BK251:=n5_
      have BK257:=n6_
      have BK266:=n7_
      have HB:=n8_
      clear n0_ n1_ n2_ n3_ n4_ n5_ n6_ n7_ n8_
      refine start_ (n:=5) (S:=fun w'=>w'.cell? ⟨gb257,0,none⟩=some (.slice Ao37 t252.length co37)∧w'.cell? ⟨gb257,1,none⟩=some (.int .i64 t255)∧w'.cell? ⟨gb257,2,none⟩=some (.bool t256)∧w'.cell? ⟨gb235,0,none⟩=some (.slice A0_0 l0_0.length c0_0)∧w'.cell? ⟨gb235,1,none⟩=some (.int .i64 a0_1)∧w'.cell? ⟨gb235,2,none⟩=some (.bool a0_2)) (ds:=[]) #[false,false,false,false,false] (by kernel_rfl) rfl rfl ⟨(blk_cell BK257.out 0).trans rfl,(blk_cell BK257.out 1).trans rfl,(blk_cell BK257.out 2).trans rfl,(blk_cell BK235.out 0).trans rfl,(blk_cell BK235.out 1).trans rfl,(blk_cell BK235.out 2).trans rfl⟩ (fun hHeld => ?_)
      generalize wc.drew=w80 at HO_252000 HO_258000 HO_267000 BK235 BK236 BK251 BK257 BK266 HB hHeld ⊢
      refine take_ (i:=0) (N:=some 47) (v:=?_) (a':=?_) #[true,false,false,false,false] rfl rfl (by kernel_rfl) (fun _ _ _ h=>h) (Or.inl ⟨by rfl,?_⟩) hHeld ?_ ?_
      rotate_left
      ·rintro w' ⟨s0,s1,s2,s3,s4,s5⟩
       go_simp
       with_reducible rfl
      rotate_left
      ·simp only[Act.put,List.setIfInBounds_toArray,List.set_cons_zero,List.set_cons_succ,i64_w,i32_w]
       rfl
      refine take_ (i:=1) (N:=some 48) (v:=?_) (a':=?_) #[true,true,false,false,false] rfl rfl (by kernel_rfl) (fun _ _ _ h=>h) (Or.inl ⟨by rfl,?_⟩) hHeld ?_ ?_
      rotate_left
      ·rintro w' ⟨s0,s1,s2,s3,s4,s5⟩
       go_simp
       with_reducible rfl
      rotate_left
      ·simp only[Act.put,List.setIfInBounds_toArray,List.set_cons_zero,List.set_cons_succ,i64_w,i32_w]
       rfl
      refine one_ (i:=2) (N:=some 49) #[true,true,true,false,false] rfl rfl (by kernel_rfl) (by decide) (fun K hK => ?_)
      refine goes_ Try.func22 (by kernel_rfl) rfl #[.agg #[.slice A0_0 l0_0.length c0_0,.int .i64 a0_1,.bool a0_2]] (by rfl) rfl rfl (by(try simp only[List.map_toArray,List.map_cons,List.map_nil]);first|done|rfl|(simp only[List.length_drop,List.length_take];rfl)) ?_
      with_reducible refine(laws_toSpray.calls kj15 _ _ l0_0 a0_1 a0_2 t268 t271 t272 _ ?side1 ?side2 A75.out).mono ?_
      (case side1=>exact bC HR0_0.out)
      (case side2=>exact HC0_0.out)
      rintro e w81 ⟨v269,rfl,ho0,hb⟩
      refine⟨_,rfl,?_⟩
      have n0_:=Aside0.mk (Kd.R_elder' (bK HO_252000.out) (Kd.R_base ho0) hb)
      have n1_:=Aside0.mk (Kd.R_elder' (bK HO_258000.out) (Kd.R_base ho0) hb)
      have n2_:=Aside0.mk (Kd.R_elder' (bK HO_267000.out) (Kd.R_base ho0) hb)
      have n3_:=Aside0.mk (Kd.R_lower (Kd.R_new' (Kd.R_new' (Kd.R_new' ho0 (Kd.R_lt (bK HO_252000.out))) (Kd.R_lt (bK HO_258000.out))) (Kd.R_lt (bK HO_267000.out))) (below_size (bS5 GE235.out GE236.out GE251.out GE257.out GE266.out)))
      have n4_:=Aside0.mk (bM BK235.out hb)
      have n5_:=Aside0.mk (bM BK236.out hb)
      have n6_:=Aside0.mk (bM BK251.out hb)
      have n7_:=Aside0.mk (bM BK257.out hb)
      have n8_:=Aside0.mk (bM BK266.out hb)
      have n9_:=Aside0.mk (below_step (bS5 GE235.out GE236.out GE251.out GE257.out GE266.out) hb)
      clear HO_252000 HO_258000 HO_267000 BK235 BK236 BK251 BK257 BK266 HB
      have HO_252000:=n0_
      have HO_258000:=n1_
      have HO_267000:=n2_
      have HO270:=n3_
      have BK235:=n4_
      have BK236:=n5_
      have BK251:=n6_
      have BK257:=n7_
      have BK266:=n8_
      have HB:=n9_
      clear n0_ n1_ n2_ n3_ n4_ n5_ n6_ n7_ n8_ n9_
      (try clear hb)
      (try clear hb2)
      (try clear hk)
      (try clear hi)
      (try clear ho0)
      obtain⟨Ao82,co82,eo82⟩:=Kd.R_slice HO270.out
      (first|subst eo82|(injection eo82 with f1_ f2_ f3_;have f4_:=f1_.symm;have f5_:=f3_.symm;clear f1_ f2_ f3_;subst f4_;subst f5_))
      refine hK.out _ _ ⟨(blk_cell BK257.out 0).trans rfl,(blk_cell BK257.out 1).trans rfl,(blk_cell BK257.out 2).trans rfl,(blk_cell BK235.out 0).trans rfl,(blk_cell BK235.out 1).trans rfl,(blk_cell BK235.out 2).trans rfl⟩ (fun hHeld => ?_)
      clear hK K
      refine norm_ (a':=?_) ?_ ?_
      rotate_left
      ·show Act.put _ (some 49) _=_
       simp only[Act.put,List.setIfInBounds_toArray,List.set_cons_zero,List.set_cons_succ,i64_w,i32_w]
       rfl
      refine one_ (i:=3) (N:=some 50) #[true,true,true,true,false] rfl rfl (by kernel_rfl) (by decide) (fun K hK => ?_)
      refine goes_ Try.func25 (by kernel_rfl) rfl #[.agg #[.slice Ao37 t252.length co37,.int .i64 t255,.bool t256],.agg #[.slice Ao82 t268.length co82,.int .i64 t271,.bool t272]] (by rfl) rfl rfl (by(try simp only[List.map_toArray,List.map_cons,List.map_nil]);first|done|rfl|(simp only[List.length_drop,List.length_take];rfl)) ?_
      with_reducible refine(laws_eqSpray.calls kj15 _ _ t252 t255 t256 _ _ t268 t271 t272 true _ ?side1 ?side2 ?side3 ?side4 A76.out).mono ?_
      (case side1=>exact bT HO_258000.out)
      (case side2=>exact(Kd.R_reads' HO_258000.out).2.1)
      (case side3=>exact bT HO270.out)
      (case side4=>exact(Kd.R_reads' HO270.out).2.1)
      rintro e w83 ⟨rfl,hb⟩
      refine⟨_,rfl,?_⟩
      have n0_:=Aside0.mk (Kd.R_below (bK HO_252000.out) hb)
      have n1_:=Aside0.mk (Kd.R_below (bK HO_258000.out) hb)
      have n2_:=Aside0.mk (Kd.R_below (bK HO_267000.out) hb)
      have n3_:=Aside0.mk (Kd.R_below (bK HO270.out) hb)
      have n4_:=Aside0.mk (bM BK235.out hb)
      have n5_:=Aside0.mk (bM BK236.out hb)
      have n6_:=Aside0.mk (bM BK251.out hb)
      have n7_:=Aside0.mk (bM BK257.out hb)
      have n8_:=Aside0.mk (bM BK266.out hb)
      have n9_:=Aside0.mk (below_step (bS5 GE235.out GE236.out GE251.out GE257.out GE266.out) hb)
      clear HO_252000 HO_258000 HO_267000 HO270 BK235 BK236 BK251 BK257 BK266 HB
      have HO_252000:=n0_
      have HO_258000:=n1_
      have HO_267000:=n2_
      have HO270:=n3_
      have BK235:=n4_
      have BK236:=n5_
      have BK251:=n6_
      have BK257:=n7_
      have BK266:=n8_
      have HB:=n9_
      clear n0_ n1_ n2_ n3_ n4_ n5_ n6_ n7_ n8_ n9_
      (try clear hb)
      (try clear hb2)
      (try clear hk)
      (try clear hi)
      refine hK.out _ _ ⟨(blk_cell BK257.out 0).trans rfl,(blk_cell BK257.out 1).trans rfl,(blk_cell BK257.out 2).trans rfl,(blk_cell BK235.out 0).trans rfl,(blk_cell BK235.out 1).trans rfl,(blk_cell BK235.out 2).trans rfl⟩ (fun hHeld => ?_)
      clear hK K
      refine norm_ (a':=?_) ?_ ?_
      rotate_left
      ·show Act.put _ (some 50) _=_
       simp only[Act.put,List.setIfInBounds_toArray,List.set_cons_zero,List.set_cons_succ,i64_w,i32_w]
       rfl
      refine pure_ (i:=4) (N:=some 51) (v:=?_) (a':=?_) #[true,true,true,true,true] rfl rfl (by kernel_rfl) (fun _ _ _ h=>h) (Or.inl ⟨by rfl,?_⟩) ?_ ?_
      rotate_left
      ·intro w'
       go_simp
       with_reducible rfl
      rotate_left
      ·simp only[Act.put,List.setIfInBounds_toArray,List.set_cons_zero,List.set_cons_succ,i64_w,i32_w]
       rfl
      refine done_ (by kernel_rfl) ?_
      have hnb84:=NB257_235.out
      have hnc84:=NB235_257.out
      have hnb85:=NB257_236.out
      have hnc85:=NB236_257.out
      have hnb86:=NB257_251.out
      have hnc86:=NB251_257.out
      have hnb87:=NB257_266.out
      have hnc87:=NB266_257.out
      obtain⟨hcz88_0,hcz88_1,hcz88_2⟩:=cC3 BK257.out
      obtain⟨hfz88_0,hfz88_1,hfz88_2⟩:=cF3 BK257.out
      go_upto_region 14 with (first|((with_reducible refine gate_callee (f:=26) rfl ?_);refine goesA (some 54) rfl rfl Try.func26 #[.agg #[.slice Ao37 t252.length co37,.int .i64 t255,.bool t256],.int .i64 1] rfl ?_;(with_reducible refine(laws_markSpray.calls kj15 (fun k_=>some k_=(.slice Ao37 t252.length co37:Value).ownBlock) (.slice Ao37 t252.length co37) t252 t255 t256 1 t274 t275 w _ ?side1 ?side2 A78.out).mono ?_);(case side1=>repeat (first|(with_reducible first|exact HB.out|apply below_alloc|apply pw_below_drewN|apply below_drew1|refine below_set ?_ GE235.out|refine below_set ?_ GE236.out|refine below_set ?_ GE251.out|refine below_set ?_ GE257.out|refine below_set ?_ GE266.out)|exact HB.out));(case side2=>exact Kd.R_tight rfl HO_258000.out);rintro e w89 ⟨rfl,hy0,hb,hkp⟩;refine⟨_,rfl,?_⟩;have n0_:=Aside0.mk (Kd.R_mono (ok':=fun k_=>some k_≠(.slice Ao37 t252.length co37:Value).ownBlock∧some k_≠(.slice Ao48 t260.length co48:Value).ownBlock∧some k_≠(.slice Ao82 t268.length co82:Value).ownBlock) (Kd.R_keptB (HO_252000.out) hkp (fun k_ hk_ hs_=>(hk_.1.1) hs_)) (fun k_ hk_=>⟨hk_.1.1.1,hk_.1.1.2,hk_.1.2⟩));have n1_:=Aside0.mk (Kd.R_reok rfl hy0 (fun k_ e_=>HO_258000.out.1 k_ e_));have n2_:=Aside0.mk (Kd.R_mono (ok':=fun k_=>some k_≠(.slice Ao29 t245.length co29:Value).ownBlock∧some k_≠(.slice Ao37 t252.length co37:Value).ownBlock∧some k_≠(.slice Ao82 t268.length co82:Value).ownBlock) (Kd.R_keptB (HO_267000.out) hkp (fun k_ hk_ hs_=>(hk_.1.2) hs_)) (fun k_ hk_=>⟨hk_.1.1.1,hk_.1.1.2,hk_.1.2⟩));have n3_:=Aside0.mk (blk_kept (bL BK235.out) hkp (fun hs_=>(fun e_=>(Kd.R_ne HO_258000.out BK235.out (by decide)) e_) hs_));have n4_:=Aside0.mk (blk_kept (bL BK236.out) hkp (fun hs_=>(fun e_=>(Kd.R_ne HO_258000.out BK236.out (by decide)) e_) hs_));have n5_:=Aside0.mk (blk_kept (bL BK251.out) hkp (fun hs_=>(fun e_=>(Kd.R_ne HO_258000.out BK251.out (by decide)) e_) hs_));have n6_:=Aside0.mk (blk_kept (bL BK257.out) hkp (fun hs_=>(fun e_=>(Kd.R_ne HO_258000.out BK257.out (by decide)) e_) hs_));have n7_:=Aside0.mk (blk_kept (bL BK266.out) hkp (fun hs_=>(fun e_=>(Kd.R_ne HO_258000.out BK266.out (by decide)) e_) hs_));have n8_:=Aside0.mk (Kd.R_mono (ok':=fun k_=>some k_≠(.slice Ao29 t245.length co29:Value).ownBlock∧some k_≠(.slice Ao37 t252.length co37:Value).ownBlock∧some k_≠(.slice Ao48 t260.length co48:Value).ownBlock) (Kd.R_keptB (HO270.out) hkp (fun k_ hk_ hs_=>(hk_.1.2) hs_)) (fun k_ hk_=>⟨hk_.1.1.1.2,hk_.1.1.2,hk_.1.2⟩));have n9_:=Aside0.mk (hb);clear HO_252000 HO_258000 HO_267000 BK235 BK236 BK251 BK257 BK266 HO270 HB;have HO_252000:=n0_;have HO_258000:=n1_;have HO_267000:=n2_;have BK235:=n3_;have BK236:=n4_;have BK251:=n5_;have BK257:=n6_;have BK266:=n7_;have HO270:=n8_;have HB:=n9_;clear n0_ n1_ n2_ n3_ n4_ n5_ n6_ n7_ n8_ n9_;(try clear hb);(try clear hkp);(try clear hy0)))
      (try simp only[Act.put,List.setIfInBounds_toArray,List.set_cons_zero,List.set_cons_succ])
      go_cut [67] (fun v67 wc => ∃ (kq:Nat) (x67_78:Bool),v67=.bool x67_78∧Aside0 (laws_FnExactMeetBoth.j1 kq t250 x67_78 l0_0 a0_1 a0_2 a1_0 a1_1 t245 t248 t249 t260 t263 t264=some r)∧Aside0 (kq≤kj15)∧Aside0 (Kd.R (Kd.int .i64) 3 wc w.heap.size (fun k_=>some k_≠((.slice Ao37 t252.length co37):Value).ownBlock∧some k_≠((.slice Ao48 t260.length co48):Value).ownBlock) (.slice Ao29 t245.length co29) t245)∧Aside0 (Kd.R (Kd.int .i64) 3 wc w.heap.size (fun k_=>some k_≠((.slice Ao29 t245.length co29):Value).ownBlock∧some k_≠((.slice Ao48 t260.length co48):Value).ownBlock) (.slice Ao37 t252.length co37) t275)∧Aside0 (Kd.R (Kd.int .i64) 3 wc w.heap.size (fun k_=>some k_≠((.slice Ao29 t245.length co29):Value).ownBlock∧some k_≠((.slice Ao37 t252.length co37):Value).ownBlock) (.slice Ao48 t260.length co48) t260)∧Aside0 (wc.heap[gb235]?=some (.cells #[(.slice A0_0 l0_0.length c0_0),.int .i64 a0_1,.bool a0_2] 35 (0,0)))∧Aside0 (wc.heap[gb236]?=some (.cells #[.int .i64 a1_0,.int .i64 a1_1] 57 (0,0)))∧Aside0 (wc.heap[gb251]?=some (.cells #[(.slice Ao29 t245.length co29),.int .i64 t248,.bool t249] 39 (0,0)))∧Aside0 (wc.heap[gb257]?=some (.cells #[(.slice Ao37 t252.length co37),.int .i64 t255,.bool t256] 39 (0,0)))∧Aside0 (wc.heap[gb266]?=some (.cells #[(.slice Ao48 t260.length co48),.int .i64 t263,.bool t264] 39 (0,0)))∧Aside0 (Below w.heap.size w wc))
      case first =>
       have H:=HC79.out
       clear HC79
       by_cases c90:t274 < 0
       ·rw[if_pos c90] at H
        have c90b0:decide (t274 < 0)=true:=decide_eq_true c90
        clear c90
        (first|rw[c90b0]|(simp only[i64_w,i32_w];rw[c90b0])|skip)
        have H':=Aside0.mk H
        clear H
        go_wp2
        go_meet
        case rel=>exact⟨_,(true),(bR),H',⟨by have:=HJ15.out;first|omega|exact Nat.le_refl _⟩,⟨by(with_reducible repeat (first|apply Kd.R_alloc|apply Kd.R_drewN|apply Kd.R_drew));exact Kd.R_mono HO_252000.out (fun _ hk=>⟨hk.1,hk.2.1⟩)⟩,⟨by(with_reducible repeat (first|apply Kd.R_alloc|apply Kd.R_drewN|apply Kd.R_drew));exact Kd.R_mono HO_258000.out (fun _ hk=>⟨hk.1.1,hk.1.2⟩)⟩,⟨by(with_reducible repeat (first|apply Kd.R_alloc|apply Kd.R_drewN|apply Kd.R_drew));exact Kd.R_mono HO_267000.out (fun _ hk=>⟨hk.1,hk.2.1⟩)⟩,⟨by(with_reducible repeat (first|refine blk_drewN ?_ _|refine blk_drew ?_|refine blk_alloc ?_ _));exact BK235.out⟩,⟨by(with_reducible repeat (first|refine blk_drewN ?_ _|refine blk_drew ?_|refine blk_alloc ?_ _));exact BK236.out⟩,⟨by(with_reducible repeat (first|refine blk_drewN ?_ _|refine blk_drew ?_|refine blk_alloc ?_ _));exact BK251.out⟩,⟨by(with_reducible repeat (first|refine blk_drewN ?_ _|refine blk_drew ?_|refine blk_alloc ?_ _));exact BK257.out⟩,⟨by(with_reducible repeat (first|refine blk_drewN ?_ _|refine blk_drew ?_|refine blk_alloc ?_ _));exact BK266.out⟩,⟨bS5 GE235.out GE236.out GE251.out GE257.out GE266.out⟩⟩
       ·rw[if_neg c90] at H
        have c90b0:decide (t274 < 0)=false:=decide_eq_false c90
        clear c90
        (first|rw[c90b0]|(simp only[i64_w,i32_w];rw[c90b0])|skip)
        replace H:=Option.bind_eq_some_iff.mp H
        obtain⟨t276,A910,H⟩:=H
        have A91:=Aside0.mk A910
        clear A910
        by_cases c92:t276=true
        ·subst c92
         have H1:(laws_FnExactMeetBoth.j1 kj15 t250 (t265 != t250) l0_0 a0_1 a0_2 a1_0 a1_1 t245 t248 t249 t260 t263 t264)=some r:=by rw[if_pos rfl] at H;exact H
         clear H
         have H:=H1
         clear H1
         have H':=Aside0.mk H
         clear H
         have hnb93:=NB266_235.out
         have hnc93:=NB235_266.out
         have hnb94:=NB266_236.out
         have hnc94:=NB236_266.out
         have hnb95:=NB266_251.out
         have hnc95:=NB251_266.out
         have hnb96:=NB266_257.out
         have hnc96:=NB257_266.out
         obtain⟨hcz97_0,hcz97_1,hcz97_2⟩:=cC3 BK266.out
         obtain⟨hfz97_0,hfz97_1,hfz97_2⟩:=cF3 BK266.out
         have hnb98:=NB251_235.out
         have hnc98:=NB235_251.out
         have hnb99:=NB251_236.out
         have hnc99:=NB236_251.out
         have hnb100:=NB251_257.out
         have hnc100:=NB257_251.out
         obtain⟨hcz101_0,hcz101_1,hcz101_2⟩:=cC3 BK251.out
         obtain⟨hfz101_0,hfz101_1,hfz101_2⟩:=cF3 BK251.out
         go_wp2_with (first|(go_at_call 25;(with_reducible refine(laws_eqSpray.calls kj15 _ _ t260 t263 t264 _ _ t245 t248 t249 true _ ?side1 ?side2 ?side3 ?side4 A91.out).mono ?_);(case side1=>exact bT HO_267000.out);(case side2=>exact(Kd.R_reads' HO_267000.out).2.1);(case side3=>exact bT HO_252000.out);(case side4=>exact(Kd.R_reads' HO_252000.out).2.1);rintro e w102 ⟨rfl,hb⟩;have n0_:=Aside0.mk (Kd.R_below (bK HO_252000.out) hb);have n1_:=Aside0.mk (Kd.R_below (bK HO_258000.out) hb);have n2_:=Aside0.mk (Kd.R_below (bK HO_267000.out) hb);have n3_:=Aside0.mk (Kd.R_below (bK HO270.out) hb);have n4_:=Aside0.mk (bM BK235.out hb);have n5_:=Aside0.mk (bM BK236.out hb);have n6_:=Aside0.mk (bM BK251.out hb);have n7_:=Aside0.mk (bM BK257.out hb);have n8_:=Aside0.mk (bM BK266.out hb);have n9_:=Aside0.mk (below_step (bS5 GE235.out GE236.out GE251.out GE257.out GE266.out) hb);clear HO_252000 HO_258000 HO_267000 HO270 BK235 BK236 BK251 BK257 BK266 HB;have HO_252000:=n0_;have HO_258000:=n1_;have HO_267000:=n2_;have HO270:=n3_;have BK235:=n4_;have BK236:=n5_;have BK251:=n6_;have BK257:=n7_;have BK266:=n8_;have HB:=n9_;clear n0_ n1_ n2_ n3_ n4_ n5_ n6_ n7_ n8_ n9_;(try clear hb);(try clear hb2);(try clear hk);(try clear hi)))
         go_meet
         case rel=>exact⟨_,((t265 != t250)),(bR),H',⟨by have:=HJ15.out;first|omega|exact Nat.le_refl _⟩,⟨by(with_reducible repeat (first|apply Kd.R_alloc|apply Kd.R_drewN|apply Kd.R_drew));exact Kd.R_mono HO_252000.out (fun _ hk=>⟨hk.1,hk.2.1⟩)⟩,⟨by(with_reducible repeat (first|apply Kd.R_alloc|apply Kd.R_drewN|apply Kd.R_drew));exact Kd.R_mono HO_258000.out (fun _ hk=>⟨hk.1.1,hk.1.2⟩)⟩,⟨by(with_reducible repeat (first|apply Kd.R_alloc|apply Kd.R_drewN|apply Kd.R_drew));exact Kd.R_mono HO_267000.out (fun _ hk=>⟨hk.1,hk.2.1⟩)⟩,⟨by(with_reducible repeat (first|refine blk_drewN ?_ _|refine blk_drew ?_|refine blk_alloc ?_ _));exact BK235.out⟩,⟨by(with_reducible repeat (first|refine blk_drewN ?_ _|refine blk_drew ?_|refine blk_alloc ?_ _));exact BK236.out⟩,⟨by(with_reducible repeat (first|refine blk_drewN ?_ _|refine blk_drew ?_|refine blk_alloc ?_ _));exact BK251.out⟩,⟨by(with_reducible repeat (first|refine blk_drewN ?_ _|refine blk_drew ?_|refine blk_alloc ?_ _));exact BK257.out⟩,⟨by(with_reducible repeat (first|refine blk_drewN ?_ _|refine blk_drew ?_|refine blk_alloc ?_ _));exact BK266.out⟩,⟨bS5 GE235.out GE236.out GE251.out GE257.out GE266.out⟩⟩
        ·replace c92:=Bool.eq_false_iff.mpr c92
         subst c92
         have H1:(laws_FnExactMeetBoth.j1 kj15 t250 true l0_0 a0_1 a0_2 a1_0 a1_1 t245 t248 t249 t260 t263 t264)=some r:=by rw[if_neg (show ¬ (false=true) by decide)] at H;exact H
         clear H
         have H:=H1
         clear H1
         have H':=Aside0.mk H
         clear H
         have hnb103:=NB266_235.out
         have hnc103:=NB235_266.out
         have hnb104:=NB266_236.out
         have hnc104:=NB236_266.out
         have hnb105:=NB266_251.out
         have hnc105:=NB251_266.out
         have hnb106:=NB266_257.out
         have hnc106:=NB257_266.out
         obtain⟨hcz107_0,hcz107_1,hcz107_2⟩:=cC3 BK266.out
         obtain⟨hfz107_0,hfz107_1,hfz107_2⟩:=cF3 BK266.out
         have hnb108:=NB251_235.out
         have hnc108:=NB235_251.out
         have hnb109:=NB251_236.out
         have hnc109:=NB236_251.out
         have hnb110:=NB251_257.out
         have hnc110:=NB257_251.out
         obtain⟨hcz111_0,hcz111_1,hcz111_2⟩:=cC3 BK251.out
         obtain⟨hfz111_0,hfz111_1,hfz111_2⟩:=cF3 BK251.out
         go_wp2_with (first|(go_at_call 25;(with_reducible refine(laws_eqSpray.calls kj15 _ _ t260 t263 t264 _ _ t245 t248 t249 false _ ?side1 ?side2 ?side3 ?side4 A91.out).mono ?_);(case side1=>exact bT HO_267000.out);(case side2=>exact(Kd.R_reads' HO_267000.out).2.1);(case side3=>exact bT HO_252000.out);(case side4=>exact(Kd.R_reads' HO_252000.out).2.1);rintro e w112 ⟨rfl,hb⟩;have n0_:=Aside0.mk (Kd.R_below (bK HO_252000.out) hb);have n1_:=Aside0.mk (Kd.R_below (bK HO_258000.out) hb);have n2_:=Aside0.mk (Kd.R_below (bK HO_267000.out) hb);have n3_:=Aside0.mk (Kd.R_below (bK HO270.out) hb);have n4_:=Aside0.mk (bM BK235.out hb);have n5_:=Aside0.mk (bM BK236.out hb);have n6_:=Aside0.mk (bM BK251.out hb);have n7_:=Aside0.mk (bM BK257.out hb);have n8_:=Aside0.mk (bM BK266.out hb);have n9_:=Aside0.mk (below_step (bS5 GE235.out GE236.out GE251.out GE257.out GE266.out) hb);clear HO_252000 HO_258000 HO_267000 HO270 BK235 BK236 BK251 BK257 BK266 HB;have HO_252000:=n0_;have HO_258000:=n1_;have HO_267000:=n2_;have HO270:=n3_;have BK235:=n4_;have BK236:=n5_;have BK251:=n6_;have BK257:=n7_;have BK266:=n8_;have HB:=n9_;clear n0_ n1_ n2_ n3_ n4_ n5_ n6_ n7_ n8_ n9_;(try clear hb);(try clear hb2);(try clear hk);(try clear hi)))
         go_meet
         case rel=>exact⟨_,(true),(bR),H',⟨by have:=HJ15.out;first|omega|exact Nat.le_refl _⟩,⟨by(with_reducible repeat (first|apply Kd.R_alloc|apply Kd.R_drewN|apply Kd.R_drew));exact Kd.R_mono HO_252000.out (fun _ hk=>⟨hk.1,hk.2.1⟩)⟩,⟨by(with_reducible repeat (first|apply Kd.R_alloc|apply Kd.R_drewN|apply Kd.R_drew));exact Kd.R_mono HO_258000.out (fun _ hk=>⟨hk.1.1,hk.1.2⟩)⟩,⟨by(with_reducible repeat (first|apply Kd.R_alloc|apply Kd.R_drewN|apply Kd.R_drew));exact Kd.R_mono HO_267000.out (fun _ hk=>⟨hk.1,hk.2.1⟩)⟩,⟨by(with_reducible repeat (first|refine blk_drewN ?_ _|refine blk_drew ?_|refine blk_alloc ?_ _));exact BK235.out⟩,⟨by(with_reducible repeat (first|refine blk_drewN ?_ _|refine blk_drew ?_|refine blk_alloc ?_ _));exact BK236.out⟩,⟨by(with_reducible repeat (first|refine blk_drewN ?_ _|refine blk_drew ?_|refine blk_alloc ?_ _));exact BK251.out⟩,⟨by(with_reducible repeat (first|refine blk_drewN ?_ _|refine blk_drew ?_|refine blk_alloc ?_ _));exact BK257.out⟩,⟨by(with_reducible repeat (first|refine blk_drewN ?_ _|refine blk_drew ?_|refine blk_alloc ?_ _));exact BK266.out⟩,⟨bS5 GE235.out GE236.out GE251.out GE257.out GE266.out⟩⟩
      case rest =>
       clear HC79
       try clear c1
       try clear c2
       try clear p2
       try clear c3
       try clear c5
       try clear c6
       try clear c7
       try clear c8
       try clear c9
       try clear c10
       try clear c11
       try clear c22
       try clear c25
       try clear c26
       try clear c38
       try clear c39
       try clear c53
       try clear c54
       try clear c55
       try clear c56
       try clear c57
       try clear c59
       try clear c60
       try clear c61
       try clear c64
       try clear c65
       try clear c66
       try clear c67
       try clear c69
       try clear c70
       try clear c71
       try clear c74
       try clear c77
       try clear c84
       try clear c85
       try clear c86
       try clear c87
       try clear c90
       try clear c90b0
       try clear c92
       try clear c93
       try clear c94
       try clear c95
       try clear c96
       try clear c98
       try clear c99
       try clear c100
       try clear c103
       try clear c104
       try clear c105
       try clear c106
       try clear c108
       try clear c109
       try clear c110
       try clear hcz101_0
       try clear hcz101_1
       try clear hcz101_2
       try clear hcz107_0
       try clear hcz107_1
       try clear hcz107_2
       try clear hcz111_0
       try clear hcz111_1
       try clear hcz111_2
       try clear hcz58_0
       try clear hcz58_1
       try clear hcz58_2
       try clear hcz62_0
       try clear hcz62_1
       try clear hcz62_2
       try clear hcz68_0
       try clear hcz68_1
       try clear hcz68_2
       try clear hcz72_0
       try clear hcz72_1
       try clear hcz72_2
       try clear hcz88_0
       try clear hcz88_1
       try clear hcz88_2
       try clear hcz97_0
       try clear hcz97_1
       try clear hcz97_2
       try clear hfz101_0
       try clear hfz101_1
       try clear hfz101_2
       try clear hfz107_0
       try clear hfz107_1
       try clear hfz107_2
       try clear hfz111_0
       try clear hfz111_1
       try clear hfz111_2
       try clear hfz58_0
       try clear hfz58_1
       try clear hfz58_2
       try clear hfz62_0
       try clear hfz62_1
       try clear hfz62_2
       try clear hfz68_0
       try clear hfz68_1
       try clear hfz68_2
       try clear hfz72_0
       try clear hfz72_1
       try clear hfz72_2
       try clear hfz88_0
       try clear hfz88_1
       try clear hfz88_2
       try clear hfz97_0
       try clear hfz97_1
       try clear hfz97_2
       try clear p2
       obtain⟨kq,x67_78,rfl,HA,HJ78,HO_252000,HO_258000,HO_267000,BK235,BK236,BK251,BK257,BK266,HB⟩:=hcut
       have hl258000_78:=(Kd.R_reads' HO_258000.out).1
       rw[hl258000_78] at HO_258000
       (try simp only[hl258000_78])
       (try simp only[hl258000_78] at BK235)
       (try simp only[hl258000_78] at BK236)
       (try simp only[hl258000_78] at BK251)
       (try simp only[hl258000_78] at BK257)
       (try simp only[hl258000_78] at BK266)
       (try simp only[hl258000_78] at HO_252000)
       (try simp only[hl258000_78] at HO_267000)
       cases kq with
       | zero=>exact absurd HA.out (by simp[laws_FnExactMeetBoth.j1])
       | succ kj78 =>
        have H:=HA.out
        clear HA
        simp only[laws_FnExactMeetBoth.j1] at H
        by_cases c113:x67_78=true
        ·subst c113
         have H1:(some false)=some r:=by rw[if_pos rfl] at H;exact H
         clear H
         have H:=H1
         clear H1
         obtain rfl:=Option.some.inj H
         go_wp2
         go_ret
         exact⟨bE,bS5 GE235.out GE236.out GE251.out GE257.out GE266.out⟩
        ·replace c113:=Bool.eq_false_iff.mpr c113
         subst c113
         have H1:((laws_markSpray.f kj78 t260 t263 t264 1).bind fun bt277=>((laws_heldSpray.f kj78 bt277.2 t263 t264 1).bind fun t279=>(if t279 < 0 then (some false) else (if t279=bt277.1 then ((laws_toSpray.f kj78 l0_0 a0_1 a0_2).bind fun bt280=>((laws_toMeet.f a1_0 a1_1).bind fun bt285=>((impl_MeetBoth.f kj78 bt280.1 bt280.2.1 bt280.2.2 bt285.1 bt285.2).bind fun bt287=>((laws_eqSpray.f kj78 bt287.1 bt287.2.1 bt287.2.2.1 t245 t248 t249).bind fun t294=>(if t294=true then (laws_FnExactMeetBoth.j2 kj78 bt277.1 (bt287.2.2.2 != t250) bt277.2 t263 t264) else (laws_FnExactMeetBoth.j2 kj78 bt277.1 true bt277.2 t263 t264)))))) else (some false)))))=some r:=by rw[if_neg (show ¬ (false=true) by decide)] at H;exact H
         clear H
         have H:=H1
         clear H1
         replace H:=Option.bind_eq_some_iff.mp H
         obtain⟨⟨t277,t278⟩,A1140,H⟩:=H
         have A114:=Aside0.mk A1140
         clear A1140
         replace H:=Option.bind_eq_some_iff.mp H
         obtain⟨t279,A1150,H⟩:=H
         have A115:=Aside0.mk A1150
         clear A1150
         by_cases c116:t279 < 0
         ·rw[if_pos c116] at H
          have c116b0:decide (t279 < 0)=true:=decide_eq_true c116
          clear c116
          obtain rfl:=Option.some.inj H
          have hnb117:=NB266_235.out
          have hnc117:=NB235_266.out
          have hnb118:=NB266_236.out
          have hnc118:=NB236_266.out
          have hnb119:=NB266_251.out
          have hnc119:=NB251_266.out
          have hnb120:=NB266_257.out
          have hnc120:=NB257_266.out
          obtain⟨hcz121_0,hcz121_1,hcz121_2⟩:=cC3 BK266.out
          obtain⟨hfz121_0,hfz121_1,hfz121_2⟩:=cF3 BK266.out
          go_wp2_with (first|((with_reducible refine gate_callee (f:=26) rfl ?_);refine goesA (some 70) rfl rfl Try.func26 #[.agg #[.slice Ao48 t260.length co48,.int .i64 t263,.bool t264],.int .i64 1] rfl ?_;(with_reducible refine(laws_markSpray.calls kj78 (fun k_=>some k_=(.slice Ao48 t260.length co48:Value).ownBlock) (.slice Ao48 t260.length co48) t260 t263 t264 1 t277 t278 w _ ?side1 ?side2 A114.out).mono ?_);(case side1=>repeat (first|(with_reducible first|exact HB.out|apply below_alloc|apply pw_below_drewN|apply below_drew1|refine below_set ?_ GE235.out|refine below_set ?_ GE236.out|refine below_set ?_ GE251.out|refine below_set ?_ GE257.out|refine below_set ?_ GE266.out)|exact HB.out));(case side2=>exact Kd.R_tight rfl HO_267000.out);rintro e w122 ⟨rfl,hy0,hb,hkp⟩;refine⟨_,rfl,?_⟩;have n0_:=Aside0.mk (Kd.R_mono (ok':=fun k_=>some k_≠(.slice Ao37 t275.length co37:Value).ownBlock∧some k_≠(.slice Ao48 t260.length co48:Value).ownBlock) (Kd.R_keptB (HO_252000.out) hkp (fun k_ hk_ hs_=>(hk_.2) hs_)) (fun k_ hk_=>⟨hk_.1.1,hk_.1.2⟩));have n1_:=Aside0.mk (Kd.R_mono (ok':=fun k_=>some k_≠(.slice Ao29 t245.length co29:Value).ownBlock∧some k_≠(.slice Ao48 t260.length co48:Value).ownBlock) (Kd.R_keptB (HO_258000.out) hkp (fun k_ hk_ hs_=>(hk_.2) hs_)) (fun k_ hk_=>⟨hk_.1.1,hk_.1.2⟩));have n2_:=Aside0.mk (Kd.R_reok rfl hy0 (fun k_ e_=>HO_267000.out.1 k_ e_));have n3_:=Aside0.mk (blk_kept (bL BK235.out) hkp (fun hs_=>(fun e_=>(Kd.R_ne HO_267000.out BK235.out (by decide)) e_) hs_));have n4_:=Aside0.mk (blk_kept (bL BK236.out) hkp (fun hs_=>(fun e_=>(Kd.R_ne HO_267000.out BK236.out (by decide)) e_) hs_));have n5_:=Aside0.mk (blk_kept (bL BK251.out) hkp (fun hs_=>(fun e_=>(Kd.R_ne HO_267000.out BK251.out (by decide)) e_) hs_));have n6_:=Aside0.mk (blk_kept (bL BK257.out) hkp (fun hs_=>(fun e_=>(Kd.R_ne HO_267000.out BK257.out (by decide)) e_) hs_));have n7_:=Aside0.mk (blk_kept (bL BK266.out) hkp (fun hs_=>(fun e_=>(Kd.R_ne HO_267000.out BK266.out (by decide)) e_) hs_));have n8_:=Aside0.mk (hb);clear HO_252000 HO_258000 HO_267000 BK235 BK236 BK251 BK257 BK266 HB;have HO_252000:=n0_;have HO_258000:=n1_;have HO_267000:=n2_;have BK235:=n3_;have BK236:=n4_;have BK251:=n5_;have BK257:=n6_;have BK266:=n7_;have HB:=n8_;clear n0_ n1_ n2_ n3_ n4_ n5_ n6_ n7_ n8_;(try clear hb);(try clear hkp);(try clear hy0);obtain⟨hcz123_0,hcz123_1,hcz123_2⟩:=cC3 BK266.out;obtain⟨hfz123_0,hfz123_1,hfz123_2⟩:=cF3 BK266.out)|((with_reducible refine gate_callee (f:=40) rfl ?_);refine goesL_ (some 73) rfl rfl Try.func40 (by kernel_rfl) rfl #[.agg #[.slice Ao48 t278.length co48,.int .i64 t263,.bool t264],.int .i64 1] rfl (by(try simp only[List.map_toArray,List.map_cons,List.map_nil]);first|done|(rw[show t278.length=t260.length from (Kd.R_reads' HO_267000.out).1.symm]<;>rfl)|rfl|(simp only[List.length_drop,List.length_take];rfl)) ?_;(with_reducible refine(laws_heldSpray.calls kj78 _ _ t278 t263 t264 1 t279 _ ?side1 ?side2 A115.out).mono ?_);(case side1=>exact bT HO_267000.out);(case side2=>rw[show t278.length=t260.length from (Kd.R_reads' HO_267000.out).1.symm];exact(Kd.R_reads' HO_267000.out).2.1);rintro e w124 ⟨rfl,hb⟩;refine⟨_,rfl,?_⟩;have n0_:=Aside0.mk (Kd.R_below (bK HO_252000.out) hb);have n1_:=Aside0.mk (Kd.R_below (bK HO_258000.out) hb);have n2_:=Aside0.mk (Kd.R_below (bK HO_267000.out) hb);have n3_:=Aside0.mk (bM BK235.out hb);have n4_:=Aside0.mk (bM BK236.out hb);have n5_:=Aside0.mk (bM BK251.out hb);have n6_:=Aside0.mk (bM BK257.out hb);have n7_:=Aside0.mk (bM BK266.out hb);have n8_:=Aside0.mk (below_step (bS5 GE235.out GE236.out GE251.out GE257.out GE266.out) hb);clear HO_252000 HO_258000 HO_267000 BK235 BK236 BK251 BK257 BK266 HB;have HO_252000:=n0_;have HO_258000:=n1_;have HO_267000:=n2_;have BK235:=n3_;have BK236:=n4_;have BK251:=n5_;have BK257:=n6_;have BK266:=n7_;have HB:=n8_;clear n0_ n1_ n2_ n3_ n4_ n5_ n6_ n7_ n8_;(try clear hb);(try clear hb2);(try clear hk);(try clear hi)))
          go_ret
          exact⟨bE,bS5 GE235.out GE236.out GE251.out GE257.out GE266.out⟩
         ·rw[if_neg c116] at H
          have c116b0:decide (t279 < 0)=false:=decide_eq_false c116
          clear c116
          by_cases c125:t279=t277
          ·rw[if_pos c125] at H
           have c125b0:(t279 == t277)=true:=beq_iff_eq.mpr c125
           have c125b1:(t279 != t277)=false:=bne_eq_false_iff_eq.mpr c125
           clear c125
           replace H:=Option.bind_eq_some_iff.mp H
           obtain⟨⟨t280,t283,t284⟩,A1260,H⟩:=H
           have A126:=Aside0.mk A1260
           clear A1260
           replace H:=Option.bind_eq_some_iff.mp H
           obtain⟨⟨t285,t286⟩,A1270,H⟩:=H
           have A127:=Aside0.mk A1270
           clear A1270
           replace H:=Option.bind_eq_some_iff.mp H
           obtain⟨⟨t287,t290,t291,t292⟩,A1280,H⟩:=H
           have A128:=Aside0.mk A1280
           clear A1280
           have HC129:=Aside0.mk H
           clear H
           have hnb130:=NB266_235.out
           have hnc130:=NB235_266.out
           have hnb131:=NB266_236.out
           have hnc131:=NB236_266.out
           have hnb132:=NB266_251.out
           have hnc132:=NB251_266.out
           have hnb133:=NB266_257.out
           have hnc133:=NB257_266.out
           obtain⟨hcz134_0,hcz134_1,hcz134_2⟩:=cC3 BK266.out
           obtain⟨hfz134_0,hfz134_1,hfz134_2⟩:=cF3 BK266.out
           try go_wp2_with (first|((with_reducible refine gate_callee (f:=26) rfl ?_);refine goesA (some 70) rfl rfl Try.func26 #[.agg #[.slice Ao48 t260.length co48,.int .i64 t263,.bool t264],.int .i64 1] rfl ?_;(with_reducible refine(laws_markSpray.calls kj78 (fun k_=>some k_=(.slice Ao48 t260.length co48:Value).ownBlock) (.slice Ao48 t260.length co48) t260 t263 t264 1 t277 t278 w _ ?side1 ?side2 A114.out).mono ?_);(case side1=>repeat (first|(with_reducible first|exact HB.out|apply below_alloc|apply pw_below_drewN|apply below_drew1|refine below_set ?_ GE235.out|refine below_set ?_ GE236.out|refine below_set ?_ GE251.out|refine below_set ?_ GE257.out|refine below_set ?_ GE266.out)|exact HB.out));(case side2=>exact Kd.R_tight rfl HO_267000.out);rintro e w135 ⟨rfl,hy0,hb,hkp⟩;refine⟨_,rfl,?_⟩;have n0_:=Aside0.mk (Kd.R_mono (ok':=fun k_=>some k_≠(.slice Ao37 t275.length co37:Value).ownBlock∧some k_≠(.slice Ao48 t260.length co48:Value).ownBlock) (Kd.R_keptB (HO_252000.out) hkp (fun k_ hk_ hs_=>(hk_.2) hs_)) (fun k_ hk_=>⟨hk_.1.1,hk_.1.2⟩));have n1_:=Aside0.mk (Kd.R_mono (ok':=fun k_=>some k_≠(.slice Ao29 t245.length co29:Value).ownBlock∧some k_≠(.slice Ao48 t260.length co48:Value).ownBlock) (Kd.R_keptB (HO_258000.out) hkp (fun k_ hk_ hs_=>(hk_.2) hs_)) (fun k_ hk_=>⟨hk_.1.1,hk_.1.2⟩));have n2_:=Aside0.mk (Kd.R_reok rfl hy0 (fun k_ e_=>HO_267000.out.1 k_ e_));have n3_:=Aside0.mk (blk_kept (bL BK235.out) hkp (fun hs_=>(fun e_=>(Kd.R_ne HO_267000.out BK235.out (by decide)) e_) hs_));have n4_:=Aside0.mk (blk_kept (bL BK236.out) hkp (fun hs_=>(fun e_=>(Kd.R_ne HO_267000.out BK236.out (by decide)) e_) hs_));have n5_:=Aside0.mk (blk_kept (bL BK251.out) hkp (fun hs_=>(fun e_=>(Kd.R_ne HO_267000.out BK251.out (by decide)) e_) hs_));have n6_:=Aside0.mk (blk_kept (bL BK257.out) hkp (fun hs_=>(fun e_=>(Kd.R_ne HO_267000.out BK257.out (by decide)) e_) hs_));have n7_:=Aside0.mk (blk_kept (bL BK266.out) hkp (fun hs_=>(fun e_=>(Kd.R_ne HO_267000.out BK266.out (by decide)) e_) hs_));have n8_:=Aside0.mk (hb);clear HO_252000 HO_258000 HO_267000 BK235 BK236 BK251 BK257 BK266 HB;have HO_252000:=n0_;have HO_258000:=n1_;have HO_267000:=n2_;have BK235:=n3_;have BK236:=n4_;have BK251:=n5_;have BK257:=n6_;have BK266:=n7_;have HB:=n8_;clear n0_ n1_ n2_ n3_ n4_ n5_ n6_ n7_ n8_;(try clear hb);(try clear hkp);(try clear hy0);obtain⟨hcz136_0,hcz136_1,hcz136_2⟩:=cC3 BK266.out;obtain⟨hfz136_0,hfz136_1,hfz136_2⟩:=cF3 BK266.out)|((with_reducible refine gate_callee (f:=40) rfl ?_);refine goesL_ (some 73) rfl rfl Try.func40 (by kernel_rfl) rfl #[.agg #[.slice Ao48 t278.length co48,.int .i64 t263,.bool t264],.int .i64 1] rfl (by(try simp only[List.map_toArray,List.map_cons,List.map_nil]);first|done|(rw[show t278.length=t260.length from (Kd.R_reads' HO_267000.out).1.symm]<;>rfl)|rfl|(simp only[List.length_drop,List.length_take];rfl)) ?_;(with_reducible refine(laws_heldSpray.calls kj78 _ _ t278 t263 t264 1 t279 _ ?side1 ?side2 A115.out).mono ?_);(case side1=>exact bT HO_267000.out);(case side2=>rw[show t278.length=t260.length from (Kd.R_reads' HO_267000.out).1.symm];exact(Kd.R_reads' HO_267000.out).2.1);rintro e w137 ⟨rfl,hb⟩;refine⟨_,rfl,?_⟩;have n0_:=Aside0.mk (Kd.R_below (bK HO_252000.out) hb);have n1_:=Aside0.mk (Kd.R_below (bK HO_258000.out) hb);have n2_:=Aside0.mk (Kd.R_below (bK HO_267000.out) hb);have n3_:=Aside0.mk (bM BK235.out hb);have n4_:=Aside0.mk (bM BK236.out hb);have n5_:=Aside0.mk (bM BK251.out hb);have n6_:=Aside0.mk (bM BK257.out hb);have n7_:=Aside0.mk (bM BK266.out hb);have n8_:=Aside0.mk (below_step (bS5 GE235.out GE236.out GE251.out GE257.out GE266.out) hb);clear HO_252000 HO_258000 HO_267000 BK235 BK236 BK251 BK257 BK266 HB;have HO_252000:=n0_;have HO_258000:=n1_;have HO_267000:=n2_;have BK235:=n3_;have BK236:=n4_;have BK251:=n5_;have BK257:=n6_;have BK266:=n7_;have HB:=n8_;clear n0_ n1_ n2_ n3_ n4_ n5_ n6_ n7_ n8_;(try clear hb);(try clear hb2);(try clear hk);(try clear hi)))
           (try (rw[drewN_self w137];generalize hq_:World.drewN w137 _=w137;have n0_:=Aside0.mk (Kd.R_at hq_ HO_252000.out);have n1_:=Aside0.mk (Kd.R_at hq_ HO_258000.out);have n2_:=Aside0.mk (Kd.R_at hq_ HO_267000.out);have n3_:=Aside0.mk (blk_at hq_ BK235.out);have n4_:=Aside0.mk (blk_at hq_ BK236.out);have n5_:=Aside0.mk (blk_at hq_ BK251.out);have n6_:=Aside0.mk (blk_at hq_ BK257.out);have n7_:=Aside0.mk (blk_at hq_ BK266.out);have n8_:=Aside0.mk (below_at hq_ HB.out);clear hq_ HO_252000 HO_258000 HO_267000 BK235 BK236 BK251 BK257 BK266 HB;have HO_252000:=n0_;have HO_258000:=n1_;have HO_267000:=n2_;have BK235:=n3_;have BK236:=n4_;have BK251:=n5_;have BK257:=n6_;have BK266:=n7_;have HB:=n8_;clear n0_ n1_ n2_ n3_ n4_ n5_ n6_ n7_ n8_))
           have n0_:=Aside0.mk (Kd.R_drew HO_252000.out)
           have n1_:=Aside0.mk (Kd.R_drew HO_258000.out)
           have n2_:=Aside0.mk (Kd.R_drew HO_267000.out)
           have n3_:=Aside0.mk (blk_drew BK235.out)
           have n4_:=Aside0.mk (blk_drew BK236.out)
           have n5_:=Aside0.mk (blk_drew BK251.out)
           have n6_:=Aside0.mk (blk_drew BK257.out)
           have n7_:=Aside0.mk (blk_drew BK266.out)
           have n8_:=Aside0.mk (below_drew1 HB.out)
           clear HO_252000 HO_258000 HO_267000 BK235 BK236 BK251 BK257 BK266 HB
           have HO_252000:=n0_
           have HO_258000:=n1_
           have HO_267000:=n2_
           have BK235:=n3_
           have BK236:=n4_
           have BK251:=n5_
           have BK257:=n6_
           have BK266:=n7_
           have HB:=n8_
           clear n0_ n1_ n2_ n3_ n4_ n5_ n6_ n7_ n8_
           refine start_ (n:=11) (S:=fun w'=>w'.cell? ⟨gb235,0,none⟩=some (.slice A0_0 l0_0.length c0_0)∧w'.cell? ⟨gb235,1,none⟩=some (.int .i64 a0_1)∧w'.cell? ⟨gb235,2,none⟩=some (.bool a0_2)∧w'.cell? ⟨gb236,0,none⟩=some (.int .i64 a1_0)∧w'.cell? ⟨gb236,1,none⟩=some (.int .i64 a1_1)) (ds:=[]) #[false,false,false,false,false,false,false,false,false,false,false] (by kernel_rfl) rfl rfl ⟨(blk_cell BK235.out 0).trans rfl,(blk_cell BK235.out 1).trans rfl,(blk_cell BK235.out 2).trans rfl,(blk_cell BK236.out 0).trans rfl,(blk_cell BK236.out 1).trans rfl⟩ (fun hHeld => ?_);refine with_tabW laws_FnExactMeetBoth.tab24 laws_FnExactMeetBoth.bits24 (fun HT_ HW_ => ?_)
           generalize w137.drew=w138 at HO_252000 HO_258000 HO_267000 BK235 BK236 BK251 BK257 BK266 HB hHeld ⊢
           refine take_ (i:=0) (N:=some 80) (v:=?_) (a':=?_) #[true,false,false,false,false,false,false,false,false,false,false] rfl rfl (take_ofW HT_.out HW_.out (by kernel_rfl)) (fun _ _ _ h=>h) (Or.inl ⟨by rfl,?_⟩) hHeld ?_ ?_
           rotate_left
           ·rintro w' ⟨s0,s1,s2,s3,s4⟩
            go_simp
            with_reducible rfl
           rotate_left
           ·simp only[Act.put,List.setIfInBounds_toArray,List.set_cons_zero,List.set_cons_succ,i64_w,i32_w]
            rfl
           refine take_ (i:=2) (N:=some 82) (v:=?_) (a':=?_) #[true,false,true,false,false,false,false,false,false,false,false] rfl rfl (take_ofW HT_.out HW_.out (by kernel_rfl)) (fun _ _ _ h=>h) (Or.inl ⟨by rfl,?_⟩) hHeld ?_ ?_
           rotate_left
           ·rintro w' ⟨s0,s1,s2,s3,s4⟩
            go_simp
            with_reducible rfl
           rotate_left
           ·simp only[Act.put,List.setIfInBounds_toArray,List.set_cons_zero,List.set_cons_succ,i64_w,i32_w]
            rfl
           refine join_ (σ:=Value × Value × Nat) 2 #[true,true,true,true,true,true,true,true,true,false,false] (fun s_=>[(81,.agg #[s_.1,.int .i64 t283,.bool t284]),(83,.agg #[.int .i64 t285,.int .i64 t286]),(84,.tuple #[.agg #[s_.2.1,.int .i64 t290,.bool t291],.bool t292]),(14,.pointer (some ⟨s_.2.2,0,none⟩)),(79,.tuple #[.agg #[s_.2.1,.int .i64 t290,.bool t291],.bool t292]),(85,.agg #[s_.2.1,.int .i64 t290,.bool t291]),(86,.bool t292)]) (fun s_ w'=>(w'.cell? ⟨gb235,0,none⟩=some (.slice A0_0 l0_0.length c0_0)∧w'.cell? ⟨gb235,1,none⟩=some (.int .i64 a0_1)∧w'.cell? ⟨gb235,2,none⟩=some (.bool a0_2)∧w'.cell? ⟨gb236,0,none⟩=some (.int .i64 a1_0)∧w'.cell? ⟨gb236,1,none⟩=some (.int .i64 a1_1))∧(Kd.R (Kd.int .i64) 3 w' w.heap.size (fun k_=>some k_≠(s_.2.1:Value).ownBlock∧some k_≠(.slice Ao29 t245.length co29:Value).ownBlock∧some k_≠(.slice Ao37 t275.length co37:Value).ownBlock∧some k_≠(.slice Ao48 t260.length co48:Value).ownBlock) s_.1 t280)∧(Kd.R (Kd.int .i64) 3 w' w.heap.size (fun k_=>some k_≠(s_.1:Value).ownBlock∧some k_≠(.slice Ao29 t245.length co29:Value).ownBlock∧some k_≠(.slice Ao37 t275.length co37:Value).ownBlock∧some k_≠(.slice Ao48 t260.length co48:Value).ownBlock) s_.2.1 t287)∧(Kd.R (Kd.int .i64) 3 w' w.heap.size (fun k_=>some k_≠(s_.1:Value).ownBlock∧some k_≠(s_.2.1:Value).ownBlock∧some k_≠(.slice Ao37 t275.length co37:Value).ownBlock∧some k_≠(.slice Ao48 t260.length co48:Value).ownBlock) (.slice Ao29 t245.length co29) t245)∧(Kd.R (Kd.int .i64) 3 w' w.heap.size (fun k_=>some k_≠(s_.1:Value).ownBlock∧some k_≠(s_.2.1:Value).ownBlock∧some k_≠(.slice Ao29 t245.length co29:Value).ownBlock∧some k_≠(.slice Ao48 t260.length co48:Value).ownBlock) (.slice Ao37 t275.length co37) t275)∧(Kd.R (Kd.int .i64) 3 w' w.heap.size (fun k_=>some k_≠(s_.1:Value).ownBlock∧some k_≠(s_.2.1:Value).ownBlock∧some k_≠(.slice Ao29 t245.length co29:Value).ownBlock∧some k_≠(.slice Ao37 t275.length co37:Value).ownBlock) (.slice Ao48 t260.length co48) t278)∧(w'.heap[gb235]?=some (.cells #[.slice A0_0 l0_0.length c0_0,.int .i64 a0_1,.bool a0_2] 35 (0,0)))∧(w'.heap[gb236]?=some (.cells #[.int .i64 a1_0,.int .i64 a1_1] 57 (0,0)))∧(w'.heap[gb251]?=some (.cells #[.slice Ao29 t245.length co29,.int .i64 t248,.bool t249] 39 (0,0)))∧(w'.heap[gb257]?=some (.cells #[.slice Ao37 t275.length co37,.int .i64 t255,.bool t256] 39 (0,0)))∧(w'.heap[gb266]?=some (.cells #[.slice Ao48 t260.length co48,.int .i64 t263,.bool t264] 39 (0,0)))∧(w'.heap[s_.2.2]?=some (.cells #[.slice none 0 0,.int .i64 0,.bool false] 39 (0,0)))∧(w.heap.size≤s_.2.2)∧(w.heap.size≤s_.2.2)∧(gb235≠s_.2.2)∧(s_.2.2≠gb235)∧(gb236≠s_.2.2)∧(s_.2.2≠gb236)∧(gb251≠s_.2.2)∧(s_.2.2≠gb251)∧(gb257≠s_.2.2)∧(s_.2.2≠gb257)∧(gb266≠s_.2.2)∧(s_.2.2≠gb266)∧(Below w.heap.size w w')) ?_ ?_
           rotate_left
           ·intro hCont
            refine two_ (i:=1) (j:=8) (Ni:=some 81) (Nj:=some 14) #[true,true,true,false,false,false,false,false,false,false,false] #[true,false,true,false,false,false,false,false,true,false,false] rfl rfl rfl rfl (two_of HT_.out (by kernel_rfl)) (by decide) (by decide) (fun K hK => ?_) (fun K hK => ?_)
            ·skip
             refine goes_ Try.func22 (by kernel_rfl) rfl #[.agg #[.slice A0_0 l0_0.length c0_0,.int .i64 a0_1,.bool a0_2]] (by rfl) rfl rfl (by(try simp only[List.map_toArray,List.map_cons,List.map_nil]);first|done|rfl|(simp only[List.length_drop,List.length_take];rfl)) ?_
             with_reducible refine(laws_toSpray.calls kj78 _ _ l0_0 a0_1 a0_2 t280 t283 t284 _ ?side1 ?side2 A126.out).mono ?_
             (case side1=>exact bC HR0_0.out)
             (case side2=>exact HC0_0.out)
             rintro e w139 ⟨v281,rfl,ho0,hb⟩
             refine⟨_,rfl,?_⟩
             have n0_:=Aside0.mk (Kd.R_elder' (bK HO_252000.out) (Kd.R_base ho0) hb)
             have n1_:=Aside0.mk (Kd.R_elder' (bK HO_258000.out) (Kd.R_base ho0) hb)
             have n2_:=Aside0.mk (Kd.R_elder' (bK HO_267000.out) (Kd.R_base ho0) hb)
             have n3_:=Aside0.mk (Kd.R_lower (Kd.R_new' (Kd.R_new' (Kd.R_new' ho0 (Kd.R_lt (bK HO_252000.out))) (Kd.R_lt (bK HO_258000.out))) (Kd.R_lt (bK HO_267000.out))) (below_size (bS5 GE235.out GE236.out GE251.out GE257.out GE266.out)))
             have n4_:=Aside0.mk (bM BK235.out hb)
             have n5_:=Aside0.mk (bM BK236.out hb)
             have n6_:=Aside0.mk (bM BK251.out hb)
             have n7_:=Aside0.mk (bM BK257.out hb)
             have n8_:=Aside0.mk (bM BK266.out hb)
             have n9_:=Aside0.mk (below_step (bS5 GE235.out GE236.out GE251.out GE257.out GE266.out) hb)
             clear HO_252000 HO_258000 HO_267000 BK235 BK236 BK251 BK257 BK266 HB
             have HO_252000:=n0_
             have HO_258000:=n1_
             have HO_267000:=n2_
             have HO282:=n3_
             have BK235:=n4_
             have BK236:=n5_
             have BK251:=n6_
             have BK257:=n7_
             have BK266:=n8_
             have HB:=n9_
             clear n0_ n1_ n2_ n3_ n4_ n5_ n6_ n7_ n8_ n9_
             (try clear hb)
             (try clear hb2)
             (try clear hk)
             (try clear hi)
             (try clear ho0)
             refine hK.out _ _ ⟨(blk_cell BK235.out 0).trans rfl,(blk_cell BK235.out 1).trans rfl,(blk_cell BK235.out 2).trans rfl,(blk_cell BK236.out 0).trans rfl,(blk_cell BK236.out 1).trans rfl⟩ (fun hHeld => ?_)
             clear hK K
             refine norm_ (a':=?_) ?_ ?_
             rotate_left
             ·show Act.put _ (some 81) _=_
              simp only[Act.put,List.setIfInBounds_toArray,List.set_cons_zero,List.set_cons_succ,i64_w,i32_w]
              rfl
             refine two_ (i:=3) (j:=8) (Ni:=some 83) (Nj:=some 14) #[true,true,true,true,false,false,false,false,false,false,false] #[true,true,true,false,false,false,false,false,true,false,false] rfl rfl rfl rfl (two_of HT_.out (by kernel_rfl)) (by decide) (by decide) (fun K hK => ?_) (fun K hK => ?_)
             ·skip
              refine goes_ Try.func38 (by kernel_rfl) rfl #[.agg #[.int .i64 a1_0,.int .i64 a1_1]] (by rfl) rfl rfl (by(try simp only[List.map_toArray,List.map_cons,List.map_nil]);first|done|rfl|(simp only[List.length_drop,List.length_take];rfl)) ?_
              with_reducible refine(laws_toMeet.calls a1_0 a1_1 t285 t286 _ A127.out).mono ?_
              rintro e w140 ⟨rfl,hb⟩
              refine⟨_,rfl,?_⟩
              have n0_:=Aside0.mk (Kd.R_below (bK HO_252000.out) hb)
              have n1_:=Aside0.mk (Kd.R_below (bK HO_258000.out) hb)
              have n2_:=Aside0.mk (Kd.R_below (bK HO_267000.out) hb)
              have n3_:=Aside0.mk (Kd.R_below (bK HO282.out) hb)
              have n4_:=Aside0.mk (bM BK235.out hb)
              have n5_:=Aside0.mk (bM BK236.out hb)
              have n6_:=Aside0.mk (bM BK251.out hb)
              have n7_:=Aside0.mk (bM BK257.out hb)
              have n8_:=Aside0.mk (bM BK266.out hb)
              have n9_:=Aside0.mk (below_step (bS5 GE235.out GE236.out GE251.out GE257.out GE266.out) hb)
              clear HO_252000 HO_258000 HO_267000 HO282 BK235 BK236 BK251 BK257 BK266 HB
              have HO_252000:=n0_
              have HO_258000:=n1_
              have HO_267000:=n2_
              have HO282:=n3_
              have BK235:=n4_
              have BK236:=n5_
              have BK251:=n6_
              have BK257:=n7_
              have BK266:=n8_
              have HB:=n9_
              clear n0_ n1_ n2_ n3_ n4_ n5_ n6_ n7_ n8_ n9_
              (try clear hb)
              (try clear hb2)
              (try clear hk)
              (try clear hi)
              obtain⟨Ao141,co141,eo141⟩:=Kd.R_slice HO282.out
              (first|subst eo141|(injection eo141 with f1_ f2_ f3_;have f4_:=f1_.symm;have f5_:=f3_.symm;clear f1_ f2_ f3_;subst f4_;subst f5_))
              refine hK.out _ _ ⟨(blk_cell BK235.out 0).trans rfl,(blk_cell BK235.out 1).trans rfl,(blk_cell BK235.out 2).trans rfl,(blk_cell BK236.out 0).trans rfl,(blk_cell BK236.out 1).trans rfl⟩ (fun hHeld => ?_)
              clear hK K
              refine norm_ (a':=?_) ?_ ?_
              rotate_left
              ·show Act.put _ (some 83) _=_
               simp only[Act.put,List.setIfInBounds_toArray,List.set_cons_zero,List.set_cons_succ,i64_w,i32_w]
               rfl
              refine two_ (i:=4) (j:=8) (Ni:=some 84) (Nj:=some 14) #[true,true,true,true,true,false,false,false,false,false,false] #[true,true,true,true,false,false,false,false,true,false,false] rfl rfl rfl rfl (two_of HT_.out (by kernel_rfl)) (by decide) (by decide) (fun K hK => ?_) (fun K hK => ?_)
              ·skip
               refine goes_ Try.func39 (by kernel_rfl) rfl #[.agg #[.slice Ao141 t280.length co141,.int .i64 t283,.bool t284],.agg #[.int .i64 t285,.int .i64 t286]] (by rfl) rfl rfl (by(try simp only[List.map_toArray,List.map_cons,List.map_nil]);first|done|rfl|(simp only[List.length_drop,List.length_take];rfl)) ?_
               with_reducible refine(impl_MeetBoth.calls kj78 _ _ t280 t283 t284 t285 t286 t287 t290 t291 t292 _ ?side1 ?side2 A128.out).mono ?_
               (case side1=>exact bT HO282.out)
               (case side2=>exact(Kd.R_reads' HO282.out).2.1)
               rintro e w142 ⟨v288,rfl,ho0,hb⟩
               refine⟨_,rfl,?_⟩
               have n0_:=Aside0.mk (Kd.R_elder' (bK HO_252000.out) (Kd.R_base ho0) hb)
               have n1_:=Aside0.mk (Kd.R_elder' (bK HO_258000.out) (Kd.R_base ho0) hb)
               have n2_:=Aside0.mk (Kd.R_elder' (bK HO_267000.out) (Kd.R_base ho0) hb)
               have n3_:=Aside0.mk (Kd.R_elder' (bK HO282.out) (Kd.R_base ho0) hb)
               have n4_:=Aside0.mk (Kd.R_lower (Kd.R_new' (Kd.R_new' (Kd.R_new' (Kd.R_new' ho0 (Kd.R_lt (bK HO_252000.out))) (Kd.R_lt (bK HO_258000.out))) (Kd.R_lt (bK HO_267000.out))) (Kd.R_lt (bK HO282.out))) (below_size (bS5 GE235.out GE236.out GE251.out GE257.out GE266.out)))
               have n5_:=Aside0.mk (bM BK235.out hb)
               have n6_:=Aside0.mk (bM BK236.out hb)
               have n7_:=Aside0.mk (bM BK251.out hb)
               have n8_:=Aside0.mk (bM BK257.out hb)
               have n9_:=Aside0.mk (bM BK266.out hb)
               have n10_:=Aside0.mk (below_step (bS5 GE235.out GE236.out GE251.out GE257.out GE266.out) hb)
               clear HO_252000 HO_258000 HO_267000 HO282 BK235 BK236 BK251 BK257 BK266 HB
               have HO_252000:=n0_
               have HO_258000:=n1_
               have HO_267000:=n2_
               have HO282:=n3_
               have HO289:=n4_
               have BK235:=n5_
               have BK236:=n6_
               have BK251:=n7_
               have BK257:=n8_
               have BK266:=n9_
               have HB:=n10_
               clear n0_ n1_ n2_ n3_ n4_ n5_ n6_ n7_ n8_ n9_ n10_
               (try clear hb)
               (try clear hb2)
               (try clear hk)
               (try clear hi)
               (try clear ho0)
               refine hK.out _ _ ⟨(blk_cell BK235.out 0).trans rfl,(blk_cell BK235.out 1).trans rfl,(blk_cell BK235.out 2).trans rfl,(blk_cell BK236.out 0).trans rfl,(blk_cell BK236.out 1).trans rfl⟩ (fun hHeld => ?_)
               clear hK K
               refine norm_ (a':=?_) ?_ ?_
               rotate_left
               ·show Act.put _ (some 84) _=_
                simp only[Act.put,List.setIfInBounds_toArray,List.set_cons_zero,List.set_cons_succ,i64_w,i32_w]
                rfl
               refine pure_ (i:=5) (N:=some 79) (v:=?_) (a':=?_) #[true,true,true,true,true,true,false,false,false,false,false] rfl rfl (any_of HT_.out (by kernel_rfl)) (fun _ _ _ h=>h) (Or.inl ⟨by rfl,?_⟩) ?_ ?_
               rotate_left
               ·intro w'
                go_simp
                with_reducible rfl
               rotate_left
               ·simp only[Act.put,List.setIfInBounds_toArray,List.set_cons_zero,List.set_cons_succ,i64_w,i32_w]
                rfl
               refine pure_ (i:=6) (N:=some 85) (v:=?_) (a':=?_) #[true,true,true,true,true,true,true,false,false,false,false] rfl rfl (any_of HT_.out (by kernel_rfl)) (fun _ _ _ h=>h) (Or.inl ⟨by rfl,?_⟩) ?_ ?_
               rotate_left
               ·intro w'
                go_simp
                with_reducible rfl
               rotate_left
               ·simp only[Act.put,List.setIfInBounds_toArray,List.set_cons_zero,List.set_cons_succ,i64_w,i32_w]
                rfl
               refine pure_ (i:=7) (N:=some 86) (v:=?_) (a':=?_) #[true,true,true,true,true,true,true,true,false,false,false] rfl rfl (any_of HT_.out (by kernel_rfl)) (fun _ _ _ h=>h) (Or.inl ⟨by rfl,?_⟩) ?_ ?_
               rotate_left
               ·intro w'
                go_simp
                with_reducible rfl
               rotate_left
               ·simp only[Act.put,List.setIfInBounds_toArray,List.set_cons_zero,List.set_cons_succ,i64_w,i32_w]
                rfl
               refine one_ (i:=8) (N:=some 14) #[true,true,true,true,true,true,true,true,true,false,false] rfl rfl (one_of HT_.out (by kernel_rfl)) (by decide) (fun K hK => ?_)
               refine box_step ?hg (N:=14) ?hd (cs:=#[.slice none 0 0,.int .i64 0,.bool false]) (t:=39) ?hr ?_;(case hd=>rfl);(case hg=>rfl);(case hr=>first|(go_simp;done)|(go_simp;rfl))
               intro gb293 hg w143 hbox hb
               have n0_:=Aside0.mk (Kd.R_below (bK HO_252000.out) hb)
               have n1_:=Aside0.mk (Kd.R_below (bK HO_258000.out) hb)
               have n2_:=Aside0.mk (Kd.R_below (bK HO_267000.out) hb)
               have n3_:=Aside0.mk (Kd.R_below (bK HO282.out) hb)
               have n4_:=Aside0.mk (Kd.R_below (bK HO289.out) hb)
               have n5_:=Aside0.mk (bM BK235.out hb)
               have n6_:=Aside0.mk (bM BK236.out hb)
               have n7_:=Aside0.mk (bM BK251.out hb)
               have n8_:=Aside0.mk (bM BK257.out hb)
               have n9_:=Aside0.mk (bM BK266.out hb)
               have n10_:=Aside0.mk (below_step (bS5 GE235.out GE236.out GE251.out GE257.out GE266.out) hb)
               have n11_:=Aside0.mk (hbox)
               have n12_:=Aside0.mk ((by rw[hg];exact(below_size (bS5 GE235.out GE236.out GE251.out GE257.out GE266.out)):w.heap.size≤gb293))
               have n13_:=Aside0.mk ((by rw[hg];exact(below_size (bS5 GE235.out GE236.out GE251.out GE257.out GE266.out)):w.heap.size≤gb293))
               have n14_:=Aside0.mk ((bN BK235.out hg:gb235≠gb293))
               have n15_:=Aside0.mk ((bO BK235.out hg:gb293≠gb235))
               have n16_:=Aside0.mk ((bN BK236.out hg:gb236≠gb293))
               have n17_:=Aside0.mk ((bO BK236.out hg:gb293≠gb236))
               have n18_:=Aside0.mk ((bN BK251.out hg:gb251≠gb293))
               have n19_:=Aside0.mk ((bO BK251.out hg:gb293≠gb251))
               have n20_:=Aside0.mk ((bN BK257.out hg:gb257≠gb293))
               have n21_:=Aside0.mk ((bO BK257.out hg:gb293≠gb257))
               have n22_:=Aside0.mk ((bN BK266.out hg:gb266≠gb293))
               have n23_:=Aside0.mk ((bO BK266.out hg:gb293≠gb266))
               clear HO_252000 HO_258000 HO_267000 HO282 HO289 BK235 BK236 BK251 BK257 BK266 HB
               have HO_252000:=n0_
               have HO_258000:=n1_
               have HO_267000:=n2_
               have HO282:=n3_
               have HO289:=n4_
               have BK235:=n5_
               have BK236:=n6_
               have BK251:=n7_
               have BK257:=n8_
               have BK266:=n9_
               have HB:=n10_
               have BK293:=n11_
               have GW293:=n12_
               have GE293:=n13_
               have NB235_293:=n14_
               have NB293_235:=n15_
               have NB236_293:=n16_
               have NB293_236:=n17_
               have NB251_293:=n18_
               have NB293_251:=n19_
               have NB257_293:=n20_
               have NB293_257:=n21_
               have NB266_293:=n22_
               have NB293_266:=n23_
               clear n0_ n1_ n2_ n3_ n4_ n5_ n6_ n7_ n8_ n9_ n10_ n11_ n12_ n13_ n14_ n15_ n16_ n17_ n18_ n19_ n20_ n21_ n22_ n23_ hb hbox hg
               refine hK.out _ _ ⟨(blk_cell BK235.out 0).trans rfl,(blk_cell BK235.out 1).trans rfl,(blk_cell BK235.out 2).trans rfl,(blk_cell BK236.out 0).trans rfl,(blk_cell BK236.out 1).trans rfl⟩ (fun hHeld => ?_)
               clear hK K
               refine norm_ (a':=?_) ?_ ?_
               rotate_left
               ·show Act.put _ (some 14) _=_
                simp only[Act.put,List.setIfInBounds_toArray,List.set_cons_zero,List.set_cons_succ,i64_w,i32_w]
                rfl
               exact norm_ (by simp only[putAll,Act.put,List.setIfInBounds_toArray,List.set_cons_zero,List.set_cons_succ]) (hCont (.slice Ao141 t280.length co141,v288,gb293) _ ⟨hHeld,(by(with_reducible repeat (first|apply Kd.R_alloc|apply Kd.R_drewN|apply Kd.R_drew));exact Kd.R_mono HO282.out (fun _ hk=>⟨hk.2,⟨hk.1.1.1.2,⟨hk.1.1.2,hk.1.2⟩⟩⟩)),(by(with_reducible repeat (first|apply Kd.R_alloc|apply Kd.R_drewN|apply Kd.R_drew));exact Kd.R_mono HO289.out (fun _ hk=>⟨hk.2,⟨hk.1.1.1.2,⟨hk.1.1.2,hk.1.2⟩⟩⟩)),(by(with_reducible repeat (first|apply Kd.R_alloc|apply Kd.R_drewN|apply Kd.R_drew));exact Kd.R_mono HO_252000.out (fun _ hk=>⟨hk.1.2,⟨hk.2,⟨hk.1.1.1,hk.1.1.2⟩⟩⟩)),(by(with_reducible repeat (first|apply Kd.R_alloc|apply Kd.R_drewN|apply Kd.R_drew));exact Kd.R_mono HO_258000.out (fun _ hk=>⟨hk.1.2,⟨hk.2,⟨hk.1.1.1,hk.1.1.2⟩⟩⟩)),(by(with_reducible repeat (first|apply Kd.R_alloc|apply Kd.R_drewN|apply Kd.R_drew));exact Kd.R_mono HO_267000.out (fun _ hk=>⟨hk.1.2,⟨hk.2,⟨hk.1.1.1,hk.1.1.2⟩⟩⟩)),(bL BK235.out),(bL BK236.out),(bL BK251.out),(bL BK257.out),(bL BK266.out),(bL BK293.out),GW293.out,GE293.out,NB235_293.out,NB293_235.out,NB236_293.out,NB293_236.out,NB251_293.out,NB293_251.out,NB257_293.out,NB293_257.out,NB266_293.out,NB293_266.out,(bS6 GE235.out GE236.out GE251.out GE257.out GE266.out GE293.out)⟩)
              ·skip
               refine box_step ?hg (N:=14) ?hd (cs:=#[.slice none 0 0,.int .i64 0,.bool false]) (t:=39) ?hr ?_;(case hd=>rfl);(case hg=>rfl);(case hr=>first|(go_simp;done)|(go_simp;rfl))
               intro gb293 hg w141 hbox hb
               have n0_:=Aside0.mk (Kd.R_below (bK HO_252000.out) hb)
               have n1_:=Aside0.mk (Kd.R_below (bK HO_258000.out) hb)
               have n2_:=Aside0.mk (Kd.R_below (bK HO_267000.out) hb)
               have n3_:=Aside0.mk (Kd.R_below (bK HO282.out) hb)
               have n4_:=Aside0.mk (bM BK235.out hb)
               have n5_:=Aside0.mk (bM BK236.out hb)
               have n6_:=Aside0.mk (bM BK251.out hb)
               have n7_:=Aside0.mk (bM BK257.out hb)
               have n8_:=Aside0.mk (bM BK266.out hb)
               have n9_:=Aside0.mk (below_step (bS5 GE235.out GE236.out GE251.out GE257.out GE266.out) hb)
               have n10_:=Aside0.mk (hbox)
               have n11_:=Aside0.mk ((by rw[hg];exact(below_size (bS5 GE235.out GE236.out GE251.out GE257.out GE266.out)):w.heap.size≤gb293))
               have n12_:=Aside0.mk ((by rw[hg];exact(below_size (bS5 GE235.out GE236.out GE251.out GE257.out GE266.out)):w.heap.size≤gb293))
               have n13_:=Aside0.mk ((bN BK235.out hg:gb235≠gb293))
               have n14_:=Aside0.mk ((bO BK235.out hg:gb293≠gb235))
               have n15_:=Aside0.mk ((bN BK236.out hg:gb236≠gb293))
               have n16_:=Aside0.mk ((bO BK236.out hg:gb293≠gb236))
               have n17_:=Aside0.mk ((bN BK251.out hg:gb251≠gb293))
               have n18_:=Aside0.mk ((bO BK251.out hg:gb293≠gb251))
               have n19_:=Aside0.mk ((bN BK257.out hg:gb257≠gb293))
               have n20_:=Aside0.mk ((bO BK257.out hg:gb293≠gb257))
               have n21_:=Aside0.mk ((bN BK266.out hg:gb266≠gb293))
               have n22_:=Aside0.mk ((bO BK266.out hg:gb293≠gb266))
               clear HO_252000 HO_258000 HO_267000 HO282 BK235 BK236 BK251 BK257 BK266 HB
               have HO_252000:=n0_
               have HO_258000:=n1_
               have HO_267000:=n2_
               have HO282:=n3_
               have BK235:=n4_
               have BK236:=n5_
               have BK251:=n6_
               have BK257:=n7_
               have BK266:=n8_
               have HB:=n9_
               have BK293:=n10_
               have GW293:=n11_
               have GE293:=n12_
               have NB235_293:=n13_
               have NB293_235:=n14_
               have NB236_293:=n15_
               have NB293_236:=n16_
               have NB251_293:=n17_
               have NB293_251:=n18_
               have NB257_293:=n19_
               have NB293_257:=n20_
               have NB266_293:=n21_
               have NB293_266:=n22_
               clear n0_ n1_ n2_ n3_ n4_ n5_ n6_ n7_ n8_ n9_ n10_ n11_ n12_ n13_ n14_ n15_ n16_ n17_ n18_ n19_ n20_ n21_ n22_ hb hbox hg
               obtain⟨Ao142,co142,eo142⟩:=Kd.R_slice HO282.out
               (first|subst eo142|(injection eo142 with f1_ f2_ f3_;have f4_:=f1_.symm;have f5_:=f3_.symm;clear f1_ f2_ f3_;subst f4_;subst f5_))
               refine hK.out _ _ ⟨(blk_cell BK235.out 0).trans rfl,(blk_cell BK235.out 1).trans rfl,(blk_cell BK235.out 2).trans rfl,(blk_cell BK236.out 0).trans rfl,(blk_cell BK236.out 1).trans rfl⟩ (fun hHeld => ?_)
               clear hK K
               refine norm_ (a':=?_) ?_ ?_
               rotate_left
               ·show Act.put _ (some 14) _=_
                simp only[Act.put,List.setIfInBounds_toArray,List.set_cons_zero,List.set_cons_succ,i64_w,i32_w]
                rfl
               refine one_ (i:=4) (N:=some 84) #[true,true,true,true,true,false,false,false,true,false,false] rfl rfl (one_of HT_.out (by kernel_rfl)) (by decide) (fun K hK => ?_)
               refine goes_ Try.func39 (by kernel_rfl) rfl #[.agg #[.slice Ao142 t280.length co142,.int .i64 t283,.bool t284],.agg #[.int .i64 t285,.int .i64 t286]] (by rfl) rfl rfl (by(try simp only[List.map_toArray,List.map_cons,List.map_nil]);first|done|rfl|(simp only[List.length_drop,List.length_take];rfl)) ?_
               with_reducible refine(impl_MeetBoth.calls kj78 _ _ t280 t283 t284 t285 t286 t287 t290 t291 t292 _ ?side1 ?side2 A128.out).mono ?_
               (case side1=>exact bT HO282.out)
               (case side2=>exact(Kd.R_reads' HO282.out).2.1)
               rintro e w143 ⟨v288,rfl,ho0,hb⟩
               refine⟨_,rfl,?_⟩
               have n0_:=Aside0.mk (Kd.R_elder' (bK HO_252000.out) (Kd.R_base ho0) hb)
               have n1_:=Aside0.mk (Kd.R_elder' (bK HO_258000.out) (Kd.R_base ho0) hb)
               have n2_:=Aside0.mk (Kd.R_elder' (bK HO_267000.out) (Kd.R_base ho0) hb)
               have n3_:=Aside0.mk (Kd.R_elder' (bK HO282.out) (Kd.R_base ho0) hb)
               have n4_:=Aside0.mk (Kd.R_lower (Kd.R_new' (Kd.R_new' (Kd.R_new' (Kd.R_new' ho0 (Kd.R_lt (bK HO_252000.out))) (Kd.R_lt (bK HO_258000.out))) (Kd.R_lt (bK HO_267000.out))) (Kd.R_lt (bK HO282.out))) (below_size (bS6 GE235.out GE236.out GE251.out GE257.out GE266.out GE293.out)))
               have n5_:=Aside0.mk (bM BK235.out hb)
               have n6_:=Aside0.mk (bM BK236.out hb)
               have n7_:=Aside0.mk (bM BK251.out hb)
               have n8_:=Aside0.mk (bM BK257.out hb)
               have n9_:=Aside0.mk (bM BK266.out hb)
               have n10_:=Aside0.mk (bM BK293.out hb)
               have n11_:=Aside0.mk (below_step (bS6 GE235.out GE236.out GE251.out GE257.out GE266.out GE293.out) hb)
               clear HO_252000 HO_258000 HO_267000 HO282 BK235 BK236 BK251 BK257 BK266 BK293 HB
               have HO_252000:=n0_
               have HO_258000:=n1_
               have HO_267000:=n2_
               have HO282:=n3_
               have HO289:=n4_
               have BK235:=n5_
               have BK236:=n6_
               have BK251:=n7_
               have BK257:=n8_
               have BK266:=n9_
               have BK293:=n10_
               have HB:=n11_
               clear n0_ n1_ n2_ n3_ n4_ n5_ n6_ n7_ n8_ n9_ n10_ n11_
               (try clear hb)
               (try clear hb2)
               (try clear hk)
               (try clear hi)
               (try clear ho0)
               refine hK.out _ _ ⟨(blk_cell BK235.out 0).trans rfl,(blk_cell BK235.out 1).trans rfl,(blk_cell BK235.out 2).trans rfl,(blk_cell BK236.out 0).trans rfl,(blk_cell BK236.out 1).trans rfl⟩ (fun hHeld => ?_)
               clear hK K
               refine norm_ (a':=?_) ?_ ?_
               rotate_left
               ·show Act.put _ (some 84) _=_
                simp only[Act.put,List.setIfInBounds_toArray,List.set_cons_zero,List.set_cons_succ,i64_w,i32_w]
                rfl
               refine pure_ (i:=5) (N:=some 79) (v:=?_) (a':=?_) #[true,true,true,true,true,true,false,false,true,false,false] rfl rfl (any_of HT_.out (by kernel_rfl)) (fun _ _ _ h=>h) (Or.inl ⟨by rfl,?_⟩) ?_ ?_
               rotate_left
               ·intro w'
                go_simp
                with_reducible rfl
               rotate_left
               ·simp only[Act.put,List.setIfInBounds_toArray,List.set_cons_zero,List.set_cons_succ,i64_w,i32_w]
                rfl
               refine pure_ (i:=6) (N:=some 85) (v:=?_) (a':=?_) #[true,true,true,true,true,true,true,false,true,false,false] rfl rfl (any_of HT_.out (by kernel_rfl)) (fun _ _ _ h=>h) (Or.inl ⟨by rfl,?_⟩) ?_ ?_
               rotate_left
               ·intro w'
                go_simp
                with_reducible rfl
               rotate_left
               ·simp only[Act.put,List.setIfInBounds_toArray,List.set_cons_zero,List.set_cons_succ,i64_w,i32_w]
                rfl
               refine pure_ (i:=7) (N:=some 86) (v:=?_) (a':=?_) #[true,true,true,true,true,true,true,true,true,false,false] rfl rfl (any_of HT_.out (by kernel_rfl)) (fun _ _ _ h=>h) (Or.inl ⟨by rfl,?_⟩) ?_ ?_
               rotate_left
               ·intro w'
                go_simp
                with_reducible rfl
               rotate_left
               ·simp only[Act.put,List.setIfInBounds_toArray,List.set_cons_zero,List.set_cons_succ,i64_w,i32_w]
                rfl
               exact norm_ (by simp only[putAll,Act.put,List.setIfInBounds_toArray,List.set_cons_zero,List.set_cons_succ]) (hCont (.slice Ao142 t280.length co142,v288,gb293) _ ⟨hHeld,(by(with_reducible repeat (first|apply Kd.R_alloc|apply Kd.R_drewN|apply Kd.R_drew));exact Kd.R_mono HO282.out (fun _ hk=>⟨hk.2,⟨hk.1.1.1.2,⟨hk.1.1.2,hk.1.2⟩⟩⟩)),(by(with_reducible repeat (first|apply Kd.R_alloc|apply Kd.R_drewN|apply Kd.R_drew));exact Kd.R_mono HO289.out (fun _ hk=>⟨hk.2,⟨hk.1.1.1.2,⟨hk.1.1.2,hk.1.2⟩⟩⟩)),(by(with_reducible repeat (first|apply Kd.R_alloc|apply Kd.R_drewN|apply Kd.R_drew));exact Kd.R_mono HO_252000.out (fun _ hk=>⟨hk.1.2,⟨hk.2,⟨hk.1.1.1,hk.1.1.2⟩⟩⟩)),(by(with_reducible repeat (first|apply Kd.R_alloc|apply Kd.R_drewN|apply Kd.R_drew));exact Kd.R_mono HO_258000.out (fun _ hk=>⟨hk.1.2,⟨hk.2,⟨hk.1.1.1,hk.1.1.2⟩⟩⟩)),(by(with_reducible repeat (first|apply Kd.R_alloc|apply Kd.R_drewN|apply Kd.R_drew));exact Kd.R_mono HO_267000.out (fun _ hk=>⟨hk.1.2,⟨hk.2,⟨hk.1.1.1,hk.1.1.2⟩⟩⟩)),(bL BK235.out),(bL BK236.out),(bL BK251.out),(bL BK257.out),(bL BK266.out),(bL BK293.out),GW293.out,GE293.out,NB235_293.out,NB293_235.out,NB236_293.out,NB293_236.out,NB251_293.out,NB293_251.out,NB257_293.out,NB293_257.out,NB266_293.out,NB293_266.out,(bS6 GE235.out GE236.out GE251.out GE257.out GE266.out GE293.out)⟩)
             ·skip
              refine box_step ?hg (N:=14) ?hd (cs:=#[.slice none 0 0,.int .i64 0,.bool false]) (t:=39) ?hr ?_;(case hd=>rfl);(case hg=>rfl);(case hr=>first|(go_simp;done)|(go_simp;rfl))
              intro gb293 hg w140 hbox hb
              have n0_:=Aside0.mk (Kd.R_below (bK HO_252000.out) hb)
              have n1_:=Aside0.mk (Kd.R_below (bK HO_258000.out) hb)
              have n2_:=Aside0.mk (Kd.R_below (bK HO_267000.out) hb)
              have n3_:=Aside0.mk (Kd.R_below (bK HO282.out) hb)
              have n4_:=Aside0.mk (bM BK235.out hb)
              have n5_:=Aside0.mk (bM BK236.out hb)
              have n6_:=Aside0.mk (bM BK251.out hb)
              have n7_:=Aside0.mk (bM BK257.out hb)
              have n8_:=Aside0.mk (bM BK266.out hb)
              have n9_:=Aside0.mk (below_step (bS5 GE235.out GE236.out GE251.out GE257.out GE266.out) hb)
              have n10_:=Aside0.mk (hbox)
              have n11_:=Aside0.mk ((by rw[hg];exact(below_size (bS5 GE235.out GE236.out GE251.out GE257.out GE266.out)):w.heap.size≤gb293))
              have n12_:=Aside0.mk ((by rw[hg];exact(below_size (bS5 GE235.out GE236.out GE251.out GE257.out GE266.out)):w.heap.size≤gb293))
              have n13_:=Aside0.mk ((bN BK235.out hg:gb235≠gb293))
              have n14_:=Aside0.mk ((bO BK235.out hg:gb293≠gb235))
              have n15_:=Aside0.mk ((bN BK236.out hg:gb236≠gb293))
              have n16_:=Aside0.mk ((bO BK236.out hg:gb293≠gb236))
              have n17_:=Aside0.mk ((bN BK251.out hg:gb251≠gb293))
              have n18_:=Aside0.mk ((bO BK251.out hg:gb293≠gb251))
              have n19_:=Aside0.mk ((bN BK257.out hg:gb257≠gb293))
              have n20_:=Aside0.mk ((bO BK257.out hg:gb293≠gb257))
              have n21_:=Aside0.mk ((bN BK266.out hg:gb266≠gb293))
              have n22_:=Aside0.mk ((bO BK266.out hg:gb293≠gb266))
              clear HO_252000 HO_258000 HO_267000 HO282 BK235 BK236 BK251 BK257 BK266 HB
              have HO_252000:=n0_
              have HO_258000:=n1_
              have HO_267000:=n2_
              have HO282:=n3_
              have BK235:=n4_
              have BK236:=n5_
              have BK251:=n6_
              have BK257:=n7_
              have BK266:=n8_
              have HB:=n9_
              have BK293:=n10_
              have GW293:=n11_
              have GE293:=n12_
              have NB235_293:=n13_
              have NB293_235:=n14_
              have NB236_293:=n15_
              have NB293_236:=n16_
              have NB251_293:=n17_
              have NB293_251:=n18_
              have NB257_293:=n19_
              have NB293_257:=n20_
              have NB266_293:=n21_
              have NB293_266:=n22_
              clear n0_ n1_ n2_ n3_ n4_ n5_ n6_ n7_ n8_ n9_ n10_ n11_ n12_ n13_ n14_ n15_ n16_ n17_ n18_ n19_ n20_ n21_ n22_ hb hbox hg
              refine hK.out _ _ ⟨(blk_cell BK235.out 0).trans rfl,(blk_cell BK235.out 1).trans rfl,(blk_cell BK235.out 2).trans rfl,(blk_cell BK236.out 0).trans rfl,(blk_cell BK236.out 1).trans rfl⟩ (fun hHeld => ?_)
              clear hK K
              refine norm_ (a':=?_) ?_ ?_
              rotate_left
              ·show Act.put _ (some 14) _=_
               simp only[Act.put,List.setIfInBounds_toArray,List.set_cons_zero,List.set_cons_succ,i64_w,i32_w]
               rfl
              refine one_ (i:=3) (N:=some 83) #[true,true,true,true,false,false,false,false,true,false,false] rfl rfl (one_of HT_.out (by kernel_rfl)) (by decide) (fun K hK => ?_)
              refine goes_ Try.func38 (by kernel_rfl) rfl #[.agg #[.int .i64 a1_0,.int .i64 a1_1]] (by rfl) rfl rfl (by(try simp only[List.map_toArray,List.map_cons,List.map_nil]);first|done|rfl|(simp only[List.length_drop,List.length_take];rfl)) ?_
              with_reducible refine(laws_toMeet.calls a1_0 a1_1 t285 t286 _ A127.out).mono ?_
              rintro e w141 ⟨rfl,hb⟩
              refine⟨_,rfl,?_⟩
              have n0_:=Aside0.mk (Kd.R_below (bK HO_252000.out) hb)
              have n1_:=Aside0.mk (Kd.R_below (bK HO_258000.out) hb)
              have n2_:=Aside0.mk (Kd.R_below (bK HO_267000.out) hb)
              have n3_:=Aside0.mk (Kd.R_below (bK HO282.out) hb)
              have n4_:=Aside0.mk (bM BK235.out hb)
              have n5_:=Aside0.mk (bM BK236.out hb)
              have n6_:=Aside0.mk (bM BK251.out hb)
              have n7_:=Aside0.mk (bM BK257.out hb)
              have n8_:=Aside0.mk (bM BK266.out hb)
              have n9_:=Aside0.mk (bM BK293.out hb)
              have n10_:=Aside0.mk (below_step (bS6 GE235.out GE236.out GE251.out GE257.out GE266.out GE293.out) hb)
              clear HO_252000 HO_258000 HO_267000 HO282 BK235 BK236 BK251 BK257 BK266 BK293 HB
              have HO_252000:=n0_
              have HO_258000:=n1_
              have HO_267000:=n2_
              have HO282:=n3_
              have BK235:=n4_
              have BK236:=n5_
              have BK251:=n6_
              have BK257:=n7_
              have BK266:=n8_
              have BK293:=n9_
              have HB:=n10_
              clear n0_ n1_ n2_ n3_ n4_ n5_ n6_ n7_ n8_ n9_ n10_
              (try clear hb)
              (try clear hb2)
              (try clear hk)
              (try clear hi)
              obtain⟨Ao142,co142,eo142⟩:=Kd.R_slice HO282.out
              (first|subst eo142|(injection eo142 with f1_ f2_ f3_;have f4_:=f1_.symm;have f5_:=f3_.symm;clear f1_ f2_ f3_;subst f4_;subst f5_))
              refine hK.out _ _ ⟨(blk_cell BK235.out 0).trans rfl,(blk_cell BK235.out 1).trans rfl,(blk_cell BK235.out 2).trans rfl,(blk_cell BK236.out 0).trans rfl,(blk_cell BK236.out 1).trans rfl⟩ (fun hHeld => ?_)
              clear hK K
              refine norm_ (a':=?_) ?_ ?_
              rotate_left
              ·show Act.put _ (some 83) _=_
               simp only[Act.put,List.setIfInBounds_toArray,List.set_cons_zero,List.set_cons_succ,i64_w,i32_w]
               rfl
              refine one_ (i:=4) (N:=some 84) #[true,true,true,true,true,false,false,false,true,false,false] rfl rfl (one_of HT_.out (by kernel_rfl)) (by decide) (fun K hK => ?_)
              refine goes_ Try.func39 (by kernel_rfl) rfl #[.agg #[.slice Ao142 t280.length co142,.int .i64 t283,.bool t284],.agg #[.int .i64 t285,.int .i64 t286]] (by rfl) rfl rfl (by(try simp only[List.map_toArray,List.map_cons,List.map_nil]);first|done|rfl|(simp only[List.length_drop,List.length_take];rfl)) ?_
              with_reducible refine(impl_MeetBoth.calls kj78 _ _ t280 t283 t284 t285 t286 t287 t290 t291 t292 _ ?side1 ?side2 A128.out).mono ?_
              (case side1=>exact bT HO282.out)
              (case side2=>exact(Kd.R_reads' HO282.out).2.1)
              rintro e w143 ⟨v288,rfl,ho0,hb⟩
              refine⟨_,rfl,?_⟩
              have n0_:=Aside0.mk (Kd.R_elder' (bK HO_252000.out) (Kd.R_base ho0) hb)
              have n1_:=Aside0.mk (Kd.R_elder' (bK HO_258000.out) (Kd.R_base ho0) hb)
              have n2_:=Aside0.mk (Kd.R_elder' (bK HO_267000.out) (Kd.R_base ho0) hb)
              have n3_:=Aside0.mk (Kd.R_elder' (bK HO282.out) (Kd.R_base ho0) hb)
              have n4_:=Aside0.mk (Kd.R_lower (Kd.R_new' (Kd.R_new' (Kd.R_new' (Kd.R_new' ho0 (Kd.R_lt (bK HO_252000.out))) (Kd.R_lt (bK HO_258000.out))) (Kd.R_lt (bK HO_267000.out))) (Kd.R_lt (bK HO282.out))) (below_size (bS6 GE235.out GE236.out GE251.out GE257.out GE266.out GE293.out)))
              have n5_:=Aside0.mk (bM BK235.out hb)
              have n6_:=Aside0.mk (bM BK236.out hb)
              have n7_:=Aside0.mk (bM BK251.out hb)
              have n8_:=Aside0.mk (bM BK257.out hb)
              have n9_:=Aside0.mk (bM BK266.out hb)
              have n10_:=Aside0.mk (bM BK293.out hb)
              have n11_:=Aside0.mk (below_step (bS6 GE235.out GE236.out GE251.out GE257.out GE266.out GE293.out) hb)
              clear HO_252000 HO_258000 HO_267000 HO282 BK235 BK236 BK251 BK257 BK266 BK293 HB
              have HO_252000:=n0_
              have HO_258000:=n1_
              have HO_267000:=n2_
              have HO282:=n3_
              have HO289:=n4_
              have BK235:=n5_
              have BK236:=n6_
              have BK251:=n7_
              have BK257:=n8_
              have BK266:=n9_
              have BK293:=n10_
              have HB:=n11_
              clear n0_ n1_ n2_ n3_ n4_ n5_ n6_ n7_ n8_ n9_ n10_ n11_
              (try clear hb)
              (try clear hb2)
              (try clear hk)
              (try clear hi)
              (try clear ho0)
              refine hK.out _ _ ⟨(blk_cell BK235.out 0).trans rfl,(blk_cell BK235.out 1).trans rfl,(blk_cell BK235.out 2).trans rfl,(blk_cell BK236.out 0).trans rfl,(blk_cell BK236.out 1).trans rfl⟩ (fun hHeld => ?_)
              clear hK K
              refine norm_ (a':=?_) ?_ ?_
              rotate_left
              ·show Act.put _ (some 84) _=_
               simp only[Act.put,List.setIfInBounds_toArray,List.set_cons_zero,List.set_cons_succ,i64_w,i32_w]
               rfl
              refine pure_ (i:=5) (N:=some 79) (v:=?_) (a':=?_) #[true,true,true,true,true,true,false,false,true,false,false] rfl rfl (any_of HT_.out (by kernel_rfl)) (fun _ _ _ h=>h) (Or.inl ⟨by rfl,?_⟩) ?_ ?_
              rotate_left
              ·intro w'
               go_simp
               with_reducible rfl
              rotate_left
              ·simp only[Act.put,List.setIfInBounds_toArray,List.set_cons_zero,List.set_cons_succ,i64_w,i32_w]
               rfl
              refine pure_ (i:=6) (N:=some 85) (v:=?_) (a':=?_) #[true,true,true,true,true,true,true,false,true,false,false] rfl rfl (any_of HT_.out (by kernel_rfl)) (fun _ _ _ h=>h) (Or.inl ⟨by rfl,?_⟩) ?_ ?_
              rotate_left
              ·intro w'
               go_simp
               with_reducible rfl
              rotate_left
              ·simp only[Act.put,List.setIfInBounds_toArray,List.set_cons_zero,List.set_cons_succ,i64_w,i32_w]
               rfl
              refine pure_ (i:=7) (N:=some 86) (v:=?_) (a':=?_) #[true,true,true,true,true,true,true,true,true,false,false] rfl rfl (any_of HT_.out (by kernel_rfl)) (fun _ _ _ h=>h) (Or.inl ⟨by rfl,?_⟩) ?_ ?_
              rotate_left
              ·intro w'
               go_simp
               with_reducible rfl
              rotate_left
              ·simp only[Act.put,List.setIfInBounds_toArray,List.set_cons_zero,List.set_cons_succ,i64_w,i32_w]
               rfl
              exact norm_ (by simp only[putAll,Act.put,List.setIfInBounds_toArray,List.set_cons_zero,List.set_cons_succ]) (hCont (.slice Ao142 t280.length co142,v288,gb293) _ ⟨hHeld,(by(with_reducible repeat (first|apply Kd.R_alloc|apply Kd.R_drewN|apply Kd.R_drew));exact Kd.R_mono HO282.out (fun _ hk=>⟨hk.2,⟨hk.1.1.1.2,⟨hk.1.1.2,hk.1.2⟩⟩⟩)),(by(with_reducible repeat (first|apply Kd.R_alloc|apply Kd.R_drewN|apply Kd.R_drew));exact Kd.R_mono HO289.out (fun _ hk=>⟨hk.2,⟨hk.1.1.1.2,⟨hk.1.1.2,hk.1.2⟩⟩⟩)),(by(with_reducible repeat (first|apply Kd.R_alloc|apply Kd.R_drewN|apply Kd.R_drew));exact Kd.R_mono HO_252000.out (fun _ hk=>⟨hk.1.2,⟨hk.2,⟨hk.1.1.1,hk.1.1.2⟩⟩⟩)),(by(with_reducible repeat (first|apply Kd.R_alloc|apply Kd.R_drewN|apply Kd.R_drew));exact Kd.R_mono HO_258000.out (fun _ hk=>⟨hk.1.2,⟨hk.2,⟨hk.1.1.1,hk.1.1.2⟩⟩⟩)),(by(with_reducible repeat (first|apply Kd.R_alloc|apply Kd.R_drewN|apply Kd.R_drew));exact Kd.R_mono HO_267000.out (fun _ hk=>⟨hk.1.2,⟨hk.2,⟨hk.1.1.1,hk.1.1.2⟩⟩⟩)),(bL BK235.out),(bL BK236.out),(bL BK251.out),(bL BK257.out),(bL BK266.out),(bL BK293.out),GW293.out,GE293.out,NB235_293.out,NB293_235.out,NB236_293.out,NB293_236.out,NB251_293.out,NB293_251.out,NB257_293.out,NB293_257.out,NB266_293.out,NB293_266.out,(bS6 GE235.out GE236.out GE251.out GE257.out GE266.out GE293.out)⟩)
            ·skip
             refine box_step ?hg (N:=14) ?hd (cs:=#[.slice none 0 0,.int .i64 0,.bool false]) (t:=39) ?hr ?_;(case hd=>rfl);(case hg=>rfl);(case hr=>first|(go_simp;done)|(go_simp;rfl))
             intro gb293 hg w139 hbox hb
             have n0_:=Aside0.mk (Kd.R_below (bK HO_252000.out) hb)
             have n1_:=Aside0.mk (Kd.R_below (bK HO_258000.out) hb)
             have n2_:=Aside0.mk (Kd.R_below (bK HO_267000.out) hb)
             have n3_:=Aside0.mk (bM BK235.out hb)
             have n4_:=Aside0.mk (bM BK236.out hb)
             have n5_:=Aside0.mk (bM BK251.out hb)
             have n6_:=Aside0.mk (bM BK257.out hb)
             have n7_:=Aside0.mk (bM BK266.out hb)
             have n8_:=Aside0.mk (below_step (bS5 GE235.out GE236.out GE251.out GE257.out GE266.out) hb)
             have n9_:=Aside0.mk (hbox)
             have n10_:=Aside0.mk ((by rw[hg];exact(below_size (bS5 GE235.out GE236.out GE251.out GE257.out GE266.out)):w.heap.size≤gb293))
             have n11_:=Aside0.mk ((by rw[hg];exact(below_size (bS5 GE235.out GE236.out GE251.out GE257.out GE266.out)):w.heap.size≤gb293))
             have n12_:=Aside0.mk ((bN BK235.out hg:gb235≠gb293))
             have n13_:=Aside0.mk ((bO BK235.out hg:gb293≠gb235))
             have n14_:=Aside0.mk ((bN BK236.out hg:gb236≠gb293))
             have n15_:=Aside0.mk ((bO BK236.out hg:gb293≠gb236))
             have n16_:=Aside0.mk ((bN BK251.out hg:gb251≠gb293))
             have n17_:=Aside0.mk ((bO BK251.out hg:gb293≠gb251))
             have n18_:=Aside0.mk ((bN BK257.out hg:gb257≠gb293))
             have n19_:=Aside0.mk ((bO BK257.out hg:gb293≠gb257))
             have n20_:=Aside0.mk ((bN BK266.out hg:gb266≠gb293))
             have n21_:=Aside0.mk ((bO BK266.out hg:gb293≠gb266))
             clear HO_252000 HO_258000 HO_267000 BK235 BK236 BK251 BK257 BK266 HB
             have HO_252000:=n0_
             have HO_258000:=n1_
             have HO_267000:=n2_
             have BK235:=n3_
             have BK236:=n4_
             have BK251:=n5_
             have BK257:=n6_
             have BK266:=n7_
             have HB:=n8_
             have BK293:=n9_
             have GW293:=n10_
             have GE293:=n11_
             have NB235_293:=n12_
             have NB293_235:=n13_
             have NB236_293:=n14_
             have NB293_236:=n15_
             have NB251_293:=n16_
             have NB293_251:=n17_
             have NB257_293:=n18_
             have NB293_257:=n19_
             have NB266_293:=n20_
             have NB293_266:=n21_
             clear n0_ n1_ n2_ n3_ n4_ n5_ n6_ n7_ n8_ n9_ n10_ n11_ n12_ n13_ n14_ n15_ n16_ n17_ n18_ n19_ n20_ n21_ hb hbox hg
             refine hK.out _ _ ⟨(blk_cell BK235.out 0).trans rfl,(blk_cell BK235.out 1).trans rfl,(blk_cell BK235.out 2).trans rfl,(blk_cell BK236.out 0).trans rfl,(blk_cell BK236.out 1).trans rfl⟩ (fun hHeld => ?_)
             clear hK K
             refine norm_ (a':=?_) ?_ ?_
             rotate_left
             ·show Act.put _ (some 14) _=_
              simp only[Act.put,List.setIfInBounds_toArray,List.set_cons_zero,List.set_cons_succ,i64_w,i32_w]
              rfl
             refine one_ (i:=1) (N:=some 81) #[true,true,true,false,false,false,false,false,true,false,false] rfl rfl (one_of HT_.out (by kernel_rfl)) (by decide) (fun K hK => ?_)
             refine goes_ Try.func22 (by kernel_rfl) rfl #[.agg #[.slice A0_0 l0_0.length c0_0,.int .i64 a0_1,.bool a0_2]] (by rfl) rfl rfl (by(try simp only[List.map_toArray,List.map_cons,List.map_nil]);first|done|rfl|(simp only[List.length_drop,List.length_take];rfl)) ?_
             with_reducible refine(laws_toSpray.calls kj78 _ _ l0_0 a0_1 a0_2 t280 t283 t284 _ ?side1 ?side2 A126.out).mono ?_
             (case side1=>exact bC HR0_0.out)
             (case side2=>exact HC0_0.out)
             rintro e w140 ⟨v281,rfl,ho0,hb⟩
             refine⟨_,rfl,?_⟩
             have n0_:=Aside0.mk (Kd.R_elder' (bK HO_252000.out) (Kd.R_base ho0) hb)
             have n1_:=Aside0.mk (Kd.R_elder' (bK HO_258000.out) (Kd.R_base ho0) hb)
             have n2_:=Aside0.mk (Kd.R_elder' (bK HO_267000.out) (Kd.R_base ho0) hb)
             have n3_:=Aside0.mk (Kd.R_lower (Kd.R_new' (Kd.R_new' (Kd.R_new' ho0 (Kd.R_lt (bK HO_252000.out))) (Kd.R_lt (bK HO_258000.out))) (Kd.R_lt (bK HO_267000.out))) (below_size (bS6 GE235.out GE236.out GE251.out GE257.out GE266.out GE293.out)))
             have n4_:=Aside0.mk (bM BK235.out hb)
             have n5_:=Aside0.mk (bM BK236.out hb)
             have n6_:=Aside0.mk (bM BK251.out hb)
             have n7_:=Aside0.mk (bM BK257.out hb)
             have n8_:=Aside0.mk (bM BK266.out hb)
             have n9_:=Aside0.mk (bM BK293.out hb)
             have n10_:=Aside0.mk (below_step (bS6 GE235.out GE236.out GE251.out GE257.out GE266.out GE293.out) hb)
             clear HO_252000 HO_258000 HO_267000 BK235 BK236 BK251 BK257 BK266 BK293 HB
             have HO_252000:=n0_
             have HO_258000:=n1_
             have HO_267000:=n2_
             have HO282:=n3_
             have BK235:=n4_
             have BK236:=n5_
             have BK251:=n6_
             have BK257:=n7_
             have BK266:=n8_
             have BK293:=n9_
             have HB:=n10_
             clear n0_ n1_ n2_ n3_ n4_ n5_ n6_ n7_ n8_ n9_ n10_
             (try clear hb)
             (try clear hb2)
             (try clear hk)
             (try clear hi)
             (try clear ho0)
             refine hK.out _ _ ⟨(blk_cell BK235.out 0).trans rfl,(blk_cell BK235.out 1).trans rfl,(blk_cell BK235.out 2).trans rfl,(blk_cell BK236.out 0).trans rfl,(blk_cell BK236.out 1).trans rfl⟩ (fun hHeld => ?_)
             clear hK K
             refine norm_ (a':=?_) ?_ ?_
             rotate_left
             ·show Act.put _ (some 81) _=_
              simp only[Act.put,List.setIfInBounds_toArray,List.set_cons_zero,List.set_cons_succ,i64_w,i32_w]
              rfl
             refine one_ (i:=3) (N:=some 83) #[true,true,true,true,false,false,false,false,true,false,false] rfl rfl (one_of HT_.out (by kernel_rfl)) (by decide) (fun K hK => ?_)
             refine goes_ Try.func38 (by kernel_rfl) rfl #[.agg #[.int .i64 a1_0,.int .i64 a1_1]] (by rfl) rfl rfl (by(try simp only[List.map_toArray,List.map_cons,List.map_nil]);first|done|rfl|(simp only[List.length_drop,List.length_take];rfl)) ?_
             with_reducible refine(laws_toMeet.calls a1_0 a1_1 t285 t286 _ A127.out).mono ?_
             rintro e w141 ⟨rfl,hb⟩
             refine⟨_,rfl,?_⟩
             have n0_:=Aside0.mk (Kd.R_below (bK HO_252000.out) hb)
             have n1_:=Aside0.mk (Kd.R_below (bK HO_258000.out) hb)
             have n2_:=Aside0.mk (Kd.R_below (bK HO_267000.out) hb)
             have n3_:=Aside0.mk (Kd.R_below (bK HO282.out) hb)
             have n4_:=Aside0.mk (bM BK235.out hb)
             have n5_:=Aside0.mk (bM BK236.out hb)
             have n6_:=Aside0.mk (bM BK251.out hb)
             have n7_:=Aside0.mk (bM BK257.out hb)
             have n8_:=Aside0.mk (bM BK266.out hb)
             have n9_:=Aside0.mk (bM BK293.out hb)
             have n10_:=Aside0.mk (below_step (bS6 GE235.out GE236.out GE251.out GE257.out GE266.out GE293.out) hb)
             clear HO_252000 HO_258000 HO_267000 HO282 BK235 BK236 BK251 BK257 BK266 BK293 HB
             have HO_252000:=n0_
             have HO_258000:=n1_
             have HO_267000:=n2_
             have HO282:=n3_
             have BK235:=n4_
             have BK236:=n5_
             have BK251:=n6_
             have BK257:=n7_
             have BK266:=n8_
             have BK293:=n9_
             have HB:=n10_
             clear n0_ n1_ n2_ n3_ n4_ n5_ n6_ n7_ n8_ n9_ n10_
             (try clear hb)
             (try clear hb2)
             (try clear hk)
             (try clear hi)
             obtain⟨Ao142,co142,eo142⟩:=Kd.R_slice HO282.out
             (first|subst eo142|(injection eo142 with f1_ f2_ f3_;have f4_:=f1_.symm;have f5_:=f3_.symm;clear f1_ f2_ f3_;subst f4_;subst f5_))
             refine hK.out _ _ ⟨(blk_cell BK235.out 0).trans rfl,(blk_cell BK235.out 1).trans rfl,(blk_cell BK235.out 2).trans rfl,(blk_cell BK236.out 0).trans rfl,(blk_cell BK236.out 1).trans rfl⟩ (fun hHeld => ?_)
             clear hK K
             refine norm_ (a':=?_) ?_ ?_
             rotate_left
             ·show Act.put _ (some 83) _=_
              simp only[Act.put,List.setIfInBounds_toArray,List.set_cons_zero,List.set_cons_succ,i64_w,i32_w]
              rfl
             refine one_ (i:=4) (N:=some 84) #[true,true,true,true,true,false,false,false,true,false,false] rfl rfl (one_of HT_.out (by kernel_rfl)) (by decide) (fun K hK => ?_)
             refine goes_ Try.func39 (by kernel_rfl) rfl #[.agg #[.slice Ao142 t280.length co142,.int .i64 t283,.bool t284],.agg #[.int .i64 t285,.int .i64 t286]] (by rfl) rfl rfl (by(try simp only[List.map_toArray,List.map_cons,List.map_nil]);first|done|rfl|(simp only[List.length_drop,List.length_take];rfl)) ?_
             with_reducible refine(impl_MeetBoth.calls kj78 _ _ t280 t283 t284 t285 t286 t287 t290 t291 t292 _ ?side1 ?side2 A128.out).mono ?_
             (case side1=>exact bT HO282.out)
             (case side2=>exact(Kd.R_reads' HO282.out).2.1)
             rintro e w143 ⟨v288,rfl,ho0,hb⟩
             refine⟨_,rfl,?_⟩
             have n0_:=Aside0.mk (Kd.R_elder' (bK HO_252000.out) (Kd.R_base ho0) hb)
             have n1_:=Aside0.mk (Kd.R_elder' (bK HO_258000.out) (Kd.R_base ho0) hb)
             have n2_:=Aside0.mk (Kd.R_elder' (bK HO_267000.out) (Kd.R_base ho0) hb)
             have n3_:=Aside0.mk (Kd.R_elder' (bK HO282.out) (Kd.R_base ho0) hb)
             have n4_:=Aside0.mk (Kd.R_lower (Kd.R_new' (Kd.R_new' (Kd.R_new' (Kd.R_new' ho0 (Kd.R_lt (bK HO_252000.out))) (Kd.R_lt (bK HO_258000.out))) (Kd.R_lt (bK HO_267000.out))) (Kd.R_lt (bK HO282.out))) (below_size (bS6 GE235.out GE236.out GE251.out GE257.out GE266.out GE293.out)))
             have n5_:=Aside0.mk (bM BK235.out hb)
             have n6_:=Aside0.mk (bM BK236.out hb)
             have n7_:=Aside0.mk (bM BK251.out hb)
             have n8_:=Aside0.mk (bM BK257.out hb)
             have n9_:=Aside0.mk (bM BK266.out hb)
             have n10_:=Aside0.mk (bM BK293.out hb)
             have n11_:=Aside0.mk (below_step (bS6 GE235.out GE236.out GE251.out GE257.out GE266.out GE293.out) hb)
             clear HO_252000 HO_258000 HO_267000 HO282 BK235 BK236 BK251 BK257 BK266 BK293 HB
             have HO_252000:=n0_
             have HO_258000:=n1_
             have HO_267000:=n2_
             have HO282:=n3_
             have HO289:=n4_
             have BK235:=n5_
             have BK236:=n6_
             have BK251:=n7_
             have BK257:=n8_
             have BK266:=n9_
             have BK293:=n10_
             have HB:=n11_
             clear n0_ n1_ n2_ n3_ n4_ n5_ n6_ n7_ n8_ n9_ n10_ n11_
             (try clear hb)
             (try clear hb2)
             (try clear hk)
             (try clear hi)
             (try clear ho0)
             refine hK.out _ _ ⟨(blk_cell BK235.out 0).trans rfl,(blk_cell BK235.out 1).trans rfl,(blk_cell BK235.out 2).trans rfl,(blk_cell BK236.out 0).trans rfl,(blk_cell BK236.out 1).trans rfl⟩ (fun hHeld => ?_)
             clear hK K
             refine norm_ (a':=?_) ?_ ?_
             rotate_left
             ·show Act.put _ (some 84) _=_
              simp only[Act.put,List.setIfInBounds_toArray,List.set_cons_zero,List.set_cons_succ,i64_w,i32_w]
              rfl
             refine pure_ (i:=5) (N:=some 79) (v:=?_) (a':=?_) #[true,true,true,true,true,true,false,false,true,false,false] rfl rfl (any_of HT_.out (by kernel_rfl)) (fun _ _ _ h=>h) (Or.inl ⟨by rfl,?_⟩) ?_ ?_
             rotate_left
             ·intro w'
              go_simp
              with_reducible rfl
             rotate_left
             ·simp only[Act.put,List.setIfInBounds_toArray,List.set_cons_zero,List.set_cons_succ,i64_w,i32_w]
              rfl
             refine pure_ (i:=6) (N:=some 85) (v:=?_) (a':=?_) #[true,true,true,true,true,true,true,false,true,false,false] rfl rfl (any_of HT_.out (by kernel_rfl)) (fun _ _ _ h=>h) (Or.inl ⟨by rfl,?_⟩) ?_ ?_
             rotate_left
             ·intro w'
              go_simp
              with_reducible rfl
             rotate_left
             ·simp only[Act.put,List.setIfInBounds_toArray,List.set_cons_zero,List.set_cons_succ,i64_w,i32_w]
              rfl
             refine pure_ (i:=7) (N:=some 86) (v:=?_) (a':=?_) #[true,true,true,true,true,true,true,true,true,false,false] rfl rfl (any_of HT_.out (by kernel_rfl)) (fun _ _ _ h=>h) (Or.inl ⟨by rfl,?_⟩) ?_ ?_
             rotate_left
             ·intro w'
              go_simp
              with_reducible rfl
             rotate_left
             ·simp only[Act.put,List.setIfInBounds_toArray,List.set_cons_zero,List.set_cons_succ,i64_w,i32_w]
              rfl
             exact norm_ (by simp only[putAll,Act.put,List.setIfInBounds_toArray,List.set_cons_zero,List.set_cons_succ]) (hCont (.slice Ao142 t280.length co142,v288,gb293) _ ⟨hHeld,(by(with_reducible repeat (first|apply Kd.R_alloc|apply Kd.R_drewN|apply Kd.R_drew));exact Kd.R_mono HO282.out (fun _ hk=>⟨hk.2,⟨hk.1.1.1.2,⟨hk.1.1.2,hk.1.2⟩⟩⟩)),(by(with_reducible repeat (first|apply Kd.R_alloc|apply Kd.R_drewN|apply Kd.R_drew));exact Kd.R_mono HO289.out (fun _ hk=>⟨hk.2,⟨hk.1.1.1.2,⟨hk.1.1.2,hk.1.2⟩⟩⟩)),(by(with_reducible repeat (first|apply Kd.R_alloc|apply Kd.R_drewN|apply Kd.R_drew));exact Kd.R_mono HO_252000.out (fun _ hk=>⟨hk.1.2,⟨hk.2,⟨hk.1.1.1,hk.1.1.2⟩⟩⟩)),(by(with_reducible repeat (first|apply Kd.R_alloc|apply Kd.R_drewN|apply Kd.R_drew));exact Kd.R_mono HO_258000.out (fun _ hk=>⟨hk.1.2,⟨hk.2,⟨hk.1.1.1,hk.1.1.2⟩⟩⟩)),(by(with_reducible repeat (first|apply Kd.R_alloc|apply Kd.R_drewN|apply Kd.R_drew));exact Kd.R_mono HO_267000.out (fun _ hk=>⟨hk.1.2,⟨hk.2,⟨hk.1.1.1,hk.1.1.2⟩⟩⟩)),(bL BK235.out),(bL BK236.out),(bL BK251.out),(bL BK257.out),(bL BK266.out),(bL BK293.out),GW293.out,GE293.out,NB235_293.out,NB293_235.out,NB236_293.out,NB293_236.out,NB251_293.out,NB293_251.out,NB257_293.out,NB293_257.out,NB266_293.out,NB293_266.out,(bS6 GE235.out GE236.out GE251.out GE257.out GE266.out GE293.out)⟩)
           rintro⟨v281,v288,gb293⟩ w144 ⟨hS_,h0_,h1_,h2_,h3_,h4_,h5_,h6_,h7_,h8_,h9_,h10_,h11_,h12_,h13_,h14_,h15_,h16_,h17_,h18_,h19_,h20_,h21_,h22_,h23_⟩
           have n0_:Aside0 (Kd.R (Kd.int .i64) 3 w144 w.heap.size (fun k_=>some k_≠(v288:Value).ownBlock∧some k_≠(.slice Ao29 t245.length co29:Value).ownBlock∧some k_≠(.slice Ao37 t275.length co37:Value).ownBlock∧some k_≠(.slice Ao48 t260.length co48:Value).ownBlock) v281 t280):=⟨h0_⟩
           have n1_:Aside0 (Kd.R (Kd.int .i64) 3 w144 w.heap.size (fun k_=>some k_≠(v281:Value).ownBlock∧some k_≠(.slice Ao29 t245.length co29:Value).ownBlock∧some k_≠(.slice Ao37 t275.length co37:Value).ownBlock∧some k_≠(.slice Ao48 t260.length co48:Value).ownBlock) v288 t287):=⟨h1_⟩
           have n2_:Aside0 (Kd.R (Kd.int .i64) 3 w144 w.heap.size (fun k_=>some k_≠(v281:Value).ownBlock∧some k_≠(v288:Value).ownBlock∧some k_≠(.slice Ao37 t275.length co37:Value).ownBlock∧some k_≠(.slice Ao48 t260.length co48:Value).ownBlock) (.slice Ao29 t245.length co29) t245):=⟨h2_⟩
           have n3_:Aside0 (Kd.R (Kd.int .i64) 3 w144 w.heap.size (fun k_=>some k_≠(v281:Value).ownBlock∧some k_≠(v288:Value).ownBlock∧some k_≠(.slice Ao29 t245.length co29:Value).ownBlock∧some k_≠(.slice Ao48 t260.length co48:Value).ownBlock) (.slice Ao37 t275.length co37) t275):=⟨h3_⟩
           have n4_:Aside0 (Kd.R (Kd.int .i64) 3 w144 w.heap.size (fun k_=>some k_≠(v281:Value).ownBlock∧some k_≠(v288:Value).ownBlock∧some k_≠(.slice Ao29 t245.length co29:Value).ownBlock∧some k_≠(.slice Ao37 t275.length co37:Value).ownBlock) (.slice Ao48 t260.length co48) t278):=⟨h4_⟩
           have n5_:Aside0 (w144.heap[gb235]?=some (.cells #[.slice A0_0 l0_0.length c0_0,.int .i64 a0_1,.bool a0_2] 35 (0,0))):=⟨h5_⟩
           have n6_:Aside0 (w144.heap[gb236]?=some (.cells #[.int .i64 a1_0,.int .i64 a1_1] 57 (0,0))):=⟨h6_⟩
           have n7_:Aside0 (w144.heap[gb251]?=some (.cells #[.slice Ao29 t245.length co29,.int .i64 t248,.bool t249] 39 (0,0))):=⟨h7_⟩
           have n8_:Aside0 (w144.heap[gb257]?=some (.cells #[.slice Ao37 t275.length co37,.int .i64 t255,.bool t256] 39 (0,0))):=⟨h8_⟩
           have n9_:Aside0 (w144.heap[gb266]?=some (.cells #[.slice Ao48 t260.length co48,.int .i64 t263,.bool t264] 39 (0,0))):=⟨h9_⟩
           have n10_:Aside0 (w144.heap[gb293]?=some (.cells #[.slice none 0 0,.int .i64 0,.bool false] 39 (0,0))):=⟨h10_⟩
           have n11_:Aside0 (w.heap.size≤gb293):=⟨h11_⟩
           have n12_:Aside0 (w.heap.size≤gb293):=⟨h12_⟩
           have n13_:Aside0 (gb235≠gb293):=⟨h13_⟩
           have n14_:Aside0 (gb293≠gb235):=⟨h14_⟩
           have n15_:Aside0 (gb236≠gb293):=⟨h15_⟩
           have n16_:Aside0 (gb293≠gb236):=⟨h16_⟩
           have n17_:Aside0 (gb251≠gb293):=⟨h17_⟩
           have n18_:Aside0 (gb293≠gb251):=⟨h18_⟩
           have n19_:Aside0 (gb257≠gb293):=⟨h19_⟩
           have n20_:Aside0 (gb293≠gb257):=⟨h20_⟩
           have n21_:Aside0 (gb266≠gb293):=⟨h21_⟩
           have n22_:Aside0 (gb293≠gb266):=⟨h22_⟩
           have n23_:Aside0 (Below w.heap.size w w144):=⟨h23_⟩
           clear HO_252000 HO_258000 HO_267000 BK235 BK236 BK251 BK257 BK266 HB h0_ h1_ h2_ h3_ h4_ h5_ h6_ h7_ h8_ h9_ h10_ h11_ h12_ h13_ h14_ h15_ h16_ h17_ h18_ h19_ h20_ h21_ h22_ h23_
           have HO282:=n0_
           have HO289:=n1_
           have HO_252000:=n2_
           have HO_258000:=n3_
           have HO_267000:=n4_
           have BK235:=n5_
           have BK236:=n6_
           have BK251:=n7_
           have BK257:=n8_
           have BK266:=n9_
           have BK293:=n10_
           have GW293:=n11_
           have GE293:=n12_
           have NB235_293:=n13_
           have NB293_235:=n14_
           have NB236_293:=n15_
           have NB293_236:=n16_
           have NB251_293:=n17_
           have NB293_251:=n18_
           have NB257_293:=n19_
           have NB293_257:=n20_
           have NB266_293:=n21_
           have NB293_266:=n22_
           have HB:=n23_
           clear n0_ n1_ n2_ n3_ n4_ n5_ n6_ n7_ n8_ n9_ n10_ n11_ n12_ n13_ n14_ n15_ n16_ n17_ n18_ n19_ n20_ n21_ n22_ n23_
           have hHeld:w144.cell? ⟨gb235,0,none⟩=some (.slice A0_0 l0_0.length c0_0)∧w144.cell? ⟨gb235,1,none⟩=some (.int .i64 a0_1)∧w144.cell? ⟨gb235,2,none⟩=some (.bool a0_2)∧w144.cell? ⟨gb236,0,none⟩=some (.int .i64 a1_0)∧w144.cell? ⟨gb236,1,none⟩=some (.int .i64 a1_1):=hS_
           obtain⟨Ao145,co145,eo145⟩:=Kd.R_slice HO289.out
           (first|subst eo145|(injection eo145 with f1_ f2_ f3_;have f4_:=f1_.symm;have f5_:=f3_.symm;clear f1_ f2_ f3_;subst f4_;subst f5_))
           refine norm_ (a':=?_) ?_ ?_
           rotate_left
           ·simp only[putAll,Act.put,List.setIfInBounds_toArray,List.set_cons_zero,List.set_cons_succ]
            rfl
           refine one_ (i:=9) (N:=none) #[true,true,true,true,true,true,true,true,true,true,false] rfl rfl (one_of HT_.out (by kernel_rfl)) (by decide) (fun K hK => ?_)
           have hs146:w144.cell? ⟨gb293,0,none⟩=some (.slice none 0 0):=(blk_cell BK293.out 0).trans rfl
           have hfs146:=blk_frozen BK293.out 0
           have hns146_0:=NB235_293.out
           have hns146_1:=NB236_293.out
           have hns146_2:=NB251_293.out
           have hns146_3:=NB257_293.out
           have hns146_4:=NB266_293.out
           have hms146_0:=NB293_235.out
           have hms146_1:=NB293_236.out
           have hms146_2:=NB293_251.out
           have hms146_3:=NB293_257.out
           have hms146_4:=NB293_266.out
           have hs147:w144.cell? ⟨gb293,1,none⟩=some (.int .i64 0):=(blk_cell BK293.out 1).trans rfl
           have hfs147:=blk_frozen BK293.out 1
           have hns147_0:=NB235_293.out
           have hns147_1:=NB236_293.out
           have hns147_2:=NB251_293.out
           have hns147_3:=NB257_293.out
           have hns147_4:=NB266_293.out
           have hms147_0:=NB293_235.out
           have hms147_1:=NB293_236.out
           have hms147_2:=NB293_251.out
           have hms147_3:=NB293_257.out
           have hms147_4:=NB293_266.out
           have hs148:w144.cell? ⟨gb293,2,none⟩=some (.bool false):=(blk_cell BK293.out 2).trans rfl
           have hfs148:=blk_frozen BK293.out 2
           have hns148_0:=NB235_293.out
           have hns148_1:=NB236_293.out
           have hns148_2:=NB251_293.out
           have hns148_3:=NB257_293.out
           have hns148_4:=NB266_293.out
           have hms148_0:=NB293_235.out
           have hms148_1:=NB293_236.out
           have hms148_2:=NB293_251.out
           have hms148_3:=NB293_257.out
           have hms148_4:=NB293_266.out
           refine skip_ (w1:=?_) (by rfl) rfl ?_ ?_
           rotate_left
           ·go_simp
            rfl
           refine hK.out _ _ ⟨((cell_far (p:=⟨gb293,_,none⟩) NB235_293.out _).trans (((cell_far (p:=⟨gb293,_,none⟩) NB235_293.out _).trans (((cell_far (p:=⟨gb293,_,none⟩) NB235_293.out _).trans (hHeld.1)))))),((cell_far (p:=⟨gb293,_,none⟩) NB235_293.out _).trans (((cell_far (p:=⟨gb293,_,none⟩) NB235_293.out _).trans (((cell_far (p:=⟨gb293,_,none⟩) NB235_293.out _).trans (hHeld.2.1)))))),((cell_far (p:=⟨gb293,_,none⟩) NB235_293.out _).trans (((cell_far (p:=⟨gb293,_,none⟩) NB235_293.out _).trans (((cell_far (p:=⟨gb293,_,none⟩) NB235_293.out _).trans (hHeld.2.2.1)))))),((cell_far (p:=⟨gb293,_,none⟩) NB236_293.out _).trans (((cell_far (p:=⟨gb293,_,none⟩) NB236_293.out _).trans (((cell_far (p:=⟨gb293,_,none⟩) NB236_293.out _).trans (hHeld.2.2.2.1)))))),((cell_far (p:=⟨gb293,_,none⟩) NB236_293.out _).trans (((cell_far (p:=⟨gb293,_,none⟩) NB236_293.out _).trans (((cell_far (p:=⟨gb293,_,none⟩) NB236_293.out _).trans (hHeld.2.2.2.2))))))⟩ (fun hHeld => ?_)
           clear hK K
           refine pure_ (i:=10) (N:=some 15) (v:=?_) (a':=?_) #[true,true,true,true,true,true,true,true,true,true,true] rfl rfl (any_of HT_.out (by kernel_rfl)) (fun _ _ _ h=>h) (Or.inl ⟨by rfl,?_⟩) ?_ ?_
           rotate_left
           ·intro w'
            go_simp
            with_reducible rfl
           rotate_left
           ·simp only[Act.put,List.setIfInBounds_toArray,List.set_cons_zero,List.set_cons_succ,i64_w,i32_w]
            rfl
           refine done_ (done_of HT_.out (by kernel_rfl)) ?_
           go_upto_region 25 with (fail)
           go_cut [95] (fun v95 wc => ∃ (kq:Nat) (x95_128:Bool),v95=.bool x95_128∧Aside0 (laws_FnExactMeetBoth.j2 kq t277 x95_128 t278 t263 t264=some r)∧Aside0 (kq≤kj78)∧Aside0 (Kd.R (Kd.int .i64) 3 wc w.heap.size (fun k_=>some k_≠((.slice Ao37 t275.length co37):Value).ownBlock∧some k_≠((.slice Ao48 t260.length co48):Value).ownBlock∧some k_≠((.slice Ao145 t287.length co145):Value).ownBlock) (.slice Ao29 t245.length co29) t245)∧Aside0 (Kd.R (Kd.int .i64) 3 wc w.heap.size (fun k_=>some k_≠((.slice Ao29 t245.length co29):Value).ownBlock∧some k_≠((.slice Ao48 t260.length co48):Value).ownBlock∧some k_≠((.slice Ao145 t287.length co145):Value).ownBlock) (.slice Ao37 t275.length co37) t275)∧Aside0 (Kd.R (Kd.int .i64) 3 wc w.heap.size (fun k_=>some k_≠((.slice Ao29 t245.length co29):Value).ownBlock∧some k_≠((.slice Ao37 t275.length co37):Value).ownBlock∧some k_≠((.slice Ao145 t287.length co145):Value).ownBlock) (.slice Ao48 t260.length co48) t278)∧Aside0 (Kd.R (Kd.int .i64) 3 wc w.heap.size (fun k_=>some k_≠((.slice Ao29 t245.length co29):Value).ownBlock∧some k_≠((.slice Ao37 t275.length co37):Value).ownBlock∧some k_≠((.slice Ao48 t260.length co48):Value).ownBlock) (.slice Ao145 t287.length co145) t287)∧Aside0 (wc.heap[gb235]?=some (.cells #[(.slice A0_0 l0_0.length c0_0),.int .i64 a0_1,.bool a0_2] 35 (0,0)))∧Aside0 (wc.heap[gb236]?=some (.cells #[.int .i64 a1_0,.int .i64 a1_1] 57 (0,0)))∧Aside0 (wc.heap[gb251]?=some (.cells #[(.slice Ao29 t245.length co29),.int .i64 t248,.bool t249] 39 (0,0)))∧Aside0 (wc.heap[gb257]?=some (.cells #[(.slice Ao37 t275.length co37),.int .i64 t255,.bool t256] 39 (0,0)))∧Aside0 (wc.heap[gb266]?=some (.cells #[(.slice Ao48 t260.length co48),.int .i64 t263,.bool t264] 39 (0,0)))∧Aside0 (wc.heap[gb293]?=some (.cells #[(.slice Ao145 t287.length co145),.int .i64 t290,.bool t291] 39 (0,0)))∧Aside0 (Below w.heap.size w wc))
           case first =>
            have H:=HC129.out
            clear HC129
            replace H:=Option.bind_eq_some_iff.mp H
            obtain⟨t294,A1490,H⟩:=H
            have A149:=Aside0.mk A1490
            clear A1490
            by_cases c150:t294=true
            ·subst c150
             have H1:(laws_FnExactMeetBoth.j2 kj78 t277 (t292 != t250) t278 t263 t264)=some r:=by rw[if_pos rfl] at H;exact H
             clear H
             have H:=H1
             clear H1
             have H':=Aside0.mk H
             clear H
             have hnb151:=NB293_235.out
             have hnc151:=NB235_293.out
             have hnb152:=NB293_236.out
             have hnc152:=NB236_293.out
             have hnb153:=NB293_251.out
             have hnc153:=NB251_293.out
             have hnb154:=NB293_257.out
             have hnc154:=NB257_293.out
             have hnb155:=NB293_266.out
             have hnc155:=NB266_293.out
             obtain⟨hcz156_0,hcz156_1,hcz156_2⟩:=cC3 BK293.out
             obtain⟨hfz156_0,hfz156_1,hfz156_2⟩:=cF3 BK293.out
             have hnb157:=NB251_235.out
             have hnc157:=NB235_251.out
             have hnb158:=NB251_236.out
             have hnc158:=NB236_251.out
             have hnb159:=NB251_257.out
             have hnc159:=NB257_251.out
             have hnb160:=NB251_266.out
             have hnc160:=NB266_251.out
             obtain⟨hcz161_0,hcz161_1,hcz161_2⟩:=cC3 BK251.out
             obtain⟨hfz161_0,hfz161_1,hfz161_2⟩:=cF3 BK251.out
             go_wp2_with (first|((with_reducible refine gate_callee (f:=25) rfl ?_);refine goesA (some 89) rfl rfl Try.func25 #[.agg #[.slice Ao145 t287.length co145,.int .i64 t290,.bool t291],.agg #[.slice Ao29 t245.length co29,.int .i64 t248,.bool t249]] rfl ?_;(with_reducible refine(laws_eqSpray.calls kj78 _ _ t287 t290 t291 _ _ t245 t248 t249 true _ ?side1 ?side2 ?side3 ?side4 A149.out).mono ?_);(case side1=>refine(Kd.R_reads' (e:=3) (base:=w.heap.size) (ok:=fun k_=>(some k_≠(v281:Value).ownBlock∧(some k_≠(.slice Ao29 t245.length co29:Value).ownBlock∧(some k_≠(.slice Ao37 t275.length co37:Value).ownBlock∧some k_≠(.slice Ao48 t260.length co48:Value).ownBlock)))) (n:=t287.length) (c:=co145) ?_).2.2;exact(by(with_reducible repeat (first|apply Kd.R_alloc|apply Kd.R_drewN|apply Kd.R_drew));exact(Kd.R_mono (Kd.R_far (p:=⟨gb293,2,none⟩) (Kd.R_far (p:=⟨gb293,1,none⟩) (Kd.R_far (p:=⟨gb293,0,none⟩) (Kd.R_types HO289.out BK293.out (by decide)) (fun _ hk=>hk.2) (.slice Ao145 t287.length co145)) (fun _ hk=>hk.2) (.int .i64 t290)) (fun _ hk=>hk.2) (.bool t291)) (fun _ h_=>h_.1))));(case side2=>exact(Kd.R_reads' HO289.out).2.1);(case side3=>refine(Kd.R_reads' (e:=3) (base:=w.heap.size) (ok:=fun k_=>(some k_≠(v281:Value).ownBlock∧(some k_≠(.slice Ao145 t287.length co145:Value).ownBlock∧(some k_≠(.slice Ao37 t275.length co37:Value).ownBlock∧some k_≠(.slice Ao48 t260.length co48:Value).ownBlock)))) (n:=t245.length) (c:=co29) ?_).2.2;exact(by(with_reducible repeat (first|apply Kd.R_alloc|apply Kd.R_drewN|apply Kd.R_drew));exact(Kd.R_mono (Kd.R_far (p:=⟨gb293,2,none⟩) (Kd.R_far (p:=⟨gb293,1,none⟩) (Kd.R_far (p:=⟨gb293,0,none⟩) (Kd.R_types HO_252000.out BK293.out (by decide)) (fun _ hk=>hk.2) (.slice Ao145 t287.length co145)) (fun _ hk=>hk.2) (.int .i64 t290)) (fun _ hk=>hk.2) (.bool t291)) (fun _ h_=>h_.1))));(case side4=>exact(Kd.R_reads' HO_252000.out).2.1);rintro e w162 ⟨rfl,hb⟩;refine⟨_,rfl,?_⟩;have n0_:=Aside0.mk (Kd.R_below (by(with_reducible repeat (first|apply Kd.R_alloc|apply Kd.R_drewN|apply Kd.R_drew));exact(Kd.R_mono (Kd.R_far (p:=⟨gb293,2,none⟩) (Kd.R_far (p:=⟨gb293,1,none⟩) (Kd.R_far (p:=⟨gb293,0,none⟩) (Kd.R_types HO_252000.out BK293.out (by decide)) (fun _ hk=>hk.2) (.slice Ao145 t287.length co145)) (fun _ hk=>hk.2) (.int .i64 t290)) (fun _ hk=>hk.2) (.bool t291)) (fun _ h_=>h_.1))) hb);have n1_:=Aside0.mk (Kd.R_below (by(with_reducible repeat (first|apply Kd.R_alloc|apply Kd.R_drewN|apply Kd.R_drew));exact(Kd.R_mono (Kd.R_far (p:=⟨gb293,2,none⟩) (Kd.R_far (p:=⟨gb293,1,none⟩) (Kd.R_far (p:=⟨gb293,0,none⟩) (Kd.R_types HO_258000.out BK293.out (by decide)) (fun _ hk=>hk.2) (.slice Ao145 t287.length co145)) (fun _ hk=>hk.2) (.int .i64 t290)) (fun _ hk=>hk.2) (.bool t291)) (fun _ h_=>h_.1))) hb);have n2_:=Aside0.mk (Kd.R_below (by(with_reducible repeat (first|apply Kd.R_alloc|apply Kd.R_drewN|apply Kd.R_drew));exact(Kd.R_mono (Kd.R_far (p:=⟨gb293,2,none⟩) (Kd.R_far (p:=⟨gb293,1,none⟩) (Kd.R_far (p:=⟨gb293,0,none⟩) (Kd.R_types HO_267000.out BK293.out (by decide)) (fun _ hk=>hk.2) (.slice Ao145 t287.length co145)) (fun _ hk=>hk.2) (.int .i64 t290)) (fun _ hk=>hk.2) (.bool t291)) (fun _ h_=>h_.1))) hb);have n3_:=Aside0.mk (Kd.R_below (by(with_reducible repeat (first|apply Kd.R_alloc|apply Kd.R_drewN|apply Kd.R_drew));exact(Kd.R_mono (Kd.R_far (p:=⟨gb293,2,none⟩) (Kd.R_far (p:=⟨gb293,1,none⟩) (Kd.R_far (p:=⟨gb293,0,none⟩) (Kd.R_types HO282.out BK293.out (by decide)) (fun _ hk=>hk.2) (.slice Ao145 t287.length co145)) (fun _ hk=>hk.2) (.int .i64 t290)) (fun _ hk=>hk.2) (.bool t291)) (fun _ h_=>h_.1))) hb);have n4_:=Aside0.mk (Kd.R_below (by(with_reducible repeat (first|apply Kd.R_alloc|apply Kd.R_drewN|apply Kd.R_drew));exact(Kd.R_mono (Kd.R_far (p:=⟨gb293,2,none⟩) (Kd.R_far (p:=⟨gb293,1,none⟩) (Kd.R_far (p:=⟨gb293,0,none⟩) (Kd.R_types HO289.out BK293.out (by decide)) (fun _ hk=>hk.2) (.slice Ao145 t287.length co145)) (fun _ hk=>hk.2) (.int .i64 t290)) (fun _ hk=>hk.2) (.bool t291)) (fun _ h_=>h_.1))) hb);have n5_:=Aside0.mk (blk_below (g:=gb235) (o:=.cells #[.slice A0_0 l0_0.length c0_0,.int .i64 a0_1,.bool a0_2] 35 (0,0)) (by(with_reducible repeat (first|refine blk_drewN ?_ _|refine blk_drew ?_|refine blk_alloc ?_ _));refine blk_far ?_ NB235_293.out _;(with_reducible repeat (first|refine blk_drewN ?_ _|refine blk_drew ?_|refine blk_alloc ?_ _));refine blk_far ?_ NB235_293.out _;(with_reducible repeat (first|refine blk_drewN ?_ _|refine blk_drew ?_|refine blk_alloc ?_ _));refine blk_far ?_ NB235_293.out _;(with_reducible repeat (first|refine blk_drewN ?_ _|refine blk_drew ?_|refine blk_alloc ?_ _));exact BK235.out) hb);have n6_:=Aside0.mk (blk_below (g:=gb236) (o:=.cells #[.int .i64 a1_0,.int .i64 a1_1] 57 (0,0)) (by(with_reducible repeat (first|refine blk_drewN ?_ _|refine blk_drew ?_|refine blk_alloc ?_ _));refine blk_far ?_ NB236_293.out _;(with_reducible repeat (first|refine blk_drewN ?_ _|refine blk_drew ?_|refine blk_alloc ?_ _));refine blk_far ?_ NB236_293.out _;(with_reducible repeat (first|refine blk_drewN ?_ _|refine blk_drew ?_|refine blk_alloc ?_ _));refine blk_far ?_ NB236_293.out _;(with_reducible repeat (first|refine blk_drewN ?_ _|refine blk_drew ?_|refine blk_alloc ?_ _));exact BK236.out) hb);have n7_:=Aside0.mk (blk_below (g:=gb251) (o:=.cells #[.slice Ao29 t245.length co29,.int .i64 t248,.bool t249] 39 (0,0)) (by(with_reducible repeat (first|refine blk_drewN ?_ _|refine blk_drew ?_|refine blk_alloc ?_ _));refine blk_far ?_ NB251_293.out _;(with_reducible repeat (first|refine blk_drewN ?_ _|refine blk_drew ?_|refine blk_alloc ?_ _));refine blk_far ?_ NB251_293.out _;(with_reducible repeat (first|refine blk_drewN ?_ _|refine blk_drew ?_|refine blk_alloc ?_ _));refine blk_far ?_ NB251_293.out _;(with_reducible repeat (first|refine blk_drewN ?_ _|refine blk_drew ?_|refine blk_alloc ?_ _));exact BK251.out) hb);have n8_:=Aside0.mk (blk_below (g:=gb257) (o:=.cells #[.slice Ao37 t275.length co37,.int .i64 t255,.bool t256] 39 (0,0)) (by(with_reducible repeat (first|refine blk_drewN ?_ _|refine blk_drew ?_|refine blk_alloc ?_ _));refine blk_far ?_ NB257_293.out _;(with_reducible repeat (first|refine blk_drewN ?_ _|refine blk_drew ?_|refine blk_alloc ?_ _));refine blk_far ?_ NB257_293.out _;(with_reducible repeat (first|refine blk_drewN ?_ _|refine blk_drew ?_|refine blk_alloc ?_ _));refine blk_far ?_ NB257_293.out _;(with_reducible repeat (first|refine blk_drewN ?_ _|refine blk_drew ?_|refine blk_alloc ?_ _));exact BK257.out) hb);have n9_:=Aside0.mk (blk_below (g:=gb266) (o:=.cells #[.slice Ao48 t260.length co48,.int .i64 t263,.bool t264] 39 (0,0)) (by(with_reducible repeat (first|refine blk_drewN ?_ _|refine blk_drew ?_|refine blk_alloc ?_ _));refine blk_far ?_ NB266_293.out _;(with_reducible repeat (first|refine blk_drewN ?_ _|refine blk_drew ?_|refine blk_alloc ?_ _));refine blk_far ?_ NB266_293.out _;(with_reducible repeat (first|refine blk_drewN ?_ _|refine blk_drew ?_|refine blk_alloc ?_ _));refine blk_far ?_ NB266_293.out _;(with_reducible repeat (first|refine blk_drewN ?_ _|refine blk_drew ?_|refine blk_alloc ?_ _));exact BK266.out) hb);have n10_:=Aside0.mk (blk_below (g:=gb293) (o:=.cells #[.slice Ao145 t287.length co145,.int .i64 t290,.bool t291] 39 (0,0)) (by(with_reducible repeat (first|refine blk_drewN ?_ _|refine blk_drew ?_|refine blk_alloc ?_ _));refine blk_put (cs:=#[.slice Ao145 t287.length co145,.int .i64 t290,.bool false]) ?_ 2 _ rfl;(with_reducible repeat (first|refine blk_drewN ?_ _|refine blk_drew ?_|refine blk_alloc ?_ _));refine blk_put (cs:=#[.slice Ao145 t287.length co145,.int .i64 0,.bool false]) ?_ 1 _ rfl;(with_reducible repeat (first|refine blk_drewN ?_ _|refine blk_drew ?_|refine blk_alloc ?_ _));refine blk_put (cs:=#[.slice none 0 0,.int .i64 0,.bool false]) ?_ 0 _ rfl;(with_reducible repeat (first|refine blk_drewN ?_ _|refine blk_drew ?_|refine blk_alloc ?_ _));exact BK293.out) hb);have n11_:=Aside0.mk (below_step (bS6 GE235.out GE236.out GE251.out GE257.out GE266.out GE293.out) hb);clear HO_252000 HO_258000 HO_267000 HO282 HO289 BK235 BK236 BK251 BK257 BK266 BK293 HB;have HO_252000:=n0_;have HO_258000:=n1_;have HO_267000:=n2_;have HO282:=n3_;have HO289:=n4_;have BK235:=n5_;have BK236:=n6_;have BK251:=n7_;have BK257:=n8_;have BK266:=n9_;have BK293:=n10_;have HB:=n11_;clear n0_ n1_ n2_ n3_ n4_ n5_ n6_ n7_ n8_ n9_ n10_ n11_;(try clear hb);(try clear hb2);(try clear hk);(try clear hi)))
             go_meet
             case rel=>exact⟨_,((t292 != t250)),(bR),H',⟨by have:=HJ15.out;have:=HJ78.out;first|omega|exact Nat.le_refl _⟩,⟨by(try simp only[hl258000_78]);(with_reducible repeat (first|apply Kd.R_alloc|apply Kd.R_drewN|apply Kd.R_drew));exact Kd.R_mono HO_252000.out (fun _ hk=>⟨hk.2.2.1,⟨hk.2.2.2,hk.2.1⟩⟩)⟩,⟨by(try simp only[hl258000_78]);(with_reducible repeat (first|apply Kd.R_alloc|apply Kd.R_drewN|apply Kd.R_drew));exact Kd.R_mono HO_258000.out (fun _ hk=>⟨hk.2.2.1,⟨hk.2.2.2,hk.2.1⟩⟩)⟩,⟨by(try simp only[hl258000_78]);(with_reducible repeat (first|apply Kd.R_alloc|apply Kd.R_drewN|apply Kd.R_drew));exact Kd.R_mono HO_267000.out (fun _ hk=>⟨hk.2.2.1,⟨hk.2.2.2,hk.2.1⟩⟩)⟩,⟨by(try simp only[hl258000_78]);(with_reducible repeat (first|apply Kd.R_alloc|apply Kd.R_drewN|apply Kd.R_drew));exact Kd.R_mono HO289.out (fun _ hk=>⟨hk.2.1,⟨hk.2.2.1,hk.2.2.2⟩⟩)⟩,⟨by(try simp only[hl258000_78]);(with_reducible repeat (first|refine blk_drewN ?_ _|refine blk_drew ?_|refine blk_alloc ?_ _));exact BK235.out⟩,⟨by(try simp only[hl258000_78]);(with_reducible repeat (first|refine blk_drewN ?_ _|refine blk_drew ?_|refine blk_alloc ?_ _));exact BK236.out⟩,⟨by(try simp only[hl258000_78]);(with_reducible repeat (first|refine blk_drewN ?_ _|refine blk_drew ?_|refine blk_alloc ?_ _));exact BK251.out⟩,⟨by(try simp only[hl258000_78]);(with_reducible repeat (first|refine blk_drewN ?_ _|refine blk_drew ?_|refine blk_alloc ?_ _));exact BK257.out⟩,⟨by(try simp only[hl258000_78]);(with_reducible repeat (first|refine blk_drewN ?_ _|refine blk_drew ?_|refine blk_alloc ?_ _));exact BK266.out⟩,⟨by(try simp only[hl258000_78]);(with_reducible repeat (first|refine blk_drewN ?_ _|refine blk_drew ?_|refine blk_alloc ?_ _));exact BK293.out⟩,⟨bS6 GE235.out GE236.out GE251.out GE257.out GE266.out GE293.out⟩⟩
            ·replace c150:=Bool.eq_false_iff.mpr c150
             subst c150
             have H1:(laws_FnExactMeetBoth.j2 kj78 t277 true t278 t263 t264)=some r:=by rw[if_neg (show ¬ (false=true) by decide)] at H;exact H
             clear H
             have H:=H1
             clear H1
             have H':=Aside0.mk H
             clear H
             have hnb163:=NB293_235.out
             have hnc163:=NB235_293.out
             have hnb164:=NB293_236.out
             have hnc164:=NB236_293.out
             have hnb165:=NB293_251.out
             have hnc165:=NB251_293.out
             have hnb166:=NB293_257.out
             have hnc166:=NB257_293.out
             have hnb167:=NB293_266.out
             have hnc167:=NB266_293.out
             obtain⟨hcz168_0,hcz168_1,hcz168_2⟩:=cC3 BK293.out
             obtain⟨hfz168_0,hfz168_1,hfz168_2⟩:=cF3 BK293.out
             have hnb169:=NB251_235.out
             have hnc169:=NB235_251.out
             have hnb170:=NB251_236.out
             have hnc170:=NB236_251.out
             have hnb171:=NB251_257.out
             have hnc171:=NB257_251.out
             have hnb172:=NB251_266.out
             have hnc172:=NB266_251.out
             obtain⟨hcz173_0,hcz173_1,hcz173_2⟩:=cC3 BK251.out
             obtain⟨hfz173_0,hfz173_1,hfz173_2⟩:=cF3 BK251.out
             go_wp2_with (first|((with_reducible refine gate_callee (f:=25) rfl ?_);refine goesA (some 89) rfl rfl Try.func25 #[.agg #[.slice Ao145 t287.length co145,.int .i64 t290,.bool t291],.agg #[.slice Ao29 t245.length co29,.int .i64 t248,.bool t249]] rfl ?_;(with_reducible refine(laws_eqSpray.calls kj78 _ _ t287 t290 t291 _ _ t245 t248 t249 false _ ?side1 ?side2 ?side3 ?side4 A149.out).mono ?_);(case side1=>refine(Kd.R_reads' (e:=3) (base:=w.heap.size) (ok:=fun k_=>(some k_≠(v281:Value).ownBlock∧(some k_≠(.slice Ao29 t245.length co29:Value).ownBlock∧(some k_≠(.slice Ao37 t275.length co37:Value).ownBlock∧some k_≠(.slice Ao48 t260.length co48:Value).ownBlock)))) (n:=t287.length) (c:=co145) ?_).2.2;exact(by(with_reducible repeat (first|apply Kd.R_alloc|apply Kd.R_drewN|apply Kd.R_drew));exact(Kd.R_mono (Kd.R_far (p:=⟨gb293,2,none⟩) (Kd.R_far (p:=⟨gb293,1,none⟩) (Kd.R_far (p:=⟨gb293,0,none⟩) (Kd.R_types HO289.out BK293.out (by decide)) (fun _ hk=>hk.2) (.slice Ao145 t287.length co145)) (fun _ hk=>hk.2) (.int .i64 t290)) (fun _ hk=>hk.2) (.bool t291)) (fun _ h_=>h_.1))));(case side2=>exact(Kd.R_reads' HO289.out).2.1);(case side3=>refine(Kd.R_reads' (e:=3) (base:=w.heap.size) (ok:=fun k_=>(some k_≠(v281:Value).ownBlock∧(some k_≠(.slice Ao145 t287.length co145:Value).ownBlock∧(some k_≠(.slice Ao37 t275.length co37:Value).ownBlock∧some k_≠(.slice Ao48 t260.length co48:Value).ownBlock)))) (n:=t245.length) (c:=co29) ?_).2.2;exact(by(with_reducible repeat (first|apply Kd.R_alloc|apply Kd.R_drewN|apply Kd.R_drew));exact(Kd.R_mono (Kd.R_far (p:=⟨gb293,2,none⟩) (Kd.R_far (p:=⟨gb293,1,none⟩) (Kd.R_far (p:=⟨gb293,0,none⟩) (Kd.R_types HO_252000.out BK293.out (by decide)) (fun _ hk=>hk.2) (.slice Ao145 t287.length co145)) (fun _ hk=>hk.2) (.int .i64 t290)) (fun _ hk=>hk.2) (.bool t291)) (fun _ h_=>h_.1))));(case side4=>exact(Kd.R_reads' HO_252000.out).2.1);rintro e w174 ⟨rfl,hb⟩;refine⟨_,rfl,?_⟩;have n0_:=Aside0.mk (Kd.R_below (by(with_reducible repeat (first|apply Kd.R_alloc|apply Kd.R_drewN|apply Kd.R_drew));exact(Kd.R_mono (Kd.R_far (p:=⟨gb293,2,none⟩) (Kd.R_far (p:=⟨gb293,1,none⟩) (Kd.R_far (p:=⟨gb293,0,none⟩) (Kd.R_types HO_252000.out BK293.out (by decide)) (fun _ hk=>hk.2) (.slice Ao145 t287.length co145)) (fun _ hk=>hk.2) (.int .i64 t290)) (fun _ hk=>hk.2) (.bool t291)) (fun _ h_=>h_.1))) hb);have n1_:=Aside0.mk (Kd.R_below (by(with_reducible repeat (first|apply Kd.R_alloc|apply Kd.R_drewN|apply Kd.R_drew));exact(Kd.R_mono (Kd.R_far (p:=⟨gb293,2,none⟩) (Kd.R_far (p:=⟨gb293,1,none⟩) (Kd.R_far (p:=⟨gb293,0,none⟩) (Kd.R_types HO_258000.out BK293.out (by decide)) (fun _ hk=>hk.2) (.slice Ao145 t287.length co145)) (fun _ hk=>hk.2) (.int .i64 t290)) (fun _ hk=>hk.2) (.bool t291)) (fun _ h_=>h_.1))) hb);have n2_:=Aside0.mk (Kd.R_below (by(with_reducible repeat (first|apply Kd.R_alloc|apply Kd.R_drewN|apply Kd.R_drew));exact(Kd.R_mono (Kd.R_far (p:=⟨gb293,2,none⟩) (Kd.R_far (p:=⟨gb293,1,none⟩) (Kd.R_far (p:=⟨gb293,0,none⟩) (Kd.R_types HO_267000.out BK293.out (by decide)) (fun _ hk=>hk.2) (.slice Ao145 t287.length co145)) (fun _ hk=>hk.2) (.int .i64 t290)) (fun _ hk=>hk.2) (.bool t291)) (fun _ h_=>h_.1))) hb);have n3_:=Aside0.mk (Kd.R_below (by(with_reducible repeat (first|apply Kd.R_alloc|apply Kd.R_drewN|apply Kd.R_drew));exact(Kd.R_mono (Kd.R_far (p:=⟨gb293,2,none⟩) (Kd.R_far (p:=⟨gb293,1,none⟩) (Kd.R_far (p:=⟨gb293,0,none⟩) (Kd.R_types HO282.out BK293.out (by decide)) (fun _ hk=>hk.2) (.slice Ao145 t287.length co145)) (fun _ hk=>hk.2) (.int .i64 t290)) (fun _ hk=>hk.2) (.bool t291)) (fun _ h_=>h_.1))) hb);have n4_:=Aside0.mk (Kd.R_below (by(with_reducible repeat (first|apply Kd.R_alloc|apply Kd.R_drewN|apply Kd.R_drew));exact(Kd.R_mono (Kd.R_far (p:=⟨gb293,2,none⟩) (Kd.R_far (p:=⟨gb293,1,none⟩) (Kd.R_far (p:=⟨gb293,0,none⟩) (Kd.R_types HO289.out BK293.out (by decide)) (fun _ hk=>hk.2) (.slice Ao145 t287.length co145)) (fun _ hk=>hk.2) (.int .i64 t290)) (fun _ hk=>hk.2) (.bool t291)) (fun _ h_=>h_.1))) hb);have n5_:=Aside0.mk (blk_below (g:=gb235) (o:=.cells #[.slice A0_0 l0_0.length c0_0,.int .i64 a0_1,.bool a0_2] 35 (0,0)) (by(with_reducible repeat (first|refine blk_drewN ?_ _|refine blk_drew ?_|refine blk_alloc ?_ _));refine blk_far ?_ NB235_293.out _;(with_reducible repeat (first|refine blk_drewN ?_ _|refine blk_drew ?_|refine blk_alloc ?_ _));refine blk_far ?_ NB235_293.out _;(with_reducible repeat (first|refine blk_drewN ?_ _|refine blk_drew ?_|refine blk_alloc ?_ _));refine blk_far ?_ NB235_293.out _;(with_reducible repeat (first|refine blk_drewN ?_ _|refine blk_drew ?_|refine blk_alloc ?_ _));exact BK235.out) hb);have n6_:=Aside0.mk (blk_below (g:=gb236) (o:=.cells #[.int .i64 a1_0,.int .i64 a1_1] 57 (0,0)) (by(with_reducible repeat (first|refine blk_drewN ?_ _|refine blk_drew ?_|refine blk_alloc ?_ _));refine blk_far ?_ NB236_293.out _;(with_reducible repeat (first|refine blk_drewN ?_ _|refine blk_drew ?_|refine blk_alloc ?_ _));refine blk_far ?_ NB236_293.out _;(with_reducible repeat (first|refine blk_drewN ?_ _|refine blk_drew ?_|refine blk_alloc ?_ _));refine blk_far ?_ NB236_293.out _;(with_reducible repeat (first|refine blk_drewN ?_ _|refine blk_drew ?_|refine blk_alloc ?_ _));exact BK236.out) hb);have n7_:=Aside0.mk (blk_below (g:=gb251) (o:=.cells #[.slice Ao29 t245.length co29,.int .i64 t248,.bool t249] 39 (0,0)) (by(with_reducible repeat (first|refine blk_drewN ?_ _|refine blk_drew ?_|refine blk_alloc ?_ _));refine blk_far ?_ NB251_293.out _;(with_reducible repeat (first|refine blk_drewN ?_ _|refine blk_drew ?_|refine blk_alloc ?_ _));refine blk_far ?_ NB251_293.out _;(with_reducible repeat (first|refine blk_drewN ?_ _|refine blk_drew ?_|refine blk_alloc ?_ _));refine blk_far ?_ NB251_293.out _;(with_reducible repeat (first|refine blk_drewN ?_ _|refine blk_drew ?_|refine blk_alloc ?_ _));exact BK251.out) hb);have n8_:=Aside0.mk (blk_below (g:=gb257) (o:=.cells #[.slice Ao37 t275.length co37,.int .i64 t255,.bool t256] 39 (0,0)) (by(with_reducible repeat (first|refine blk_drewN ?_ _|refine blk_drew ?_|refine blk_alloc ?_ _));refine blk_far ?_ NB257_293.out _;(with_reducible repeat (first|refine blk_drewN ?_ _|refine blk_drew ?_|refine blk_alloc ?_ _));refine blk_far ?_ NB257_293.out _;(with_reducible repeat (first|refine blk_drewN ?_ _|refine blk_drew ?_|refine blk_alloc ?_ _));refine blk_far ?_ NB257_293.out _;(with_reducible repeat (first|refine blk_drewN ?_ _|refine blk_drew ?_|refine blk_alloc ?_ _));exact BK257.out) hb);have n9_:=Aside0.mk (blk_below (g:=gb266) (o:=.cells #[.slice Ao48 t260.length co48,.int .i64 t263,.bool t264] 39 (0,0)) (by(with_reducible repeat (first|refine blk_drewN ?_ _|refine blk_drew ?_|refine blk_alloc ?_ _));refine blk_far ?_ NB266_293.out _;(with_reducible repeat (first|refine blk_drewN ?_ _|refine blk_drew ?_|refine blk_alloc ?_ _));refine blk_far ?_ NB266_293.out _;(with_reducible repeat (first|refine blk_drewN ?_ _|refine blk_drew ?_|refine blk_alloc ?_ _));refine blk_far ?_ NB266_293.out _;(with_reducible repeat (first|refine blk_drewN ?_ _|refine blk_drew ?_|refine blk_alloc ?_ _));exact BK266.out) hb);have n10_:=Aside0.mk (blk_below (g:=gb293) (o:=.cells #[.slice Ao145 t287.length co145,.int .i64 t290,.bool t291] 39 (0,0)) (by(with_reducible repeat (first|refine blk_drewN ?_ _|refine blk_drew ?_|refine blk_alloc ?_ _));refine blk_put (cs:=#[.slice Ao145 t287.length co145,.int .i64 t290,.bool false]) ?_ 2 _ rfl;(with_reducible repeat (first|refine blk_drewN ?_ _|refine blk_drew ?_|refine blk_alloc ?_ _));refine blk_put (cs:=#[.slice Ao145 t287.length co145,.int .i64 0,.bool false]) ?_ 1 _ rfl;(with_reducible repeat (first|refine blk_drewN ?_ _|refine blk_drew ?_|refine blk_alloc ?_ _));refine blk_put (cs:=#[.slice none 0 0,.int .i64 0,.bool false]) ?_ 0 _ rfl;(with_reducible repeat (first|refine blk_drewN ?_ _|refine blk_drew ?_|refine blk_alloc ?_ _));exact BK293.out) hb);have n11_:=Aside0.mk (below_step (bS6 GE235.out GE236.out GE251.out GE257.out GE266.out GE293.out) hb);clear HO_252000 HO_258000 HO_267000 HO282 HO289 BK235 BK236 BK251 BK257 BK266 BK293 HB;have HO_252000:=n0_;have HO_258000:=n1_;have HO_267000:=n2_;have HO282:=n3_;have HO289:=n4_;have BK235:=n5_;have BK236:=n6_;have BK251:=n7_;have BK257:=n8_;have BK266:=n9_;have BK293:=n10_;have HB:=n11_;clear n0_ n1_ n2_ n3_ n4_ n5_ n6_ n7_ n8_ n9_ n10_ n11_;(try clear hb);(try clear hb2);(try clear hk);(try clear hi)))
             go_meet
             case rel=>exact⟨_,(true),(bR),H',⟨by have:=HJ15.out;have:=HJ78.out;first|omega|exact Nat.le_refl _⟩,⟨by(try simp only[hl258000_78]);(with_reducible repeat (first|apply Kd.R_alloc|apply Kd.R_drewN|apply Kd.R_drew));exact Kd.R_mono HO_252000.out (fun _ hk=>⟨hk.2.2.1,⟨hk.2.2.2,hk.2.1⟩⟩)⟩,⟨by(try simp only[hl258000_78]);(with_reducible repeat (first|apply Kd.R_alloc|apply Kd.R_drewN|apply Kd.R_drew));exact Kd.R_mono HO_258000.out (fun _ hk=>⟨hk.2.2.1,⟨hk.2.2.2,hk.2.1⟩⟩)⟩,⟨by(try simp only[hl258000_78]);(with_reducible repeat (first|apply Kd.R_alloc|apply Kd.R_drewN|apply Kd.R_drew));exact Kd.R_mono HO_267000.out (fun _ hk=>⟨hk.2.2.1,⟨hk.2.2.2,hk.2.1⟩⟩)⟩,⟨by(try simp only[hl258000_78]);(with_reducible repeat (first|apply Kd.R_alloc|apply Kd.R_drewN|apply Kd.R_drew));exact Kd.R_mono HO289.out (fun _ hk=>⟨hk.2.1,⟨hk.2.2.1,hk.2.2.2⟩⟩)⟩,⟨by(try simp only[hl258000_78]);(with_reducible repeat (first|refine blk_drewN ?_ _|refine blk_drew ?_|refine blk_alloc ?_ _));exact BK235.out⟩,⟨by(try simp only[hl258000_78]);(with_reducible repeat (first|refine blk_drewN ?_ _|refine blk_drew ?_|refine blk_alloc ?_ _));exact BK236.out⟩,⟨by(try simp only[hl258000_78]);(with_reducible repeat (first|refine blk_drewN ?_ _|refine blk_drew ?_|refine blk_alloc ?_ _));exact BK251.out⟩,⟨by(try simp only[hl258000_78]);(with_reducible repeat (first|refine blk_drewN ?_ _|refine blk_drew ?_|refine blk_alloc ?_ _));exact BK257.out⟩,⟨by(try simp only[hl258000_78]);(with_reducible repeat (first|refine blk_drewN ?_ _|refine blk_drew ?_|refine blk_alloc ?_ _));exact BK266.out⟩,⟨by(try simp only[hl258000_78]);(with_reducible repeat (first|refine blk_drewN ?_ _|refine blk_drew ?_|refine blk_alloc ?_ _));exact BK293.out⟩,⟨bS6 GE235.out GE236.out GE251.out GE257.out GE266.out GE293.out⟩⟩
           case rest =>
            clear HC129
            try clear c1
            try clear c2
            try clear p2
            try clear c3
            try clear c15
            try clear c16
            try clear c17
            try clear c22
            try clear c25
            try clear c38
            try clear c39
            try clear c150
            try clear c151
            try clear c152
            try clear c153
            try clear c154
            try clear c155
            try clear c157
            try clear c158
            try clear c159
            try clear c160
            try clear c163
            try clear c164
            try clear c165
            try clear c166
            try clear c167
            try clear c169
            try clear c170
            try clear c171
            try clear c172
            try clear hcz156_0
            try clear hcz156_1
            try clear hcz156_2
            try clear hcz161_0
            try clear hcz161_1
            try clear hcz161_2
            try clear hcz168_0
            try clear hcz168_1
            try clear hcz168_2
            try clear hcz173_0
            try clear hcz173_1
            try clear hcz173_2
            try clear hfz156_0
            try clear hfz156_1
            try clear hfz156_2
            try clear hfz161_0
            try clear hfz161_1
            try clear hfz161_2
            try clear hfz168_0
            try clear hfz168_1
            try clear hfz168_2
            try clear hfz173_0
            try clear hfz173_1
            try clear hfz173_2
            obtain⟨kq,x95_128,rfl,HA,HJ128,HO_252000,HO_258000,HO_267000,HO_294000,BK235,BK236,BK251,BK257,BK266,BK293,HB⟩:=hcut
            have hl267000_128:=(Kd.R_reads' HO_267000.out).1
            rw[hl267000_128] at HO_267000
            (try simp only[hl267000_128])
            (try simp only[hl267000_128] at BK235)
            (try simp only[hl267000_128] at BK236)
            (try simp only[hl267000_128] at BK251)
            (try simp only[hl267000_128] at BK257)
            (try simp only[hl267000_128] at BK266)
            (try simp only[hl267000_128] at BK293)
            (try simp only[hl267000_128] at HO_252000)
            (try simp only[hl267000_128] at HO_258000)
            (try simp only[hl267000_128] at HO_294000)
            cases kq with
            | zero=>exact absurd HA.out (by simp[laws_FnExactMeetBoth.j2])
            | succ kj128 =>
             have H:=HA.out
             clear HA
             simp only[laws_FnExactMeetBoth.j2] at H
             by_cases c175:x95_128=true
             ·subst c175
              have H1:(some false)=some r:=by rw[if_pos rfl] at H;exact H
              clear H
              have H:=H1
              clear H1
              obtain rfl:=Option.some.inj H
              go_wp2
              go_ret
              exact⟨bE,bS6 GE235.out GE236.out GE251.out GE257.out GE266.out GE293.out⟩
             ·replace c175:=Bool.eq_false_iff.mpr c175
              subst c175
              have H1:((laws_heldSpray.f kj128 t278 t263 t264 1).bind fun t295=>(if t295 < 0 then (some false) else (if t295=t277 then (some true) else (some false))))=some r:=by rw[if_neg (show ¬ (false=true) by decide)] at H;exact H
              clear H
              have H:=H1
              clear H1
              replace H:=Option.bind_eq_some_iff.mp H
              obtain⟨t295,A1760,H⟩:=H
              have A176:=Aside0.mk A1760
              clear A1760
              by_cases c177:t295 < 0
              ·rw[if_pos c177] at H
               have c177b0:decide (t295 < 0)=true:=decide_eq_true c177
               clear c177
               obtain rfl:=Option.some.inj H
               have hnb178:=NB266_235.out
               have hnc178:=NB235_266.out
               have hnb179:=NB266_236.out
               have hnc179:=NB236_266.out
               have hnb180:=NB266_251.out
               have hnc180:=NB251_266.out
               have hnb181:=NB266_257.out
               have hnc181:=NB257_266.out
               have hnb182:=NB266_293.out
               have hnc182:=NB293_266.out
               obtain⟨hcz183_0,hcz183_1,hcz183_2⟩:=cC3 BK266.out
               obtain⟨hfz183_0,hfz183_1,hfz183_2⟩:=cF3 BK266.out
               go_wp2_with (first|((with_reducible refine gate_callee (f:=40) rfl ?_);refine goesA (some 98) rfl rfl Try.func40 #[.agg #[.slice Ao48 t278.length co48,.int .i64 t263,.bool t264],.int .i64 1] rfl ?_;(with_reducible refine(laws_heldSpray.calls kj128 _ _ t278 t263 t264 1 t295 _ ?side1 ?side2 A176.out).mono ?_);(case side1=>exact bT HO_267000.out);(case side2=>exact(Kd.R_reads' HO_267000.out).2.1);rintro e w184 ⟨rfl,hb⟩;refine⟨_,rfl,?_⟩;have n0_:=Aside0.mk (Kd.R_below (bK HO_252000.out) hb);have n1_:=Aside0.mk (Kd.R_below (bK HO_258000.out) hb);have n2_:=Aside0.mk (Kd.R_below (bK HO_267000.out) hb);have n3_:=Aside0.mk (Kd.R_below (bK HO_294000.out) hb);have n4_:=Aside0.mk (bM BK235.out hb);have n5_:=Aside0.mk (bM BK236.out hb);have n6_:=Aside0.mk (bM BK251.out hb);have n7_:=Aside0.mk (bM BK257.out hb);have n8_:=Aside0.mk (bM BK266.out hb);have n9_:=Aside0.mk (bM BK293.out hb);have n10_:=Aside0.mk (below_step (bS6 GE235.out GE236.out GE251.out GE257.out GE266.out GE293.out) hb);clear HO_252000 HO_258000 HO_267000 HO_294000 BK235 BK236 BK251 BK257 BK266 BK293 HB;have HO_252000:=n0_;have HO_258000:=n1_;have HO_267000:=n2_;have HO_294000:=n3_;have BK235:=n4_;have BK236:=n5_;have BK251:=n6_;have BK257:=n7_;have BK266:=n8_;have BK293:=n9_;have HB:=n10_;clear n0_ n1_ n2_ n3_ n4_ n5_ n6_ n7_ n8_ n9_ n10_;(try clear hb);(try clear hb2);(try clear hk);(try clear hi)))
               go_ret
               exact⟨bE,bS6 GE235.out GE236.out GE251.out GE257.out GE266.out GE293.out⟩
              ·rw[if_neg c177] at H
               have c177b0:decide (t295 < 0)=false:=decide_eq_false c177
               clear c177
               by_cases c185:t295=t277
               ·rw[if_pos c185] at H
                have c185b0:(t295 == t277)=true:=beq_iff_eq.mpr c185
                have c185b1:(t295 != t277)=false:=bne_eq_false_iff_eq.mpr c185
                clear c185
                obtain rfl:=Option.some.inj H
                have hnb186:=NB266_235.out
                have hnc186:=NB235_266.out
                have hnb187:=NB266_236.out
                have hnc187:=NB236_266.out
                have hnb188:=NB266_251.out
                have hnc188:=NB251_266.out
                have hnb189:=NB266_257.out
                have hnc189:=NB257_266.out
                have hnb190:=NB266_293.out
                have hnc190:=NB293_266.out
                obtain⟨hcz191_0,hcz191_1,hcz191_2⟩:=cC3 BK266.out
                obtain⟨hfz191_0,hfz191_1,hfz191_2⟩:=cF3 BK266.out
                go_wp2_with (first|((with_reducible refine gate_callee (f:=40) rfl ?_);refine goesA (some 98) rfl rfl Try.func40 #[.agg #[.slice Ao48 t278.length co48,.int .i64 t263,.bool t264],.int .i64 1] rfl ?_;(with_reducible refine(laws_heldSpray.calls kj128 _ _ t278 t263 t264 1 t295 _ ?side1 ?side2 A176.out).mono ?_);(case side1=>exact bT HO_267000.out);(case side2=>exact(Kd.R_reads' HO_267000.out).2.1);rintro e w192 ⟨rfl,hb⟩;refine⟨_,rfl,?_⟩;have n0_:=Aside0.mk (Kd.R_below (bK HO_252000.out) hb);have n1_:=Aside0.mk (Kd.R_below (bK HO_258000.out) hb);have n2_:=Aside0.mk (Kd.R_below (bK HO_267000.out) hb);have n3_:=Aside0.mk (Kd.R_below (bK HO_294000.out) hb);have n4_:=Aside0.mk (bM BK235.out hb);have n5_:=Aside0.mk (bM BK236.out hb);have n6_:=Aside0.mk (bM BK251.out hb);have n7_:=Aside0.mk (bM BK257.out hb);have n8_:=Aside0.mk (bM BK266.out hb);have n9_:=Aside0.mk (bM BK293.out hb);have n10_:=Aside0.mk (below_step (bS6 GE235.out GE236.out GE251.out GE257.out GE266.out GE293.out) hb);clear HO_252000 HO_258000 HO_267000 HO_294000 BK235 BK236 BK251 BK257 BK266 BK293 HB;have HO_252000:=n0_;have HO_258000:=n1_;have HO_267000:=n2_;have HO_294000:=n3_;have BK235:=n4_;have BK236:=n5_;have BK251:=n6_;have BK257:=n7_;have BK266:=n8_;have BK293:=n9_;have HB:=n10_;clear n0_ n1_ n2_ n3_ n4_ n5_ n6_ n7_ n8_ n9_ n10_;(try clear hb);(try clear hb2);(try clear hk);(try clear hi)))
                go_ret
                exact⟨bE,bS6 GE235.out GE236.out GE251.out GE257.out GE266.out GE293.out⟩
               ·rw[if_neg c185] at H
                have c185b0:(t295 == t277)=false:=beq_eq_false_iff_ne.mpr c185
                have c185b1:(t295 != t277)=true:=bne_iff_ne.mpr c185
                obtain rfl:=Option.some.inj H
                have hnb193:=NB266_235.out
                have hnc193:=NB235_266.out
                have hnb194:=NB266_236.out
                have hnc194:=NB236_266.out
                have hnb195:=NB266_251.out
                have hnc195:=NB251_266.out
                have hnb196:=NB266_257.out
                have hnc196:=NB257_266.out
                have hnb197:=NB266_293.out
                have hnc197:=NB293_266.out
                obtain⟨hcz198_0,hcz198_1,hcz198_2⟩:=cC3 BK266.out
                obtain⟨hfz198_0,hfz198_1,hfz198_2⟩:=cF3 BK266.out
                go_wp2_with (first|((with_reducible refine gate_callee (f:=40) rfl ?_);refine goesA (some 98) rfl rfl Try.func40 #[.agg #[.slice Ao48 t278.length co48,.int .i64 t263,.bool t264],.int .i64 1] rfl ?_;(with_reducible refine(laws_heldSpray.calls kj128 _ _ t278 t263 t264 1 t295 _ ?side1 ?side2 A176.out).mono ?_);(case side1=>exact bT HO_267000.out);(case side2=>exact(Kd.R_reads' HO_267000.out).2.1);rintro e w199 ⟨rfl,hb⟩;refine⟨_,rfl,?_⟩;have n0_:=Aside0.mk (Kd.R_below (bK HO_252000.out) hb);have n1_:=Aside0.mk (Kd.R_below (bK HO_258000.out) hb);have n2_:=Aside0.mk (Kd.R_below (bK HO_267000.out) hb);have n3_:=Aside0.mk (Kd.R_below (bK HO_294000.out) hb);have n4_:=Aside0.mk (bM BK235.out hb);have n5_:=Aside0.mk (bM BK236.out hb);have n6_:=Aside0.mk (bM BK251.out hb);have n7_:=Aside0.mk (bM BK257.out hb);have n8_:=Aside0.mk (bM BK266.out hb);have n9_:=Aside0.mk (bM BK293.out hb);have n10_:=Aside0.mk (below_step (bS6 GE235.out GE236.out GE251.out GE257.out GE266.out GE293.out) hb);clear HO_252000 HO_258000 HO_267000 HO_294000 BK235 BK236 BK251 BK257 BK266 BK293 HB;have HO_252000:=n0_;have HO_258000:=n1_;have HO_267000:=n2_;have HO_294000:=n3_;have BK235:=n4_;have BK236:=n5_;have BK251:=n6_;have BK257:=n7_;have BK266:=n8_;have BK293:=n9_;have HB:=n10_;clear n0_ n1_ n2_ n3_ n4_ n5_ n6_ n7_ n8_ n9_ n10_;(try clear hb);(try clear hb2);(try clear hk);(try clear hi)))
                go_ret
                exact⟨bE,bS6 GE235.out GE236.out GE251.out GE257.out GE266.out GE293.out⟩
          ·rw[if_neg c125] at H
           have c125b0:(t279 == t277)=false:=beq_eq_false_iff_ne.mpr c125
           have c125b1:(t279 != t277)=true:=bne_iff_ne.mpr c125
           obtain rfl:=Option.some.inj H
           have hnb200:=NB266_235.out
           have hnc200:=NB235_266.out
           have hnb201:=NB266_236.out
           have hnc201:=NB236_266.out
           have hnb202:=NB266_251.out
           have hnc202:=NB251_266.out
           have hnb203:=NB266_257.out
           have hnc203:=NB257_266.out
           obtain⟨hcz204_0,hcz204_1,hcz204_2⟩:=cC3 BK266.out
           obtain⟨hfz204_0,hfz204_1,hfz204_2⟩:=cF3 BK266.out
           go_wp2_with (first|((with_reducible refine gate_callee (f:=26) rfl ?_);refine goesA (some 70) rfl rfl Try.func26 #[.agg #[.slice Ao48 t260.length co48,.int .i64 t263,.bool t264],.int .i64 1] rfl ?_;(with_reducible refine(laws_markSpray.calls kj78 (fun k_=>some k_=(.slice Ao48 t260.length co48:Value).ownBlock) (.slice Ao48 t260.length co48) t260 t263 t264 1 t277 t278 w _ ?side1 ?side2 A114.out).mono ?_);(case side1=>repeat (first|(with_reducible first|exact HB.out|apply below_alloc|apply pw_below_drewN|apply below_drew1|refine below_set ?_ GE235.out|refine below_set ?_ GE236.out|refine below_set ?_ GE251.out|refine below_set ?_ GE257.out|refine below_set ?_ GE266.out)|exact HB.out));(case side2=>exact Kd.R_tight rfl HO_267000.out);rintro e w205 ⟨rfl,hy0,hb,hkp⟩;refine⟨_,rfl,?_⟩;have n0_:=Aside0.mk (Kd.R_mono (ok':=fun k_=>some k_≠(.slice Ao37 t275.length co37:Value).ownBlock∧some k_≠(.slice Ao48 t260.length co48:Value).ownBlock) (Kd.R_keptB (HO_252000.out) hkp (fun k_ hk_ hs_=>(hk_.2) hs_)) (fun k_ hk_=>⟨hk_.1.1,hk_.1.2⟩));have n1_:=Aside0.mk (Kd.R_mono (ok':=fun k_=>some k_≠(.slice Ao29 t245.length co29:Value).ownBlock∧some k_≠(.slice Ao48 t260.length co48:Value).ownBlock) (Kd.R_keptB (HO_258000.out) hkp (fun k_ hk_ hs_=>(hk_.2) hs_)) (fun k_ hk_=>⟨hk_.1.1,hk_.1.2⟩));have n2_:=Aside0.mk (Kd.R_reok rfl hy0 (fun k_ e_=>HO_267000.out.1 k_ e_));have n3_:=Aside0.mk (blk_kept (bL BK235.out) hkp (fun hs_=>(fun e_=>(Kd.R_ne HO_267000.out BK235.out (by decide)) e_) hs_));have n4_:=Aside0.mk (blk_kept (bL BK236.out) hkp (fun hs_=>(fun e_=>(Kd.R_ne HO_267000.out BK236.out (by decide)) e_) hs_));have n5_:=Aside0.mk (blk_kept (bL BK251.out) hkp (fun hs_=>(fun e_=>(Kd.R_ne HO_267000.out BK251.out (by decide)) e_) hs_));have n6_:=Aside0.mk (blk_kept (bL BK257.out) hkp (fun hs_=>(fun e_=>(Kd.R_ne HO_267000.out BK257.out (by decide)) e_) hs_));have n7_:=Aside0.mk (blk_kept (bL BK266.out) hkp (fun hs_=>(fun e_=>(Kd.R_ne HO_267000.out BK266.out (by decide)) e_) hs_));have n8_:=Aside0.mk (hb);clear HO_252000 HO_258000 HO_267000 BK235 BK236 BK251 BK257 BK266 HB;have HO_252000:=n0_;have HO_258000:=n1_;have HO_267000:=n2_;have BK235:=n3_;have BK236:=n4_;have BK251:=n5_;have BK257:=n6_;have BK266:=n7_;have HB:=n8_;clear n0_ n1_ n2_ n3_ n4_ n5_ n6_ n7_ n8_;(try clear hb);(try clear hkp);(try clear hy0);obtain⟨hcz206_0,hcz206_1,hcz206_2⟩:=cC3 BK266.out;obtain⟨hfz206_0,hfz206_1,hfz206_2⟩:=cF3 BK266.out)|((with_reducible refine gate_callee (f:=40) rfl ?_);refine goesL_ (some 73) rfl rfl Try.func40 (by kernel_rfl) rfl #[.agg #[.slice Ao48 t278.length co48,.int .i64 t263,.bool t264],.int .i64 1] rfl (by(try simp only[List.map_toArray,List.map_cons,List.map_nil]);first|done|(rw[show t278.length=t260.length from (Kd.R_reads' HO_267000.out).1.symm]<;>rfl)|rfl|(simp only[List.length_drop,List.length_take];rfl)) ?_;(with_reducible refine(laws_heldSpray.calls kj78 _ _ t278 t263 t264 1 t279 _ ?side1 ?side2 A115.out).mono ?_);(case side1=>exact bT HO_267000.out);(case side2=>rw[show t278.length=t260.length from (Kd.R_reads' HO_267000.out).1.symm];exact(Kd.R_reads' HO_267000.out).2.1);rintro e w207 ⟨rfl,hb⟩;refine⟨_,rfl,?_⟩;have n0_:=Aside0.mk (Kd.R_below (bK HO_252000.out) hb);have n1_:=Aside0.mk (Kd.R_below (bK HO_258000.out) hb);have n2_:=Aside0.mk (Kd.R_below (bK HO_267000.out) hb);have n3_:=Aside0.mk (bM BK235.out hb);have n4_:=Aside0.mk (bM BK236.out hb);have n5_:=Aside0.mk (bM BK251.out hb);have n6_:=Aside0.mk (bM BK257.out hb);have n7_:=Aside0.mk (bM BK266.out hb);have n8_:=Aside0.mk (below_step (bS5 GE235.out GE236.out GE251.out GE257.out GE266.out) hb);clear HO_252000 HO_258000 HO_267000 BK235 BK236 BK251 BK257 BK266 HB;have HO_252000:=n0_;have HO_258000:=n1_;have HO_267000:=n2_;have BK235:=n3_;have BK236:=n4_;have BK251:=n5_;have BK257:=n6_;have BK266:=n7_;have HB:=n8_;clear n0_ n1_ n2_ n3_ n4_ n5_ n6_ n7_ n8_;(try clear hb);(try clear hb2);(try clear hk);(try clear hi)))
           go_ret
           exact⟨bE,bS5 GE235.out GE236.out GE251.out GE257.out GE266.out⟩
     ·replace c77:=Bool.eq_false_iff.mpr c77
      subst c77
      have H1:(some false)=some r:=by rw[if_neg (show ¬ (false=true) by decide)] at H;exact H
      clear H
      have H:=H1
      clear H1
      obtain rfl:=Option.some.inj H
      try go_wp2
      have n0_:=Aside0.mk (Kd.R_drew HO_252000.out)
      have n1_:=Aside0.mk (Kd.R_drew HO_258000.out)
      have n2_:=Aside0.mk (Kd.R_drew HO_267000.out)
      have n3_:=Aside0.mk (blk_drew BK235.out)
      have n4_:=Aside0.mk (blk_drew BK236.out)
      have n5_:=Aside0.mk (blk_drew BK251.out)
      have n6_:=Aside0.mk (blk_drew BK257.out)
      have n7_:=Aside0.mk (blk_drew BK266.out)
      have n8_:=Aside0.mk (below_drew1 HB.out)
      clear HO_252000 HO_258000 HO_267000 BK235 BK236 BK251 BK257 BK266 HB
      have HO_252000:=n0_
      have HO_258000:=n1_
      have HO_267000:=n2_
      have BK235:=n3_
      have BK236:=n4_
      have BK251:=n5_
      have BK257:=n6_
      have BK266:=n7_
      have HB:=n8_
      clear n0_ n1_ n2_ n3_ n4_ n5_ n6_ n7_ n8_
      refine start_ (n:=5) (S:=fun w'=>w'.cell? ⟨gb257,0,none⟩=some (.slice Ao37 t252.length co37)∧w'.cell? ⟨gb257,1,none⟩=some (.int .i64 t255)∧w'.cell? ⟨gb257,2,none⟩=some (.bool t256)∧w'.cell? ⟨gb235,0,none⟩=some (.slice A0_0 l0_0.length c0_0)∧w'.cell? ⟨gb235,1,none⟩=some (.int .i64 a0_1)∧w'.cell? ⟨gb235,2,none⟩=some (.bool a0_2)) (ds:=[]) #[false,false,false,false,false] (by kernel_rfl) rfl rfl ⟨(blk_cell BK257.out 0).trans rfl,(blk_cell BK257.out 1).trans rfl,(blk_cell BK257.out 2).trans rfl,(blk_cell BK235.out 0).trans rfl,(blk_cell BK235.out 1).trans rfl,(blk_cell BK235.out 2).trans rfl⟩ (fun hHeld => ?_)
      generalize wc.drew=w208 at HO_252000 HO_258000 HO_267000 BK235 BK236 BK251 BK257 BK266 HB hHeld ⊢
      refine take_ (i:=0) (N:=some 47) (v:=?_) (a':=?_) #[true,false,false,false,false] rfl rfl (by kernel_rfl) (fun _ _ _ h=>h) (Or.inl ⟨by rfl,?_⟩) hHeld ?_ ?_
      rotate_left
      ·rintro w' ⟨s0,s1,s2,s3,s4,s5⟩
       go_simp
       with_reducible rfl
      rotate_left
      ·simp only[Act.put,List.setIfInBounds_toArray,List.set_cons_zero,List.set_cons_succ,i64_w,i32_w]
       rfl
      refine take_ (i:=1) (N:=some 48) (v:=?_) (a':=?_) #[true,true,false,false,false] rfl rfl (by kernel_rfl) (fun _ _ _ h=>h) (Or.inl ⟨by rfl,?_⟩) hHeld ?_ ?_
      rotate_left
      ·rintro w' ⟨s0,s1,s2,s3,s4,s5⟩
       go_simp
       with_reducible rfl
      rotate_left
      ·simp only[Act.put,List.setIfInBounds_toArray,List.set_cons_zero,List.set_cons_succ,i64_w,i32_w]
       rfl
      refine one_ (i:=2) (N:=some 49) #[true,true,true,false,false] rfl rfl (by kernel_rfl) (by decide) (fun K hK => ?_)
      refine goes_ Try.func22 (by kernel_rfl) rfl #[.agg #[.slice A0_0 l0_0.length c0_0,.int .i64 a0_1,.bool a0_2]] (by rfl) rfl rfl (by(try simp only[List.map_toArray,List.map_cons,List.map_nil]);first|done|rfl|(simp only[List.length_drop,List.length_take];rfl)) ?_
      with_reducible refine(laws_toSpray.calls kj15 _ _ l0_0 a0_1 a0_2 t268 t271 t272 _ ?side1 ?side2 A75.out).mono ?_
      (case side1=>exact bC HR0_0.out)
      (case side2=>exact HC0_0.out)
      rintro e w209 ⟨v269,rfl,ho0,hb⟩
      refine⟨_,rfl,?_⟩
      have n0_:=Aside0.mk (Kd.R_elder' (bK HO_252000.out) (Kd.R_base ho0) hb)
      have n1_:=Aside0.mk (Kd.R_elder' (bK HO_258000.out) (Kd.R_base ho0) hb)
      have n2_:=Aside0.mk (Kd.R_elder' (bK HO_267000.out) (Kd.R_base ho0) hb)
      have n3_:=Aside0.mk (Kd.R_lower (Kd.R_new' (Kd.R_new' (Kd.R_new' ho0 (Kd.R_lt (bK HO_252000.out))) (Kd.R_lt (bK HO_258000.out))) (Kd.R_lt (bK HO_267000.out))) (below_size (bS5 GE235.out GE236.out GE251.out GE257.out GE266.out)))
      have n4_:=Aside0.mk (bM BK235.out hb)
      have n5_:=Aside0.mk (bM BK236.out hb)
      have n6_:=Aside0.mk (bM BK251.out hb)
      have n7_:=Aside0.mk (bM BK257.out hb)
      have n8_:=Aside0.mk (bM BK266.out hb)
      have n9_:=Aside0.mk (below_step (bS5 GE235.out GE236.out GE251.out GE257.out GE266.out) hb)
      clear HO_252000 HO_258000 HO_267000 BK235 BK236 BK251 BK257 BK266 HB
      have HO_252000:=n0_
      have HO_258000:=n1_
      have HO_267000:=n2_
      have HO270:=n3_
      have BK235:=n4_
      have BK236:=n5_
      have BK251:=n6_
      have BK257:=n7_
      have BK266:=n8_
      have HB:=n9_
      clear n0_ n1_ n2_ n3_ n4_ n5_ n6_ n7_ n8_ n9_
      (try clear hb)
      (try clear hb2)
      (try clear hk)
      (try clear hi)
      (try clear ho0)
      obtain⟨Ao210,co210,eo210⟩:=Kd.R_slice HO270.out
      (first|subst eo210|(injection eo210 with f1_ f2_ f3_;have f4_:=f1_.symm;have f5_:=f3_.symm;clear f1_ f2_ f3_;subst f4_;subst f5_))
      refine hK.out _ _ ⟨(blk_cell BK257.out 0).trans rfl,(blk_cell BK257.out 1).trans rfl,(blk_cell BK257.out 2).trans rfl,(blk_cell BK235.out 0).trans rfl,(blk_cell BK235.out 1).trans rfl,(blk_cell BK235.out 2).trans rfl⟩ (fun hHeld => ?_)
      clear hK K
      refine norm_ (a':=?_) ?_ ?_
      rotate_left
      ·show Act.put _ (some 49) _=_
       simp only[Act.put,List.setIfInBounds_toArray,List.set_cons_zero,List.set_cons_succ,i64_w,i32_w]
       rfl
      refine one_ (i:=3) (N:=some 50) #[true,true,true,true,false] rfl rfl (by kernel_rfl) (by decide) (fun K hK => ?_)
      refine goes_ Try.func25 (by kernel_rfl) rfl #[.agg #[.slice Ao37 t252.length co37,.int .i64 t255,.bool t256],.agg #[.slice Ao210 t268.length co210,.int .i64 t271,.bool t272]] (by rfl) rfl rfl (by(try simp only[List.map_toArray,List.map_cons,List.map_nil]);first|done|rfl|(simp only[List.length_drop,List.length_take];rfl)) ?_
      with_reducible refine(laws_eqSpray.calls kj15 _ _ t252 t255 t256 _ _ t268 t271 t272 false _ ?side1 ?side2 ?side3 ?side4 A76.out).mono ?_
      (case side1=>exact bT HO_258000.out)
      (case side2=>exact(Kd.R_reads' HO_258000.out).2.1)
      (case side3=>exact bT HO270.out)
      (case side4=>exact(Kd.R_reads' HO270.out).2.1)
      rintro e w211 ⟨rfl,hb⟩
      refine⟨_,rfl,?_⟩
      have n0_:=Aside0.mk (Kd.R_below (bK HO_252000.out) hb)
      have n1_:=Aside0.mk (Kd.R_below (bK HO_258000.out) hb)
      have n2_:=Aside0.mk (Kd.R_below (bK HO_267000.out) hb)
      have n3_:=Aside0.mk (Kd.R_below (bK HO270.out) hb)
      have n4_:=Aside0.mk (bM BK235.out hb)
      have n5_:=Aside0.mk (bM BK236.out hb)
      have n6_:=Aside0.mk (bM BK251.out hb)
      have n7_:=Aside0.mk (bM BK257.out hb)
      have n8_:=Aside0.mk (bM BK266.out hb)
      have n9_:=Aside0.mk (below_step (bS5 GE235.out GE236.out GE251.out GE257.out GE266.out) hb)
      clear HO_252000 HO_258000 HO_267000 HO270 BK235 BK236 BK251 BK257 BK266 HB
      have HO_252000:=n0_
      have HO_258000:=n1_
      have HO_267000:=n2_
      have HO270:=n3_
      have BK235:=n4_
      have BK236:=n5_
      have BK251:=n6_
      have BK257:=n7_
      have BK266:=n8_
      have HB:=n9_
      clear n0_ n1_ n2_ n3_ n4_ n5_ n6_ n7_ n8_ n9_
      (try clear hb)
      (try clear hb2)
      (try clear hk)
      (try clear hi)
      refine hK.out _ _ ⟨(blk_cell BK257.out 0).trans rfl,(blk_cell BK257.out 1).trans rfl,(blk_cell BK257.out 2).trans rfl,(blk_cell BK235.out 0).trans rfl,(blk_cell BK235.out 1).trans rfl,(blk_cell BK235.out 2).trans rfl⟩ (fun hHeld => ?_)
      clear hK K
      refine norm_ (a':=?_) ?_ ?_
      rotate_left
      ·show Act.put _ (some 50) _=_
       simp only[Act.put,List.setIfInBounds_toArray,List.set_cons_zero,List.set_cons_succ,i64_w,i32_w]
       rfl
      refine pure_ (i:=4) (N:=some 51) (v:=?_) (a':=?_) #[true,true,true,true,true] rfl rfl (by kernel_rfl) (fun _ _ _ h=>h) (Or.inl ⟨by rfl,?_⟩) ?_ ?_
      rotate_left
      ·intro w'
       go_simp
       with_reducible rfl
      rotate_left
      ·simp only[Act.put,List.setIfInBounds_toArray,List.set_cons_zero,List.set_cons_succ,i64_w,i32_w]
       rfl
      refine done_ (by kernel_rfl) ?_
      try go_wp2
      go_ret
      exact⟨bE,bS5 GE235.out GE236.out GE251.out GE257.out GE266.out⟩

end Go.Proofs.Ytnphabcbnpenjaa.XFnExactMeetBoth
