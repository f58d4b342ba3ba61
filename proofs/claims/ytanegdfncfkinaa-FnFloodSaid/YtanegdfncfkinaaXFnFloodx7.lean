-- Written by this session's own program (wip/xprint.py) out of the translation; Lean checks it.
import Derived.Test.YtanegdfncfkinaaXFnFloodx0
import Derived.Test.YtanegdfncfkinaaXFnFloodx5
import Derived.Test.YtanegdfncfkinaaXFnFloodx6
namespace Go.Proofs.Ytanegdfncfkinaa.XFnFlood
open Go.RowKit Go.Proofs.YtanegdfncfkinaaW.PrintWords Go.Proofs.YtanegdfncfkinaaW.PrintLast Go.Proofs.YtanegdfncfkinaaW.PrintMore
attribute [local go_sem] max2_int min2_int max_two min_two max_three min_three max_four min_four   -- for this text's walks alone
set_option linter.unusedVariables false
set_option linter.unusedSimpArgs false

/-! ### spec_FloodUntil: function 12 -/
mutual
def spec_FloodUntil.j0:Nat→List (S58)→Int→Int→Int→Bool→Option (List Int × Bool)
 | 0,_,_,_,_,_=>none
 | k+1,x0,x1,x2,x3,x37=>if x37=true then (some (([]:List Int),false)) else (spec_FloodUntil.l0 k x0 x1 x2 x3 ([]:List Int) 0)
def spec_FloodUntil.l0:Nat→List (S58)→Int→Int→Int→List Int→Int→Option (List Int × Bool)
 | 0,_,_,_,_,_,_=>none
 | k+1,x0,x1,x2,x3,x10,x11=>if x11 < 8 then (if x10.length < 17592186044416 then (spec_FloodUntil.l0 k x0 x1 x2 x3 (x10++[(-1)]) (wrap64 (x11+1))) else (none)) else (if 0≤x1 then (if x1 < (x10.length:Int) then (spec_FloodUntil.l1 k x0 x3 (x10.set (x1:Int).toNat x2) x2) else (none)) else (none))
def spec_FloodUntil.l1:Nat→List (S58)→Int→List Int→Int→Option (List Int × Bool)
 | 0,_,_,_,_=>none
 | k+1,x0,x3,x10,x12=>if x12≤x3 then (spec_FloodUntil.l2 k x0 x3 x10 x12 true) else (spec_FloodUntil.l4 k x3 ([]:List Int) x10 (x10.length:Int) 0)
def spec_FloodUntil.l2:Nat→List (S58)→Int→List Int→Int→Bool→Option (List Int × Bool)
 | 0,_,_,_,_,_=>none
 | k+1,x0,x3,x10,x12,x13=>if x13=true then (spec_FloodUntil.l3 k x0 x3 x10 x12 false x0 (x0.length:Int) 0) else (spec_FloodUntil.l1 k x0 x3 x10 (wrap64 (x12+1)))
def spec_FloodUntil.l3:Nat→List (S58)→Int→List Int→Int→Bool→List (S58)→Int→Int→Option (List Int × Bool)
 | 0,_,_,_,_,_,_,_,_=>none
 | k+1,x0,x3,x10,x12,x13,x56,x57,x58=>if x58 < x57 then (if 0≤x58 then (if x58 < (x56.length:Int) then (if 0≤((rd_T58 x56 x58).f0) then (if ((rd_T58 x56 x58).f0) < (x10.length:Int) then (if (rd x10 ((rd_T58 x56 x58).f0)) < 0 then (spec_FloodUntil.j5 k x0 x3 x10 x12 x13 x56 x57 x58 true ((rd_T58 x56 x58).f0) ((rd_T58 x56 x58).f1) ((rd_T58 x56 x58).f2) ((rd_T58 x56 x58).f3) ((rd_T58 x56 x58).f4)) else (if (rd x10 ((rd_T58 x56 x58).f0)) > x12 then (spec_FloodUntil.j5 k x0 x3 x10 x12 x13 x56 x57 x58 true ((rd_T58 x56 x58).f0) ((rd_T58 x56 x58).f1) ((rd_T58 x56 x58).f2) ((rd_T58 x56 x58).f3) ((rd_T58 x56 x58).f4)) else (if x12 < ((rd_T58 x56 x58).f2) then (spec_FloodUntil.j5 k x0 x3 x10 x12 x13 x56 x57 x58 true ((rd_T58 x56 x58).f0) ((rd_T58 x56 x58).f1) ((rd_T58 x56 x58).f2) ((rd_T58 x56 x58).f3) ((rd_T58 x56 x58).f4)) else (spec_FloodUntil.j5 k x0 x3 x10 x12 x13 x56 x57 x58 (decide (x12 ≥ ((rd_T58 x56 x58).f3))) ((rd_T58 x56 x58).f0) ((rd_T58 x56 x58).f1) ((rd_T58 x56 x58).f2) ((rd_T58 x56 x58).f3) ((rd_T58 x56 x58).f4))))) else (none)) else (none)) else (none)) else (none)) else (spec_FloodUntil.l2 k x0 x3 x10 x12 x13)
def spec_FloodUntil.j5:Nat→List (S58)→Int→List Int→Int→Bool→List (S58)→Int→Int→Bool→Int→Int→Int→Int→Int→Option (List Int × Bool)
 | 0,_,_,_,_,_,_,_,_,_,_,_,_,_,_=>none
 | k+1,x0,x3,x10,x12,x13,x56,x57,x58,x88,x267000,x267001,x267002,x267003,x267004=>if x88=true then (spec_FloodUntil.l3 k x0 x3 x10 x12 x13 x56 x57 (wrap64 (x58+1))) else (if 0≤x267001 then (if x267001 < (x10.length:Int) then (if (rd x10 x267001) < 0 then (spec_FloodUntil.l3 k x0 x3 (x10.set (x267001:Int).toNat (wrap64 (x12+x267004))) x12 true x56 x57 (wrap64 (x58+1))) else (if (wrap64 (x12+x267004)) < (rd x10 x267001) then (spec_FloodUntil.l3 k x0 x3 (x10.set (x267001:Int).toNat (wrap64 (x12+x267004))) x12 true x56 x57 (wrap64 (x58+1))) else (spec_FloodUntil.l3 k x0 x3 x10 x12 x13 x56 x57 (wrap64 (x58+1))))) else (none)) else (none))
def spec_FloodUntil.l4:Nat→Int→List Int→List Int→Int→Int→Option (List Int × Bool)
 | 0,_,_,_,_,_=>none
 | k+1,x3,x17,x114,x115,x116=>if x116 < x115 then (if 0≤x116 then (if x116 < (x114.length:Int) then (if (rd x114 x116) ≥ 0 then (if (rd x114 x116)≤x3 then (if x17.length < 17592186044416 then (spec_FloodUntil.l4 k x3 (x17++[x116]) x114 x115 (wrap64 (x116+1))) else (none)) else (spec_FloodUntil.l4 k x3 x17 x114 x115 (wrap64 (x116+1)))) else (spec_FloodUntil.l4 k x3 x17 x114 x115 (wrap64 (x116+1)))) else (none)) else (none)) else (some (x17,true))
end
def spec_FloodUntil.f (k:Nat) (l0:List (S58)) (a1:Int) (a2:Int) (a3:Int):Option (List Int × Bool):=(spec_GoodPlan.f k l0).bind fun t257=>(if t257=true then ((spec_l6Node.f a1).bind fun t258=>(if t258=true then ((spec_l6When.f a2).bind fun t259=>(if t259=true then ((spec_l6When.f a3).bind fun t260=>(spec_FloodUntil.j0 k l0 a1 a2 a3 (!t260))) else (spec_FloodUntil.j0 k l0 a1 a2 a3 true))) else (spec_FloodUntil.j0 k l0 a1 a2 a3 true))) else (spec_FloodUntil.j0 k l0 a1 a2 a3 true))
theorem spec_FloodUntil.mono_l : ∀ k,(∀ y0 y1 y2 y3 y4,LeO (spec_FloodUntil.j0 k y0 y1 y2 y3 y4) (spec_FloodUntil.j0 (k+1) y0 y1 y2 y3 y4))∧(∀ y0 y1 y2 y3 y4 y5,LeO (spec_FloodUntil.l0 k y0 y1 y2 y3 y4 y5) (spec_FloodUntil.l0 (k+1) y0 y1 y2 y3 y4 y5))∧(∀ y0 y1 y2 y3,LeO (spec_FloodUntil.l1 k y0 y1 y2 y3) (spec_FloodUntil.l1 (k+1) y0 y1 y2 y3))∧(∀ y0 y1 y2 y3 y4,LeO (spec_FloodUntil.l2 k y0 y1 y2 y3 y4) (spec_FloodUntil.l2 (k+1) y0 y1 y2 y3 y4))∧(∀ y0 y1 y2 y3 y4 y5 y6 y7,LeO (spec_FloodUntil.l3 k y0 y1 y2 y3 y4 y5 y6 y7) (spec_FloodUntil.l3 (k+1) y0 y1 y2 y3 y4 y5 y6 y7))∧(∀ y0 y1 y2 y3 y4 y5 y6 y7 y8 y9 y10 y11 y12 y13,LeO (spec_FloodUntil.j5 k y0 y1 y2 y3 y4 y5 y6 y7 y8 y9 y10 y11 y12 y13) (spec_FloodUntil.j5 (k+1) y0 y1 y2 y3 y4 y5 y6 y7 y8 y9 y10 y11 y12 y13))∧(∀ y0 y1 y2 y3 y4,LeO (spec_FloodUntil.l4 k y0 y1 y2 y3 y4) (spec_FloodUntil.l4 (k+1) y0 y1 y2 y3 y4))
 | 0=>⟨fun _ _ _ _ _ r h=>by simp[spec_FloodUntil.j0] at h,fun _ _ _ _ _ _ r h=>by simp[spec_FloodUntil.l0] at h,fun _ _ _ _ r h=>by simp[spec_FloodUntil.l1] at h,fun _ _ _ _ _ r h=>by simp[spec_FloodUntil.l2] at h,fun _ _ _ _ _ _ _ _ r h=>by simp[spec_FloodUntil.l3] at h,fun _ _ _ _ _ _ _ _ _ _ _ _ _ _ r h=>by simp[spec_FloodUntil.j5] at h,fun _ _ _ _ _ r h=>by simp[spec_FloodUntil.l4] at h⟩
 | k+1=>by
  obtain⟨ih0,ih1,ih2,ih3,ih4,ih5,ih6⟩:=spec_FloodUntil.mono_l k
  refine⟨?_,?_,?_,?_,?_,?_,?_⟩
  ·intro y0 y1 y2 y3 y4
   unfold spec_FloodUntil.j0
   repeat' first
   | (with_reducible exact ih0 _ _ _ _ _)
   | (with_reducible exact ih1 _ _ _ _ _ _)
   | (with_reducible exact ih2 _ _ _ _)
   | (with_reducible exact ih3 _ _ _ _ _)
   | (with_reducible exact ih4 _ _ _ _ _ _ _ _)
   | (with_reducible exact ih5 _ _ _ _ _ _ _ _ _ _ _ _ _ _)
   | (with_reducible exact ih6 _ _ _ _ _)
   | (with_reducible exact spec_GoodPlan.mono _ _)
   | (with_reducible exact LeO.refl _)
   | (with_reducible exact LeO.none _)
   | (with_reducible refine LeO.ite ?_ ?_)
   | (with_reducible refine LeO.bind ?_ (fun _ => ?_))
   | exact ih0 _ _ _ _ _
   | exact ih1 _ _ _ _ _ _
   | exact ih2 _ _ _ _
   | exact ih3 _ _ _ _ _
   | exact ih4 _ _ _ _ _ _ _ _
   | exact ih5 _ _ _ _ _ _ _ _ _ _ _ _ _ _
   | exact ih6 _ _ _ _ _
   | exact spec_GoodPlan.mono _ _
   | exact LeO.none _
   | refine LeO.ite ?_ ?_
   | refine LeO.bind ?_ (fun _ => ?_)
  ·intro y0 y1 y2 y3 y4 y5
   unfold spec_FloodUntil.l0
   repeat' first
   | (with_reducible exact ih0 _ _ _ _ _)
   | (with_reducible exact ih1 _ _ _ _ _ _)
   | (with_reducible exact ih2 _ _ _ _)
   | (with_reducible exact ih3 _ _ _ _ _)
   | (with_reducible exact ih4 _ _ _ _ _ _ _ _)
   | (with_reducible exact ih5 _ _ _ _ _ _ _ _ _ _ _ _ _ _)
   | (with_reducible exact ih6 _ _ _ _ _)
   | (with_reducible exact spec_GoodPlan.mono _ _)
   | (with_reducible exact LeO.refl _)
   | (with_reducible exact LeO.none _)
   | (with_reducible refine LeO.ite ?_ ?_)
   | (with_reducible refine LeO.bind ?_ (fun _ => ?_))
   | exact ih0 _ _ _ _ _
   | exact ih1 _ _ _ _ _ _
   | exact ih2 _ _ _ _
   | exact ih3 _ _ _ _ _
   | exact ih4 _ _ _ _ _ _ _ _
   | exact ih5 _ _ _ _ _ _ _ _ _ _ _ _ _ _
   | exact ih6 _ _ _ _ _
   | exact spec_GoodPlan.mono _ _
   | exact LeO.none _
   | refine LeO.ite ?_ ?_
   | refine LeO.bind ?_ (fun _ => ?_)
  ·intro y0 y1 y2 y3
   unfold spec_FloodUntil.l1
   repeat' first
   | (with_reducible exact ih0 _ _ _ _ _)
   | (with_reducible exact ih1 _ _ _ _ _ _)
   | (with_reducible exact ih2 _ _ _ _)
   | (with_reducible exact ih3 _ _ _ _ _)
   | (with_reducible exact ih4 _ _ _ _ _ _ _ _)
   | (with_reducible exact ih5 _ _ _ _ _ _ _ _ _ _ _ _ _ _)
   | (with_reducible exact ih6 _ _ _ _ _)
   | (with_reducible exact spec_GoodPlan.mono _ _)
   | (with_reducible exact LeO.refl _)
   | (with_reducible exact LeO.none _)
   | (with_reducible refine LeO.ite ?_ ?_)
   | (with_reducible refine LeO.bind ?_ (fun _ => ?_))
   | exact ih0 _ _ _ _ _
   | exact ih1 _ _ _ _ _ _
   | exact ih2 _ _ _ _
   | exact ih3 _ _ _ _ _
   | exact ih4 _ _ _ _ _ _ _ _
   | exact ih5 _ _ _ _ _ _ _ _ _ _ _ _ _ _
   | exact ih6 _ _ _ _ _
   | exact spec_GoodPlan.mono _ _
   | exact LeO.none _
   | refine LeO.ite ?_ ?_
   | refine LeO.bind ?_ (fun _ => ?_)
  ·intro y0 y1 y2 y3 y4
   unfold spec_FloodUntil.l2
   repeat' first
   | (with_reducible exact ih0 _ _ _ _ _)
   | (with_reducible exact ih1 _ _ _ _ _ _)
   | (with_reducible exact ih2 _ _ _ _)
   | (with_reducible exact ih3 _ _ _ _ _)
   | (with_reducible exact ih4 _ _ _ _ _ _ _ _)
   | (with_reducible exact ih5 _ _ _ _ _ _ _ _ _ _ _ _ _ _)
   | (with_reducible exact ih6 _ _ _ _ _)
   | (with_reducible exact spec_GoodPlan.mono _ _)
   | (with_reducible exact LeO.refl _)
   | (with_reducible exact LeO.none _)
   | (with_reducible refine LeO.ite ?_ ?_)
   | (with_reducible refine LeO.bind ?_ (fun _ => ?_))
   | exact ih0 _ _ _ _ _
   | exact ih1 _ _ _ _ _ _
   | exact ih2 _ _ _ _
   | exact ih3 _ _ _ _ _
   | exact ih4 _ _ _ _ _ _ _ _
   | exact ih5 _ _ _ _ _ _ _ _ _ _ _ _ _ _
   | exact ih6 _ _ _ _ _
   | exact spec_GoodPlan.mono _ _
   | exact LeO.none _
   | refine LeO.ite ?_ ?_
   | refine LeO.bind ?_ (fun _ => ?_)
  ·intro y0 y1 y2 y3 y4 y5 y6 y7
   unfold spec_FloodUntil.l3
   repeat' first
   | (with_reducible exact ih0 _ _ _ _ _)
   | (with_reducible exact ih1 _ _ _ _ _ _)
   | (with_reducible exact ih2 _ _ _ _)
   | (with_reducible exact ih3 _ _ _ _ _)
   | (with_reducible exact ih4 _ _ _ _ _ _ _ _)
   | (with_reducible exact ih5 _ _ _ _ _ _ _ _ _ _ _ _ _ _)
   | (with_reducible exact ih6 _ _ _ _ _)
   | (with_reducible exact spec_GoodPlan.mono _ _)
   | (with_reducible exact LeO.refl _)
   | (with_reducible exact LeO.none _)
   | (with_reducible refine LeO.ite ?_ ?_)
   | (with_reducible refine LeO.bind ?_ (fun _ => ?_))
   | exact ih0 _ _ _ _ _
   | exact ih1 _ _ _ _ _ _
   | exact ih2 _ _ _ _
   | exact ih3 _ _ _ _ _
   | exact ih4 _ _ _ _ _ _ _ _
   | exact ih5 _ _ _ _ _ _ _ _ _ _ _ _ _ _
   | exact ih6 _ _ _ _ _
   | exact spec_GoodPlan.mono _ _
   | exact LeO.none _
   | refine LeO.ite ?_ ?_
   | refine LeO.bind ?_ (fun _ => ?_)
  ·intro y0 y1 y2 y3 y4 y5 y6 y7 y8 y9 y10 y11 y12 y13
   unfold spec_FloodUntil.j5
   repeat' first
   | (with_reducible exact ih0 _ _ _ _ _)
   | (with_reducible exact ih1 _ _ _ _ _ _)
   | (with_reducible exact ih2 _ _ _ _)
   | (with_reducible exact ih3 _ _ _ _ _)
   | (with_reducible exact ih4 _ _ _ _ _ _ _ _)
   | (with_reducible exact ih5 _ _ _ _ _ _ _ _ _ _ _ _ _ _)
   | (with_reducible exact ih6 _ _ _ _ _)
   | (with_reducible exact spec_GoodPlan.mono _ _)
   | (with_reducible exact LeO.refl _)
   | (with_reducible exact LeO.none _)
   | (with_reducible refine LeO.ite ?_ ?_)
   | (with_reducible refine LeO.bind ?_ (fun _ => ?_))
   | exact ih0 _ _ _ _ _
   | exact ih1 _ _ _ _ _ _
   | exact ih2 _ _ _ _
   | exact ih3 _ _ _ _ _
   | exact ih4 _ _ _ _ _ _ _ _
   | exact ih5 _ _ _ _ _ _ _ _ _ _ _ _ _ _
   | exact ih6 _ _ _ _ _
   | exact spec_GoodPlan.mono _ _
   | exact LeO.none _
   | refine LeO.ite ?_ ?_
   | refine LeO.bind ?_ (fun _ => ?_)
  ·intro y0 y1 y2 y3 y4
   unfold spec_FloodUntil.l4
   repeat' first
   | (with_reducible exact ih0 _ _ _ _ _)
   | (with_reducible exact ih1 _ _ _ _ _ _)
   | (with_reducible exact ih2 _ _ _ _)
   | (with_reducible exact ih3 _ _ _ _ _)
   | (with_reducible exact ih4 _ _ _ _ _ _ _ _)
   | (with_reducible exact ih5 _ _ _ _ _ _ _ _ _ _ _ _ _ _)
   | (with_reducible exact ih6 _ _ _ _ _)
   | (with_reducible exact spec_GoodPlan.mono _ _)
   | (with_reducible exact LeO.refl _)
   | (with_reducible exact LeO.none _)
   | (with_reducible refine LeO.ite ?_ ?_)
   | (with_reducible refine LeO.bind ?_ (fun _ => ?_))
   | exact ih0 _ _ _ _ _
   | exact ih1 _ _ _ _ _ _
   | exact ih2 _ _ _ _
   | exact ih3 _ _ _ _ _
   | exact ih4 _ _ _ _ _ _ _ _
   | exact ih5 _ _ _ _ _ _ _ _ _ _ _ _ _ _
   | exact ih6 _ _ _ _ _
   | exact spec_GoodPlan.mono _ _
   | exact LeO.none _
   | refine LeO.ite ?_ ?_
   | refine LeO.bind ?_ (fun _ => ?_)
theorem spec_FloodUntil.mono : ∀ a0 a1 a2 a3 k,LeO (spec_FloodUntil.f k a0 a1 a2 a3) (spec_FloodUntil.f (k+1) a0 a1 a2 a3):=by
 intro a0 a1 a2 a3 k
 obtain⟨ih0,ih1,ih2,ih3,ih4,ih5,ih6⟩:=spec_FloodUntil.mono_l k
 unfold spec_FloodUntil.f
 repeat' first
  | (with_reducible exact ih0 _ _ _ _ _)
  | (with_reducible exact ih1 _ _ _ _ _ _)
  | (with_reducible exact ih2 _ _ _ _)
  | (with_reducible exact ih3 _ _ _ _ _)
  | (with_reducible exact ih4 _ _ _ _ _ _ _ _)
  | (with_reducible exact ih5 _ _ _ _ _ _ _ _ _ _ _ _ _ _)
  | (with_reducible exact ih6 _ _ _ _ _)
  | (with_reducible exact spec_GoodPlan.mono _ _)
  | (with_reducible exact LeO.refl _)
  | (with_reducible exact LeO.none _)
  | (with_reducible refine LeO.ite ?_ ?_)
  | (with_reducible refine LeO.bind ?_ (fun _ => ?_))
  | exact ih0 _ _ _ _ _
  | exact ih1 _ _ _ _ _ _
  | exact ih2 _ _ _ _
  | exact ih3 _ _ _ _ _
  | exact ih4 _ _ _ _ _ _ _ _
  | exact ih5 _ _ _ _ _ _ _ _ _ _ _ _ _ _
  | exact ih6 _ _ _ _ _
  | exact spec_GoodPlan.mono _ _
  | exact LeO.none _
  | refine LeO.ite ?_ ?_
  | refine LeO.bind ?_ (fun _ => ?_)
set_option maxHeartbeats 8000000 in
set_option maxRecDepth 100000 in
theorem spec_FloodUntil.calls (k:Nat) (A0:Option Addr) (c0:Nat) (l0:List (S58)) (a1:Int) (a2:Int) (a3:Int) (r1:List Int) (r2:Bool) (w:World) (hr0:Kd.C k58 w A0 l0.length l0) (hc0:l0.length≤c0) (h:spec_FloodUntil.f k l0 a1 a2 a3=some (r1,r2)) :
  Calls Try.prog 12 #[.slice A0 l0.length c0,.int .i64 a1,.int .i64 a2,.int .i64 a3] w fun e w' => ∃ v0_:Value,e=.returned (.tuple #[v0_,.bool r2])∧Kd.R (Kd.int .i64) 3 w' w.heap.size (fun _=>True) v0_ r1∧Below w.heap.size w w':=by
 have hu58:=Try.underlying58
 have HR0:=Aside0.mk hr0
 have HC0:=Aside0.mk hc0
 clear hr0 hc0
 have HB:=Aside0.mk (Below.refl w.heap.size w)
 have H:((spec_GoodPlan.f k l0).bind fun t257=>(if t257=true then ((spec_l6Node.f a1).bind fun t258=>(if t258=true then ((spec_l6When.f a2).bind fun t259=>(if t259=true then ((spec_l6When.f a3).bind fun t260=>(spec_FloodUntil.j0 k l0 a1 a2 a3 (!t260))) else (spec_FloodUntil.j0 k l0 a1 a2 a3 true))) else (spec_FloodUntil.j0 k l0 a1 a2 a3 true))) else (spec_FloodUntil.j0 k l0 a1 a2 a3 true)))=some (r1,r2):=h
 clear h
 have HC5:=Aside0.mk H
 clear H
 go_enter Try.func12,Try.ntmps12
 go_upto_region 1 with (fail)
 go_cut [37] (fun v37 wc => ∃ (kq:Nat) (x37_4:Bool),v37=.bool x37_4∧Aside0 (spec_FloodUntil.j0 kq l0 a1 a2 a3 x37_4=some (r1,r2))∧Aside0 (kq≤k)∧Aside0 (Below w.heap.size w wc))
 case first =>
  have H:=HC5.out
  clear HC5
  replace H:=Option.bind_eq_some_iff.mp H
  obtain⟨t257,A60,H⟩:=H
  replace H:(if t257=true then ((spec_l6Node.f a1).bind fun t258=>(if t258=true then ((spec_l6When.f a2).bind fun t259=>(if t259=true then ((spec_l6When.f a3).bind fun t260=>(spec_FloodUntil.j0 k l0 a1 a2 a3 (!t260))) else (spec_FloodUntil.j0 k l0 a1 a2 a3 true))) else (spec_FloodUntil.j0 k l0 a1 a2 a3 true))) else (spec_FloodUntil.j0 k l0 a1 a2 a3 true))=some (r1,r2):=H
  have A6:=Aside0.mk A60
  clear A60
  by_cases c7:t257=true
  ·subst c7
   have H1:((spec_l6Node.f a1).bind fun t258=>(if t258=true then ((spec_l6When.f a2).bind fun t259=>(if t259=true then ((spec_l6When.f a3).bind fun t260=>(spec_FloodUntil.j0 k l0 a1 a2 a3 (!t260))) else (spec_FloodUntil.j0 k l0 a1 a2 a3 true))) else (spec_FloodUntil.j0 k l0 a1 a2 a3 true)))=some (r1,r2):=by rw[if_pos rfl] at H;exact H
   clear H
   have H:=H1
   clear H1
   replace H:=Option.bind_eq_some_iff.mp H
   obtain⟨t258,A80,H⟩:=H
   replace H:(if t258=true then ((spec_l6When.f a2).bind fun t259=>(if t259=true then ((spec_l6When.f a3).bind fun t260=>(spec_FloodUntil.j0 k l0 a1 a2 a3 (!t260))) else (spec_FloodUntil.j0 k l0 a1 a2 a3 true))) else (spec_FloodUntil.j0 k l0 a1 a2 a3 true))=some (r1,r2):=H
   have A8:=Aside0.mk A80
   clear A80
   by_cases c9:t258=true
   ·subst c9
    have H1:((spec_l6When.f a2).bind fun t259=>(if t259=true then ((spec_l6When.f a3).bind fun t260=>(spec_FloodUntil.j0 k l0 a1 a2 a3 (!t260))) else (spec_FloodUntil.j0 k l0 a1 a2 a3 true)))=some (r1,r2):=by rw[if_pos rfl] at H;exact H
    clear H
    have H:=H1
    clear H1
    replace H:=Option.bind_eq_some_iff.mp H
    obtain⟨t259,A100,H⟩:=H
    replace H:(if t259=true then ((spec_l6When.f a3).bind fun t260=>(spec_FloodUntil.j0 k l0 a1 a2 a3 (!t260))) else (spec_FloodUntil.j0 k l0 a1 a2 a3 true))=some (r1,r2):=H
    have A10:=Aside0.mk A100
    clear A100
    by_cases c11:t259=true
    ·subst c11
     have H1:((spec_l6When.f a3).bind fun t260=>(spec_FloodUntil.j0 k l0 a1 a2 a3 (!t260)))=some (r1,r2):=by rw[if_pos rfl] at H;exact H
     clear H
     have H:=H1
     clear H1
     replace H:=Option.bind_eq_some_iff.mp H
     obtain⟨t260,A120,H⟩:=H
     replace H:(spec_FloodUntil.j0 k l0 a1 a2 a3 (!t260))=some (r1,r2):=H
     have A12:=Aside0.mk A120
     clear A120
     have H':=Aside0.mk H
     clear H
     go_wp2_with (first|((with_reducible refine gate_callee (f:=31) rfl ?_);refine goesA (some 21) rfl rfl Try.func31 #[.slice A0 l0.length c0] rfl ?_;(with_reducible refine(spec_GoodPlan.calls k _ _ l0 true _ ?side1 ?side2 A6.out).mono ?_);(case side1=>exact bC HR0.out);(case side2=>exact HC0.out);rintro e w13 ⟨rfl,hb⟩;refine⟨_,rfl,?_⟩;have n0_:=Aside0.mk (below_step (bB) hb);clear HB;have HB:=n0_;clear n0_;(try clear hb);(try clear hb2);(try clear hk);(try clear hi))|(go_at_call 32;(with_reducible refine(spec_l6Node.calls a1 true _ A8.out).mono ?_);rintro e w' ⟨rfl,⟨nd,rfl⟩⟩)|(go_at_call 33;(with_reducible refine(spec_l6When.calls a2 true _ A10.out).mono ?_);rintro e w' ⟨rfl,⟨nd,rfl⟩⟩)|(go_at_call 33;(with_reducible refine(spec_l6When.calls a3 t260 _ A12.out).mono ?_);rintro e w' ⟨rfl,⟨nd,rfl⟩⟩))
     go_meet
     case rel=>exact⟨_,(!t260),(bR),H',⟨by first|omega|exact Nat.le_refl _⟩,⟨by repeat (first|(with_reducible first|exact HB.out|apply below_alloc|apply pw_below_drewN|apply below_drew1)|exact HB.out)⟩⟩
    ·replace c11:=Bool.eq_false_iff.mpr c11
     subst c11
     have H1:(spec_FloodUntil.j0 k l0 a1 a2 a3 true)=some (r1,r2):=by rw[if_neg (show ¬ (false=true) by decide)] at H;exact H
     clear H
     have H:=H1
     clear H1
     have H':=Aside0.mk H
     clear H
     go_wp2_with (first|((with_reducible refine gate_callee (f:=31) rfl ?_);refine goesA (some 21) rfl rfl Try.func31 #[.slice A0 l0.length c0] rfl ?_;(with_reducible refine(spec_GoodPlan.calls k _ _ l0 true _ ?side1 ?side2 A6.out).mono ?_);(case side1=>exact bC HR0.out);(case side2=>exact HC0.out);rintro e w14 ⟨rfl,hb⟩;refine⟨_,rfl,?_⟩;have n0_:=Aside0.mk (below_step (bB) hb);clear HB;have HB:=n0_;clear n0_;(try clear hb);(try clear hb2);(try clear hk);(try clear hi))|(go_at_call 32;(with_reducible refine(spec_l6Node.calls a1 true _ A8.out).mono ?_);rintro e w' ⟨rfl,⟨nd,rfl⟩⟩)|(go_at_call 33;(with_reducible refine(spec_l6When.calls a2 false _ A10.out).mono ?_);rintro e w' ⟨rfl,⟨nd,rfl⟩⟩))
     go_meet
     case rel=>exact⟨_,(true),(bR),H',⟨by first|omega|exact Nat.le_refl _⟩,⟨by repeat (first|(with_reducible first|exact HB.out|apply below_alloc|apply pw_below_drewN|apply below_drew1)|exact HB.out)⟩⟩
   ·replace c9:=Bool.eq_false_iff.mpr c9
    subst c9
    have H1:(spec_FloodUntil.j0 k l0 a1 a2 a3 true)=some (r1,r2):=by rw[if_neg (show ¬ (false=true) by decide)] at H;exact H
    clear H
    have H:=H1
    clear H1
    have H':=Aside0.mk H
    clear H
    go_wp2_with (first|((with_reducible refine gate_callee (f:=31) rfl ?_);refine goesA (some 21) rfl rfl Try.func31 #[.slice A0 l0.length c0] rfl ?_;(with_reducible refine(spec_GoodPlan.calls k _ _ l0 true _ ?side1 ?side2 A6.out).mono ?_);(case side1=>exact bC HR0.out);(case side2=>exact HC0.out);rintro e w15 ⟨rfl,hb⟩;refine⟨_,rfl,?_⟩;have n0_:=Aside0.mk (below_step (bB) hb);clear HB;have HB:=n0_;clear n0_;(try clear hb);(try clear hb2);(try clear hk);(try clear hi))|(go_at_call 32;(with_reducible refine(spec_l6Node.calls a1 false _ A8.out).mono ?_);rintro e w' ⟨rfl,⟨nd,rfl⟩⟩))
    go_meet
    case rel=>exact⟨_,(true),(bR),H',⟨by first|omega|exact Nat.le_refl _⟩,⟨by repeat (first|(with_reducible first|exact HB.out|apply below_alloc|apply pw_below_drewN|apply below_drew1)|exact HB.out)⟩⟩
  ·replace c7:=Bool.eq_false_iff.mpr c7
   subst c7
   have H1:(spec_FloodUntil.j0 k l0 a1 a2 a3 true)=some (r1,r2):=by rw[if_neg (show ¬ (false=true) by decide)] at H;exact H
   clear H
   have H:=H1
   clear H1
   have H':=Aside0.mk H
   clear H
   go_wp2_with (first|((with_reducible refine gate_callee (f:=31) rfl ?_);refine goesA (some 21) rfl rfl Try.func31 #[.slice A0 l0.length c0] rfl ?_;(with_reducible refine(spec_GoodPlan.calls k _ _ l0 false _ ?side1 ?side2 A6.out).mono ?_);(case side1=>exact bC HR0.out);(case side2=>exact HC0.out);rintro e w16 ⟨rfl,hb⟩;refine⟨_,rfl,?_⟩;have n0_:=Aside0.mk (below_step (bB) hb);clear HB;have HB:=n0_;clear n0_;(try clear hb);(try clear hb2);(try clear hk);(try clear hi)))
   go_meet
   case rel=>exact⟨_,(true),(bR),H',⟨by first|omega|exact Nat.le_refl _⟩,⟨by repeat (first|(with_reducible first|exact HB.out|apply below_alloc|apply pw_below_drewN|apply below_drew1)|exact HB.out)⟩⟩
 case rest =>
  clear HC5
  try clear c1
  try clear p2
  try clear c3
  try clear c7
  try clear c9
  try clear c11
  try clear c12
  obtain⟨kq,x37_4,rfl,HA,HJ4,HB⟩:=hcut
  cases kq with
  | zero=>exact absurd HA.out (by simp[spec_FloodUntil.j0])
  | succ kj4 =>
   have H:=HA.out
   clear HA
   simp only[spec_FloodUntil.j0] at H
   by_cases c17:x37_4=true
   ·subst c17
    have H1:(some (([]:List Int),false))=some (r1,r2):=by rw[if_pos rfl] at H;exact H
    clear H
    have H:=H1
    clear H1
    simp only[Option.some.injEq,Prod.mk.injEq] at H
    obtain⟨rfl,rfl⟩:=H
    go_wp2
    go_ret2
    exact⟨_,by first|rfl|(simp[errW_none,errW_some]<;>rfl)|(simp[*,errW_none,errW_some]<;>rfl),by first|exact Kd.R_nil _ _ _ _ _|exact Kd.N_nil _ _ _ _ _|exact Kd.V_nil _ _ _ _ _|exact Kd.Q_nil _ _ _ _ _|exact Kd.S_nil _ _ _ _ _,bB⟩
   ·replace c17:=Bool.eq_false_iff.mpr c17
    subst c17
    have H1:(spec_FloodUntil.l0 kj4 l0 a1 a2 a3 ([]:List Int) 0)=some (r1,r2):=by rw[if_neg (show ¬ (false=true) by decide)] at H;exact H
    clear H
    have H:=H1
    clear H1
    have H':=Aside0.mk H
    clear H
    go_wp2
    go_loopg [10,11] kj4 (fun kq v10 v11 w' => ∃ (x10_2:List Int) (x11_2:Int),v11=.int .i64 x11_2∧Aside0 (spec_FloodUntil.l0 kq l0 a1 a2 a3 x10_2 x11_2=some (r1,r2))∧Aside0 (kq≤kj4)∧Aside0 (Kd.R (Kd.int .i64) 3 w' w.heap.size (fun _=>True) v10 x10_2)∧Aside0 (Below w.heap.size w w'))
    case atStart=>exact⟨(([]:List Int)),(0),(bR),H',⟨Nat.le_refl _⟩,⟨by first|exact Kd.R_nil _ _ _ _ _|exact Kd.N_nil _ _ _ _ _|exact Kd.V_nil _ _ _ _ _|exact Kd.Q_nil _ _ _ _ _|exact Kd.S_nil _ _ _ _ _⟩,⟨by repeat (first|(with_reducible first|exact HB.out|apply below_alloc|apply pw_below_drewN|apply below_drew1)|exact HB.out)⟩⟩
    case round =>
     clear H'
     try clear c1
     try clear p2
     try clear c3
     try clear c7
     try clear c9
     try clear c11
     try clear c12
     try clear c17
     try clear p2
     obtain⟨x10_2,x11_2,rfl,HA,HK2,HO_10,HB⟩:=hrel
     cases gk with
     | zero=>exact absurd HA.out (by simp[spec_FloodUntil.l0])
     | succ k2 =>
      have H:=HA.out
      clear HA
      simp only[spec_FloodUntil.l0] at H
      by_cases c18:x11_2 < 8
      ·rw[if_pos c18] at H
       have c18b0:decide (x11_2 < 8)=true:=decide_eq_true c18
       clear c18
       by_cases c19:x10_2.length < 17592186044416
       ·rw[if_pos c19] at H
        have LMc19:=Aside0.mk c19
        clear c19
        obtain⟨y261,hy261⟩ : ∃ y_:List Int,y_=(x10_2++[(-1)]):=⟨_,rfl⟩
        replace H:(spec_FloodUntil.l0 k2 l0 a1 a2 a3 y261 (wrap64 (x11_2+1)))=some (r1,r2):=by first|(rw[hy261];with_reducible exact H)|(have H2_:=(Option.bind_some _ _).symm.trans H;rw[hy261];with_reducible exact H2_)|(have H2_:=(Option.bind_some _ _).symm.trans H;with_reducible exact H2_)|with_reducible exact H|(rw[hy261];exact H)|exact H
        have Ny261:=Aside0.mk hy261
        clear hy261
        have H':=Aside0.mk H
        clear H
        go_wp2_with (first|((with_reducible refine gate_builtin (b:=.append) (xs:=#[.tmp 42,.tmp 43]) rfl ?_);at_builtin;refine Kd.R_append (Kd.int .i64) (w0:=w) w.heap.size rfl (.tmp 42) (.tmp 43) 34 3 (.int .i64 0) 8 rfl Try.underlying34 info3 rfl (b7_) (b9_) u10 x10_2 (-1) [.int .i64 (-1)] (fun _=>True) (fun _=>False) rfl rfl ?aP (fun _ hk=>hk.elim) ?aF ?aO ?aB ?aS ?aL ?_;(case aP=>exact rfl);(case aB=>exact(bB));(case aF=>exact(fun _ _=>trivial));(case aO=>exact(bK HO_10.out));(case aS=>exact(below_size (bB)));(case aL=>have:=LMc19.out;omega);intro v262 w20 ho hb hg hat;rw[← Ny261.out] at ho;have n0_:=Aside0.mk (hb);have n1_:=Aside0.mk (ho);clear HB HO_10;have HB:=n0_;have HO263:=n1_;clear n0_ n1_;clear ho hb hg hat))
        go_roundg k2
        case measure=>have:=HJ4.out;have:=HK2.out;omega
        case rel=>exact⟨(y261),(wrap64 (x11_2+1)),(bR),H',⟨by have:=HJ4.out;have:=HK2.out;omega⟩,⟨by(with_reducible repeat (first|apply Kd.R_alloc|apply Kd.R_drewN|apply Kd.R_drew));exact HO263.out⟩,⟨by repeat (first|(with_reducible first|exact HB.out|apply below_alloc|apply pw_below_drewN|apply below_drew1)|exact HB.out)⟩⟩
       ·rw[if_neg c19] at H
        exact absurd H (by simp)
      ·rw[if_neg c18] at H
       have c18b0:decide (x11_2 < 8)=false:=decide_eq_false c18
       clear c18
       by_cases c21:0≤a1
       ·rw[if_pos c21] at H
        have c21b0:decide (0≤a1)=true:=decide_eq_true c21
        clear c21
        by_cases c22:a1 < (x10_2.length:Int)
        ·rw[if_pos c22] at H
         have c22b0:decide (a1 < (x10_2.length:Int))=true:=decide_eq_true c22
         clear c22
         obtain⟨y264,hy264⟩ : ∃ y_:List Int,y_=(x10_2.set (a1:Int).toNat a2):=⟨_,rfl⟩
         replace H:(spec_FloodUntil.l1 k2 l0 a3 y264 a2)=some (r1,r2):=by first|(rw[hy264];with_reducible exact H)|(have H2_:=(Option.bind_some _ _).symm.trans H;rw[hy264];with_reducible exact H2_)|(have H2_:=(Option.bind_some _ _).symm.trans H;with_reducible exact H2_)|with_reducible exact H|(rw[hy264];exact H)|exact H
         have Ny264:=Aside0.mk hy264
         clear hy264
         have H':=Aside0.mk H
         clear H
         have p23:0≤(a1:Int):=of_decide_eq_true (bD)
         have q23:(a1:Int) < ((x10_2.length:Int):Int):=of_decide_eq_true (bD)
         obtain⟨go23,co23,eo23,gb23,gl23,cl23,HG23⟩:=Kd.R_form HO_10.out (b9_)
         (first|cases eo23|(injection eo23 with ea_ en_ ec_;(first|subst ea_|(injection ea_ with ea_;subst ea_));subst ec_;clear en_))
         have GB23:=Aside0.mk gb23
         have GG23:=Aside0.mk HG23
         clear gb23 gl23 HG23
         obtain⟨hx23_0,hf23_0⟩:=Kd.R_celln 0 HO_10.out (a1:Int) p23 q23
         replace p23:=eq_true p23
         replace q23:=eq_true q23
         have HP24:=Kd.R_putg HO_10.out (a1:Int) a2
         go_wp2_with (first|((with_reducible refine gate_store (t:=3) (p:=48) rfl ?_);refine store_event (t:=3) (p:=48) (v:=?vo_w25) (w1:=(wr.setCell ⟨go23,(a1:Int).toNat,none⟩ (.int .i64 a2))) ?hg ?ho ?hn ?hr ?_;(case ho=>rfl);(case hg=>rfl);(case hn=>rfl);(case hr=>first|(go_simp;done)|(go_simp;rfl));intro w25 hw;have hg:wr.grownBy w25 (some go23):=(by rw[hw];exact HP24.2);have hp_:Kd.R (Kd.int .i64) 3 w25 w.heap.size (fun _=>True) (.slice (some ⟨go23,0,none⟩) x10_2.length co23) y264:=(by rw[hw,Ny264.out];exact HP24.1);clear HP24;have n0_:=Aside0.mk (hp_);have n1_:=Aside0.mk ((by rw[hw];exact below_set (HB.out) GB23.out:Below w.heap.size w w25));clear HO_10 HB;have HO_10:=n0_;have HB:=n1_;clear n0_ n1_;clear hg hw hp_))
         go_loopg [12] k2 (fun kq v12 w' => ∃ (x10_3:List Int) (x12_3:Int),v12=.int .i64 x12_3∧Aside0 (spec_FloodUntil.l1 kq l0 a3 x10_3 x12_3=some (r1,r2))∧Aside0 (kq≤k2)∧Aside0 (Kd.R (Kd.int .i64) 3 w' w.heap.size (fun _=>True) (.slice (some ⟨go23,0,none⟩) x10_2.length co23) x10_3)∧Aside0 (Below w.heap.size w w'))
         case atStart=>exact⟨(y264),(a2),(bR),H',⟨Nat.le_refl _⟩,⟨by(with_reducible repeat (first|apply Kd.R_alloc|apply Kd.R_drewN|apply Kd.R_drew));exact HO_10.out⟩,⟨by repeat (first|(with_reducible first|exact HB.out|apply below_alloc|apply pw_below_drewN|apply below_drew1)|exact HB.out)⟩⟩
         case round =>
          clear H'
          try clear c1
          try clear c2
          try clear p2
          try clear q2
          try clear hx2
          try clear c3
          try clear p6
          try clear c7
          try clear c9
          try clear c11
          try clear c12
          try clear c17
          try clear c18
          try clear c18b0
          try clear c19
          try clear c21
          try clear c21b0
          try clear c22
          try clear c22b0
          try clear p23
          try clear q23
          try clear hx23
          try clear hf23
          try clear hx23_0
          try clear p2
          try clear p23
          try clear q23
          obtain⟨x10_3,x12_3,rfl,HA,HK3,HO_10,HB⟩:=hrel
          have hl10_3:=(Kd.R_reads' HO_10.out).1
          rw[hl10_3] at HO_10
          (try simp only[hl10_3])
          cases gk with
          | zero=>exact absurd HA.out (by simp[spec_FloodUntil.l1])
          | succ k3 =>
           have H:=HA.out
           clear HA
           simp only[spec_FloodUntil.l1] at H
           by_cases c26:x12_3≤a3
           ·rw[if_pos c26] at H
            have c26b0:decide (x12_3≤a3)=true:=decide_eq_true c26
            clear c26
            have H':=Aside0.mk H
            clear H
            go_wp2
            go_loopg [13] k3 (fun kq v13 w' => ∃ (x10_4:List Int) (x13_4:Bool),v13=.bool x13_4∧Aside0 (spec_FloodUntil.l2 kq l0 a3 x10_4 x12_3 x13_4=some (r1,r2))∧Aside0 (kq≤k3)∧Aside0 (Kd.R (Kd.int .i64) 3 w' w.heap.size (fun _=>True) (.slice (some ⟨go23,0,none⟩) x10_3.length co23) x10_4)∧Aside0 (Below w.heap.size w w'))
            case atStart=>exact⟨(x10_3),(true),(bR),H',⟨Nat.le_refl _⟩,⟨by(try simp only[hl10_3]);(with_reducible repeat (first|apply Kd.R_alloc|apply Kd.R_drewN|apply Kd.R_drew));exact HO_10.out⟩,⟨by repeat (first|(with_reducible first|exact HB.out|apply below_alloc|apply pw_below_drewN|apply below_drew1)|exact HB.out)⟩⟩
            case round =>
             clear H'
             try clear c1
             try clear c2
             try clear p2
             try clear q2
             try clear hx2
             try clear c3
             try clear p6
             try clear c7
             try clear c9
             try clear c11
             try clear c12
             try clear c17
             try clear c18
             try clear c18b0
             try clear c19
             try clear c21
             try clear c21b0
             try clear c22
             try clear c22b0
             try clear p23
             try clear q23
             try clear hx23
             try clear hf23
             try clear c26
             try clear c26b0
             try clear hx23_0
             try clear p2
             try clear p23
             try clear p6
             try clear q2
             try clear q23
             obtain⟨x10_4,x13_4,rfl,HA,HK4,HO_10,HB⟩:=hrel
             have hl10_4:=(Kd.R_reads' HO_10.out).1
             rw[hl10_4] at HO_10
             (try simp only[hl10_4])
             cases gk with
             | zero=>exact absurd HA.out (by simp[spec_FloodUntil.l2])
             | succ k4 =>
              have H:=HA.out
              clear HA
              simp only[spec_FloodUntil.l2] at H
              by_cases c27:x13_4=true
              ·subst c27
               have H1:(spec_FloodUntil.l3 k4 l0 a3 x10_4 x12_3 false l0 (l0.length:Int) 0)=some (r1,r2):=by rw[if_pos rfl] at H;exact H
               clear H
               have H:=H1
               clear H1
               have H':=Aside0.mk H
               clear H
               go_wp2
               go_loopg [13,58] k4 (fun kq v13 v58 w' => ∃ (x10_5:List Int) (x13_5:Bool) (x58_5:Int),v13=.bool x13_5∧v58=.int .i64 x58_5∧Aside0 (spec_FloodUntil.l3 kq l0 a3 x10_5 x12_3 x13_5 l0 (l0.length:Int) x58_5=some (r1,r2))∧Aside0 (kq≤k4)∧Aside0 (Kd.R (Kd.int .i64) 3 w' w.heap.size (fun _=>True) (.slice (some ⟨go23,0,none⟩) x10_4.length co23) x10_5)∧Aside0 (Below w.heap.size w w'))
               case atStart=>exact⟨(x10_4),(false),(0),(bR),(bR),H',⟨Nat.le_refl _⟩,⟨by(try simp only[hl10_3]);(try simp only[hl10_4]);(with_reducible repeat (first|apply Kd.R_alloc|apply Kd.R_drewN|apply Kd.R_drew));exact HO_10.out⟩,⟨by repeat (first|(with_reducible first|exact HB.out|apply below_alloc|apply pw_below_drewN|apply below_drew1)|exact HB.out)⟩⟩
               case round =>
                clear H'
                try clear c1
                try clear c2
                try clear p2
                try clear q2
                try clear hx2
                try clear c3
                try clear p6
                try clear c7
                try clear c9
                try clear c11
                try clear c12
                try clear c17
                try clear c18
                try clear c18b0
                try clear c19
                try clear c21
                try clear c21b0
                try clear c22
                try clear c22b0
                try clear p23
                try clear q23
                try clear hx23
                try clear hf23
                try clear c26
                try clear c26b0
                try clear c27
                try clear hx23_0
                try clear p2
                try clear p23
                try clear p6
                try clear q2
                try clear q23
                obtain⟨x10_5,x13_5,x58_5,rfl,rfl,HA,HK5,HO_10,HB⟩:=hrel
                have hl10_5:=(Kd.R_reads' HO_10.out).1
                rw[hl10_5] at HO_10
                (try simp only[hl10_5])
                cases gk with
                | zero=>exact absurd HA.out (by simp[spec_FloodUntil.l3])
                | succ k5 =>
                 have H:=HA.out
                 clear HA
                 simp only[spec_FloodUntil.l3] at H
                 by_cases c28:x58_5 < (l0.length:Int)
                 ·rw[if_pos c28] at H
                  have c28b0:decide (x58_5 < (l0.length:Int))=true:=decide_eq_true c28
                  clear c28
                  by_cases c29:0≤x58_5
                  ·rw[if_pos c29] at H
                   have c29b0:decide (0≤x58_5)=true:=decide_eq_true c29
                   clear c29
                   by_cases c30:x58_5 < (l0.length:Int)
                   ·rw[if_pos c30] at H
                    have c30b0:decide (x58_5 < (l0.length:Int))=true:=decide_eq_true c30
                    clear c30
                    have HC31:=Aside0.mk H
                    clear H
                    have p265:0≤(x58_5:Int):=of_decide_eq_true (bD)
                    have q265:x58_5 < (l0.length:Int):=of_decide_eq_true (bD)
                    obtain⟨ad265,e265,hx265_0,hx265_1,hx265_2,hx265_3,hx265_4⟩:=at_T58 HR0.out x58_5 p265 q265
                    cases e265
                    replace hx265_0:=(HB.out.cell (World.block_lt_of_cell? w _ hx265_0)).trans hx265_0
                    replace hx265_1:=(HB.out.cell (World.block_lt_of_cell? w _ hx265_1)).trans hx265_1
                    replace hx265_2:=(HB.out.cell (World.block_lt_of_cell? w _ hx265_2)).trans hx265_2
                    replace hx265_3:=(HB.out.cell (World.block_lt_of_cell? w _ hx265_3)).trans hx265_3
                    replace hx265_4:=(HB.out.cell (World.block_lt_of_cell? w _ hx265_4)).trans hx265_4
                    replace p265:=eq_true p265
                    replace q265:=eq_true q265
                    go_upto_region 18 with (first|((with_reducible refine gate_dst (N:=15) rfl ?_);refine box_event ?hg (N:=15) ?hd (cs:=#[.int .i64 0,.int .i64 0,.int .i64 0,.int .i64 0,.int .i64 0]) (t:=58) ?hr ?_;(case hd=>rfl);(case hg=>rfl);(case hr=>first|(go_simp;done)|(go_simp;rfl));intro gb266 hg w32 hbox hb;have n0_:=Aside0.mk (Kd.R_below (bK HO_10.out) hb);have n1_:=Aside0.mk (below_step (bB) hb);have n2_:=Aside0.mk (hbox);have n3_:=Aside0.mk ((bG:w.heap.size≤gb266));have n4_:=Aside0.mk ((bG:w.heap.size≤gb266));clear HO_10 HB;have HO_10:=n0_;have HB:=n1_;have BK266:=n2_;have GW266:=n3_;have GE266:=n4_;clear n0_ n1_ n2_ n3_ n4_;clear hb hbox hg;obtain⟨hcz33_0,hcz33_1,hcz33_2,hcz33_3,hcz33_4⟩:=cC5 BK266.out;obtain⟨hfz33_0,hfz33_1,hfz33_2,hfz33_3,hfz33_4⟩:=cF5 BK266.out))
                    (try simp only[Act.put,List.setIfInBounds_toArray,List.set_cons_zero,List.set_cons_succ])
                    go_cut [88] (fun v88 wc => ∃ (kq:Nat) (x88_30:Bool),v88=.bool x88_30∧Aside0 (spec_FloodUntil.j5 kq l0 a3 x10_5 x12_3 x13_5 l0 (l0.length:Int) x58_5 x88_30 ((rd_T58 l0 x58_5).f0) ((rd_T58 l0 x58_5).f1) ((rd_T58 l0 x58_5).f2) ((rd_T58 l0 x58_5).f3) ((rd_T58 l0 x58_5).f4)=some (r1,r2))∧Aside0 (kq≤k5)∧Aside0 (Kd.R (Kd.int .i64) 3 wc w.heap.size (fun _=>True) (.slice (some ⟨go23,0,none⟩) x10_5.length co23) x10_5)∧Aside0 (wc.heap[gb266]?=some (.cells #[.int .i64 ((rd_T58 l0 x58_5).f0),.int .i64 ((rd_T58 l0 x58_5).f1),.int .i64 ((rd_T58 l0 x58_5).f2),.int .i64 ((rd_T58 l0 x58_5).f3),.int .i64 ((rd_T58 l0 x58_5).f4)] 58 (0,0)))∧Aside0 (Below w.heap.size w wc))
                    case first =>
                     have H:=HC31.out
                     clear HC31
                     by_cases c34:0≤((rd_T58 l0 x58_5).f0)
                     ·rw[if_pos c34] at H
                      have c34b0:decide (0≤((rd_T58 l0 x58_5).f0))=true:=decide_eq_true c34
                      clear c34
                      (first|rw[c34b0]|(simp only[i64_w,i32_w];rw[c34b0])|skip)
                      by_cases c35:((rd_T58 l0 x58_5).f0) < (x10_5.length:Int)
                      ·rw[if_pos c35] at H
                       have c35b0:decide (((rd_T58 l0 x58_5).f0) < (x10_5.length:Int))=true:=decide_eq_true c35
                       clear c35
                       by_cases c36:(rd x10_5 ((rd_T58 l0 x58_5).f0)) < 0
                       ·rw[if_pos c36] at H
                        have c36b0:decide ((rd x10_5 ((rd_T58 l0 x58_5).f0)) < 0)=true:=decide_eq_true c36
                        clear c36
                        have H':=Aside0.mk H
                        clear H
                        obtain⟨hcz37_0,hcz37_1,hcz37_2,hcz37_3,hcz37_4⟩:=cC5 BK266.out
                        obtain⟨hfz37_0,hfz37_1,hfz37_2,hfz37_3,hfz37_4⟩:=cF5 BK266.out
                        have p267:0≤(((rd_T58 l0 x58_5).f0):Int):=of_decide_eq_true (bD)
                        have q267:((rd_T58 l0 x58_5).f0) < (x10_5.length:Int):=of_decide_eq_true (bD)
                        obtain⟨ad267,e267,hx267_0⟩:=Kd.at_int (Kd.R_reads' HO_10.out).2.2 ((rd_T58 l0 x58_5).f0) p267 q267
                        obtain rfl:(⟨go23,0,none⟩:Addr)=ad267:=(by injection e267)
                        (first|simp only[add_plain] at hx267_0|simp only[add_at] at hx267_0|simp only[Addr.add,Nat.zero_add] at hx267_0|skip)
                        have hn267_0:(⟨go23,0,none⟩:Addr).block≠gb266:=Kd.own_blk (Kd.R_ne HO_10.out BK266.out (b7_))
                        have hn267_1:(⟨go23,0,none⟩:Addr).block≠gb266:=Kd.own_blk (Kd.R_ne HO_10.out BK266.out (b7_))
                        have hn267_2:(⟨go23,0,none⟩:Addr).block≠gb266:=Kd.own_blk (Kd.R_ne HO_10.out BK266.out (b7_))
                        have hn267_3:(⟨go23,0,none⟩:Addr).block≠gb266:=Kd.own_blk (Kd.R_ne HO_10.out BK266.out (b7_))
                        have hn267_4:(⟨go23,0,none⟩:Addr).block≠gb266:=Kd.own_blk (Kd.R_ne HO_10.out BK266.out (b7_))
                        replace hx267_0:=(cell_far (p:=⟨gb266,0,none⟩) (bA hn267_0) (.int .i64 ((rd_T58 l0 x58_5).f0))).trans hx267_0
                        replace hx267_0:=(cell_far (p:=⟨gb266,1,none⟩) (bA hn267_1) (.int .i64 ((rd_T58 l0 x58_5).f1))).trans hx267_0
                        replace hx267_0:=(cell_far (p:=⟨gb266,2,none⟩) (bA hn267_2) (.int .i64 ((rd_T58 l0 x58_5).f2))).trans hx267_0
                        replace hx267_0:=(cell_far (p:=⟨gb266,3,none⟩) (bA hn267_3) (.int .i64 ((rd_T58 l0 x58_5).f3))).trans hx267_0
                        replace hx267_0:=(cell_far (p:=⟨gb266,4,none⟩) (bA hn267_4) (.int .i64 ((rd_T58 l0 x58_5).f4))).trans hx267_0
                        clear hn267_0 hn267_1 hn267_2 hn267_3 hn267_4
                        replace p267:=eq_true p267
                        replace q267:=eq_true q267
                        go_wp2
                        go_meet
                        case rel=>exact⟨_,(true),(bR),H',⟨by have:=HJ4.out;have:=HK2.out;have:=HK3.out;have:=HK4.out;have:=HK5.out;first|omega|exact Nat.le_refl _⟩,⟨by(try simp only[hl10_3]);(try simp only[hl10_4]);(try simp only[hl10_5]);(with_reducible repeat (first|apply Kd.R_alloc|apply Kd.R_drewN|apply Kd.R_drew));exact Kd.R_mono (Kd.R_far (p:=⟨gb266,4,none⟩) (Kd.R_far (p:=⟨gb266,3,none⟩) (Kd.R_far (p:=⟨gb266,2,none⟩) (Kd.R_far (p:=⟨gb266,1,none⟩) (Kd.R_far (p:=⟨gb266,0,none⟩) (Kd.R_types HO_10.out BK266.out (b7_)) (fun _ hk=>hk.2) (.int .i64 ((rd_T58 l0 x58_5).f0))) (fun _ hk=>hk.2) (.int .i64 ((rd_T58 l0 x58_5).f1))) (fun _ hk=>hk.2) (.int .i64 ((rd_T58 l0 x58_5).f2))) (fun _ hk=>hk.2) (.int .i64 ((rd_T58 l0 x58_5).f3))) (fun _ hk=>hk.2) (.int .i64 ((rd_T58 l0 x58_5).f4))) (fun _ hk=>trivial)⟩,⟨by(try simp only[hl10_3]);(try simp only[hl10_4]);(try simp only[hl10_5]);(with_reducible repeat (first|refine blk_drewN ?_ _|refine blk_drew ?_|refine blk_alloc ?_ _));refine blk_put (cs:=#[.int .i64 ((rd_T58 l0 x58_5).f0),.int .i64 ((rd_T58 l0 x58_5).f1),.int .i64 ((rd_T58 l0 x58_5).f2),.int .i64 ((rd_T58 l0 x58_5).f3),.int .i64 0]) ?_ 4 _ rfl;(with_reducible repeat (first|refine blk_drewN ?_ _|refine blk_drew ?_|refine blk_alloc ?_ _));refine blk_put (cs:=#[.int .i64 ((rd_T58 l0 x58_5).f0),.int .i64 ((rd_T58 l0 x58_5).f1),.int .i64 ((rd_T58 l0 x58_5).f2),.int .i64 0,.int .i64 0]) ?_ 3 _ rfl;(with_reducible repeat (first|refine blk_drewN ?_ _|refine blk_drew ?_|refine blk_alloc ?_ _));refine blk_put (cs:=#[.int .i64 ((rd_T58 l0 x58_5).f0),.int .i64 ((rd_T58 l0 x58_5).f1),.int .i64 0,.int .i64 0,.int .i64 0]) ?_ 2 _ rfl;(with_reducible repeat (first|refine blk_drewN ?_ _|refine blk_drew ?_|refine blk_alloc ?_ _));refine blk_put (cs:=#[.int .i64 ((rd_T58 l0 x58_5).f0),.int .i64 0,.int .i64 0,.int .i64 0,.int .i64 0]) ?_ 1 _ rfl;(with_reducible repeat (first|refine blk_drewN ?_ _|refine blk_drew ?_|refine blk_alloc ?_ _));refine blk_put (cs:=#[.int .i64 0,.int .i64 0,.int .i64 0,.int .i64 0,.int .i64 0]) ?_ 0 _ rfl;(with_reducible repeat (first|refine blk_drewN ?_ _|refine blk_drew ?_|refine blk_alloc ?_ _));exact BK266.out⟩,⟨bS GE266.out⟩⟩
                       ·rw[if_neg c36] at H
                        have c36b0:decide ((rd x10_5 ((rd_T58 l0 x58_5).f0)) < 0)=false:=decide_eq_false c36
                        clear c36
                        by_cases c38:(rd x10_5 ((rd_T58 l0 x58_5).f0)) > x12_3
                        ·rw[if_pos c38] at H
                         have c38b0:decide (x12_3 < (rd x10_5 ((rd_T58 l0 x58_5).f0)))=true:=decide_eq_true c38
                         clear c38
                         have H':=Aside0.mk H
                         clear H
                         obtain⟨hcz39_0,hcz39_1,hcz39_2,hcz39_3,hcz39_4⟩:=cC5 BK266.out
                         obtain⟨hfz39_0,hfz39_1,hfz39_2,hfz39_3,hfz39_4⟩:=cF5 BK266.out
                         have p267:0≤(((rd_T58 l0 x58_5).f0):Int):=of_decide_eq_true (bD)
                         have q267:((rd_T58 l0 x58_5).f0) < (x10_5.length:Int):=of_decide_eq_true (bD)
                         obtain⟨ad267,e267,hx267_0⟩:=Kd.at_int (Kd.R_reads' HO_10.out).2.2 ((rd_T58 l0 x58_5).f0) p267 q267
                         obtain rfl:(⟨go23,0,none⟩:Addr)=ad267:=(by injection e267)
                         (first|simp only[add_plain] at hx267_0|simp only[add_at] at hx267_0|simp only[Addr.add,Nat.zero_add] at hx267_0|skip)
                         have hn267_0:(⟨go23,0,none⟩:Addr).block≠gb266:=Kd.own_blk (Kd.R_ne HO_10.out BK266.out (b7_))
                         have hn267_1:(⟨go23,0,none⟩:Addr).block≠gb266:=Kd.own_blk (Kd.R_ne HO_10.out BK266.out (b7_))
                         have hn267_2:(⟨go23,0,none⟩:Addr).block≠gb266:=Kd.own_blk (Kd.R_ne HO_10.out BK266.out (b7_))
                         have hn267_3:(⟨go23,0,none⟩:Addr).block≠gb266:=Kd.own_blk (Kd.R_ne HO_10.out BK266.out (b7_))
                         have hn267_4:(⟨go23,0,none⟩:Addr).block≠gb266:=Kd.own_blk (Kd.R_ne HO_10.out BK266.out (b7_))
                         replace hx267_0:=(cell_far (p:=⟨gb266,0,none⟩) (bA hn267_0) (.int .i64 ((rd_T58 l0 x58_5).f0))).trans hx267_0
                         replace hx267_0:=(cell_far (p:=⟨gb266,1,none⟩) (bA hn267_1) (.int .i64 ((rd_T58 l0 x58_5).f1))).trans hx267_0
                         replace hx267_0:=(cell_far (p:=⟨gb266,2,none⟩) (bA hn267_2) (.int .i64 ((rd_T58 l0 x58_5).f2))).trans hx267_0
                         replace hx267_0:=(cell_far (p:=⟨gb266,3,none⟩) (bA hn267_3) (.int .i64 ((rd_T58 l0 x58_5).f3))).trans hx267_0
                         replace hx267_0:=(cell_far (p:=⟨gb266,4,none⟩) (bA hn267_4) (.int .i64 ((rd_T58 l0 x58_5).f4))).trans hx267_0
                         clear hn267_0 hn267_1 hn267_2 hn267_3 hn267_4
                         replace p267:=eq_true p267
                         replace q267:=eq_true q267
                         have p268:0≤(((rd_T58 l0 x58_5).f0):Int):=of_decide_eq_true (bD)
                         have q268:((rd_T58 l0 x58_5).f0) < (x10_5.length:Int):=of_decide_eq_true (bD)
                         obtain⟨ad268,e268,hx268_0⟩:=Kd.at_int (Kd.R_reads' HO_10.out).2.2 ((rd_T58 l0 x58_5).f0) p268 q268
                         obtain rfl:(⟨go23,0,none⟩:Addr)=ad268:=(by injection e268)
                         (first|simp only[add_plain] at hx268_0|simp only[add_at] at hx268_0|simp only[Addr.add,Nat.zero_add] at hx268_0|skip)
                         have hn268_0:(⟨go23,0,none⟩:Addr).block≠gb266:=Kd.own_blk (Kd.R_ne HO_10.out BK266.out (b7_))
                         have hn268_1:(⟨go23,0,none⟩:Addr).block≠gb266:=Kd.own_blk (Kd.R_ne HO_10.out BK266.out (b7_))
                         have hn268_2:(⟨go23,0,none⟩:Addr).block≠gb266:=Kd.own_blk (Kd.R_ne HO_10.out BK266.out (b7_))
                         have hn268_3:(⟨go23,0,none⟩:Addr).block≠gb266:=Kd.own_blk (Kd.R_ne HO_10.out BK266.out (b7_))
                         have hn268_4:(⟨go23,0,none⟩:Addr).block≠gb266:=Kd.own_blk (Kd.R_ne HO_10.out BK266.out (b7_))
                         replace hx268_0:=(cell_far (p:=⟨gb266,0,none⟩) (bA hn268_0) (.int .i64 ((rd_T58 l0 x58_5).f0))).trans hx268_0
                         replace hx268_0:=(cell_far (p:=⟨gb266,1,none⟩) (bA hn268_1) (.int .i64 ((rd_T58 l0 x58_5).f1))).trans hx268_0
                         replace hx268_0:=(cell_far (p:=⟨gb266,2,none⟩) (bA hn268_2) (.int .i64 ((rd_T58 l0 x58_5).f2))).trans hx268_0
                         replace hx268_0:=(cell_far (p:=⟨gb266,3,none⟩) (bA hn268_3) (.int .i64 ((rd_T58 l0 x58_5).f3))).trans hx268_0
                         replace hx268_0:=(cell_far (p:=⟨gb266,4,none⟩) (bA hn268_4) (.int .i64 ((rd_T58 l0 x58_5).f4))).trans hx268_0
                         clear hn268_0 hn268_1 hn268_2 hn268_3 hn268_4
                         replace p268:=eq_true p268
                         replace q268:=eq_true q268
                         go_wp2
                         go_meet
                         case rel=>exact⟨_,(true),(bR),H',⟨by have:=HJ4.out;have:=HK2.out;have:=HK3.out;have:=HK4.out;have:=HK5.out;first|omega|exact Nat.le_refl _⟩,⟨by(try simp only[hl10_3]);(try simp only[hl10_4]);(try simp only[hl10_5]);(with_reducible repeat (first|apply Kd.R_alloc|apply Kd.R_drewN|apply Kd.R_drew));exact Kd.R_mono (Kd.R_far (p:=⟨gb266,4,none⟩) (Kd.R_far (p:=⟨gb266,3,none⟩) (Kd.R_far (p:=⟨gb266,2,none⟩) (Kd.R_far (p:=⟨gb266,1,none⟩) (Kd.R_far (p:=⟨gb266,0,none⟩) (Kd.R_types HO_10.out BK266.out (b7_)) (fun _ hk=>hk.2) (.int .i64 ((rd_T58 l0 x58_5).f0))) (fun _ hk=>hk.2) (.int .i64 ((rd_T58 l0 x58_5).f1))) (fun _ hk=>hk.2) (.int .i64 ((rd_T58 l0 x58_5).f2))) (fun _ hk=>hk.2) (.int .i64 ((rd_T58 l0 x58_5).f3))) (fun _ hk=>hk.2) (.int .i64 ((rd_T58 l0 x58_5).f4))) (fun _ hk=>trivial)⟩,⟨by(try simp only[hl10_3]);(try simp only[hl10_4]);(try simp only[hl10_5]);(with_reducible repeat (first|refine blk_drewN ?_ _|refine blk_drew ?_|refine blk_alloc ?_ _));refine blk_put (cs:=#[.int .i64 ((rd_T58 l0 x58_5).f0),.int .i64 ((rd_T58 l0 x58_5).f1),.int .i64 ((rd_T58 l0 x58_5).f2),.int .i64 ((rd_T58 l0 x58_5).f3),.int .i64 0]) ?_ 4 _ rfl;(with_reducible repeat (first|refine blk_drewN ?_ _|refine blk_drew ?_|refine blk_alloc ?_ _));refine blk_put (cs:=#[.int .i64 ((rd_T58 l0 x58_5).f0),.int .i64 ((rd_T58 l0 x58_5).f1),.int .i64 ((rd_T58 l0 x58_5).f2),.int .i64 0,.int .i64 0]) ?_ 3 _ rfl;(with_reducible repeat (first|refine blk_drewN ?_ _|refine blk_drew ?_|refine blk_alloc ?_ _));refine blk_put (cs:=#[.int .i64 ((rd_T58 l0 x58_5).f0),.int .i64 ((rd_T58 l0 x58_5).f1),.int .i64 0,.int .i64 0,.int .i64 0]) ?_ 2 _ rfl;(with_reducible repeat (first|refine blk_drewN ?_ _|refine blk_drew ?_|refine blk_alloc ?_ _));refine blk_put (cs:=#[.int .i64 ((rd_T58 l0 x58_5).f0),.int .i64 0,.int .i64 0,.int .i64 0,.int .i64 0]) ?_ 1 _ rfl;(with_reducible repeat (first|refine blk_drewN ?_ _|refine blk_drew ?_|refine blk_alloc ?_ _));refine blk_put (cs:=#[.int .i64 0,.int .i64 0,.int .i64 0,.int .i64 0,.int .i64 0]) ?_ 0 _ rfl;(with_reducible repeat (first|refine blk_drewN ?_ _|refine blk_drew ?_|refine blk_alloc ?_ _));exact BK266.out⟩,⟨bS GE266.out⟩⟩
                        ·rw[if_neg c38] at H
                         have c38b0:decide (x12_3 < (rd x10_5 ((rd_T58 l0 x58_5).f0)))=false:=decide_eq_false c38
                         clear c38
                         by_cases c40:x12_3 < ((rd_T58 l0 x58_5).f2)
                         ·rw[if_pos c40] at H
                          have c40b0:decide (x12_3 < ((rd_T58 l0 x58_5).f2))=true:=decide_eq_true c40
                          clear c40
                          have H':=Aside0.mk H
                          clear H
                          obtain⟨hcz41_0,hcz41_1,hcz41_2,hcz41_3,hcz41_4⟩:=cC5 BK266.out
                          obtain⟨hfz41_0,hfz41_1,hfz41_2,hfz41_3,hfz41_4⟩:=cF5 BK266.out
                          have p267:0≤(((rd_T58 l0 x58_5).f0):Int):=of_decide_eq_true (bD)
                          have q267:((rd_T58 l0 x58_5).f0) < (x10_5.length:Int):=of_decide_eq_true (bD)
                          obtain⟨ad267,e267,hx267_0⟩:=Kd.at_int (Kd.R_reads' HO_10.out).2.2 ((rd_T58 l0 x58_5).f0) p267 q267
                          obtain rfl:(⟨go23,0,none⟩:Addr)=ad267:=(by injection e267)
                          (first|simp only[add_plain] at hx267_0|simp only[add_at] at hx267_0|simp only[Addr.add,Nat.zero_add] at hx267_0|skip)
                          have hn267_0:(⟨go23,0,none⟩:Addr).block≠gb266:=Kd.own_blk (Kd.R_ne HO_10.out BK266.out (b7_))
                          have hn267_1:(⟨go23,0,none⟩:Addr).block≠gb266:=Kd.own_blk (Kd.R_ne HO_10.out BK266.out (b7_))
                          have hn267_2:(⟨go23,0,none⟩:Addr).block≠gb266:=Kd.own_blk (Kd.R_ne HO_10.out BK266.out (b7_))
                          have hn267_3:(⟨go23,0,none⟩:Addr).block≠gb266:=Kd.own_blk (Kd.R_ne HO_10.out BK266.out (b7_))
                          have hn267_4:(⟨go23,0,none⟩:Addr).block≠gb266:=Kd.own_blk (Kd.R_ne HO_10.out BK266.out (b7_))
                          replace hx267_0:=(cell_far (p:=⟨gb266,0,none⟩) (bA hn267_0) (.int .i64 ((rd_T58 l0 x58_5).f0))).trans hx267_0
                          replace hx267_0:=(cell_far (p:=⟨gb266,1,none⟩) (bA hn267_1) (.int .i64 ((rd_T58 l0 x58_5).f1))).trans hx267_0
                          replace hx267_0:=(cell_far (p:=⟨gb266,2,none⟩) (bA hn267_2) (.int .i64 ((rd_T58 l0 x58_5).f2))).trans hx267_0
                          replace hx267_0:=(cell_far (p:=⟨gb266,3,none⟩) (bA hn267_3) (.int .i64 ((rd_T58 l0 x58_5).f3))).trans hx267_0
                          replace hx267_0:=(cell_far (p:=⟨gb266,4,none⟩) (bA hn267_4) (.int .i64 ((rd_T58 l0 x58_5).f4))).trans hx267_0
                          clear hn267_0 hn267_1 hn267_2 hn267_3 hn267_4
                          replace p267:=eq_true p267
                          replace q267:=eq_true q267
                          have p268:0≤(((rd_T58 l0 x58_5).f0):Int):=of_decide_eq_true (bD)
                          have q268:((rd_T58 l0 x58_5).f0) < (x10_5.length:Int):=of_decide_eq_true (bD)
                          obtain⟨ad268,e268,hx268_0⟩:=Kd.at_int (Kd.R_reads' HO_10.out).2.2 ((rd_T58 l0 x58_5).f0) p268 q268
                          obtain rfl:(⟨go23,0,none⟩:Addr)=ad268:=(by injection e268)
                          (first|simp only[add_plain] at hx268_0|simp only[add_at] at hx268_0|simp only[Addr.add,Nat.zero_add] at hx268_0|skip)
                          have hn268_0:(⟨go23,0,none⟩:Addr).block≠gb266:=Kd.own_blk (Kd.R_ne HO_10.out BK266.out (b7_))
                          have hn268_1:(⟨go23,0,none⟩:Addr).block≠gb266:=Kd.own_blk (Kd.R_ne HO_10.out BK266.out (b7_))
                          have hn268_2:(⟨go23,0,none⟩:Addr).block≠gb266:=Kd.own_blk (Kd.R_ne HO_10.out BK266.out (b7_))
                          have hn268_3:(⟨go23,0,none⟩:Addr).block≠gb266:=Kd.own_blk (Kd.R_ne HO_10.out BK266.out (b7_))
                          have hn268_4:(⟨go23,0,none⟩:Addr).block≠gb266:=Kd.own_blk (Kd.R_ne HO_10.out BK266.out (b7_))
                          replace hx268_0:=(cell_far (p:=⟨gb266,0,none⟩) (bA hn268_0) (.int .i64 ((rd_T58 l0 x58_5).f0))).trans hx268_0
                          replace hx268_0:=(cell_far (p:=⟨gb266,1,none⟩) (bA hn268_1) (.int .i64 ((rd_T58 l0 x58_5).f1))).trans hx268_0
                          replace hx268_0:=(cell_far (p:=⟨gb266,2,none⟩) (bA hn268_2) (.int .i64 ((rd_T58 l0 x58_5).f2))).trans hx268_0
                          replace hx268_0:=(cell_far (p:=⟨gb266,3,none⟩) (bA hn268_3) (.int .i64 ((rd_T58 l0 x58_5).f3))).trans hx268_0
                          replace hx268_0:=(cell_far (p:=⟨gb266,4,none⟩) (bA hn268_4) (.int .i64 ((rd_T58 l0 x58_5).f4))).trans hx268_0
                          clear hn268_0 hn268_1 hn268_2 hn268_3 hn268_4
                          replace p268:=eq_true p268
                          replace q268:=eq_true q268
                          go_wp2
                          go_meet
                          case rel=>exact⟨_,(true),(bR),H',⟨by have:=HJ4.out;have:=HK2.out;have:=HK3.out;have:=HK4.out;have:=HK5.out;first|omega|exact Nat.le_refl _⟩,⟨by(try simp only[hl10_3]);(try simp only[hl10_4]);(try simp only[hl10_5]);(with_reducible repeat (first|apply Kd.R_alloc|apply Kd.R_drewN|apply Kd.R_drew));exact Kd.R_mono (Kd.R_far (p:=⟨gb266,4,none⟩) (Kd.R_far (p:=⟨gb266,3,none⟩) (Kd.R_far (p:=⟨gb266,2,none⟩) (Kd.R_far (p:=⟨gb266,1,none⟩) (Kd.R_far (p:=⟨gb266,0,none⟩) (Kd.R_types HO_10.out BK266.out (b7_)) (fun _ hk=>hk.2) (.int .i64 ((rd_T58 l0 x58_5).f0))) (fun _ hk=>hk.2) (.int .i64 ((rd_T58 l0 x58_5).f1))) (fun _ hk=>hk.2) (.int .i64 ((rd_T58 l0 x58_5).f2))) (fun _ hk=>hk.2) (.int .i64 ((rd_T58 l0 x58_5).f3))) (fun _ hk=>hk.2) (.int .i64 ((rd_T58 l0 x58_5).f4))) (fun _ hk=>trivial)⟩,⟨by(try simp only[hl10_3]);(try simp only[hl10_4]);(try simp only[hl10_5]);(with_reducible repeat (first|refine blk_drewN ?_ _|refine blk_drew ?_|refine blk_alloc ?_ _));refine blk_put (cs:=#[.int .i64 ((rd_T58 l0 x58_5).f0),.int .i64 ((rd_T58 l0 x58_5).f1),.int .i64 ((rd_T58 l0 x58_5).f2),.int .i64 ((rd_T58 l0 x58_5).f3),.int .i64 0]) ?_ 4 _ rfl;(with_reducible repeat (first|refine blk_drewN ?_ _|refine blk_drew ?_|refine blk_alloc ?_ _));refine blk_put (cs:=#[.int .i64 ((rd_T58 l0 x58_5).f0),.int .i64 ((rd_T58 l0 x58_5).f1),.int .i64 ((rd_T58 l0 x58_5).f2),.int .i64 0,.int .i64 0]) ?_ 3 _ rfl;(with_reducible repeat (first|refine blk_drewN ?_ _|refine blk_drew ?_|refine blk_alloc ?_ _));refine blk_put (cs:=#[.int .i64 ((rd_T58 l0 x58_5).f0),.int .i64 ((rd_T58 l0 x58_5).f1),.int .i64 0,.int .i64 0,.int .i64 0]) ?_ 2 _ rfl;(with_reducible repeat (first|refine blk_drewN ?_ _|refine blk_drew ?_|refine blk_alloc ?_ _));refine blk_put (cs:=#[.int .i64 ((rd_T58 l0 x58_5).f0),.int .i64 0,.int .i64 0,.int .i64 0,.int .i64 0]) ?_ 1 _ rfl;(with_reducible repeat (first|refine blk_drewN ?_ _|refine blk_drew ?_|refine blk_alloc ?_ _));refine blk_put (cs:=#[.int .i64 0,.int .i64 0,.int .i64 0,.int .i64 0,.int .i64 0]) ?_ 0 _ rfl;(with_reducible repeat (first|refine blk_drewN ?_ _|refine blk_drew ?_|refine blk_alloc ?_ _));exact BK266.out⟩,⟨bS GE266.out⟩⟩
                         ·rw[if_neg c40] at H
                          have c40b0:decide (x12_3 < ((rd_T58 l0 x58_5).f2))=false:=decide_eq_false c40
                          clear c40
                          have H':=Aside0.mk H
                          clear H
                          obtain⟨hcz42_0,hcz42_1,hcz42_2,hcz42_3,hcz42_4⟩:=cC5 BK266.out
                          obtain⟨hfz42_0,hfz42_1,hfz42_2,hfz42_3,hfz42_4⟩:=cF5 BK266.out
                          have p267:0≤(((rd_T58 l0 x58_5).f0):Int):=of_decide_eq_true (bD)
                          have q267:((rd_T58 l0 x58_5).f0) < (x10_5.length:Int):=of_decide_eq_true (bD)
                          obtain⟨ad267,e267,hx267_0⟩:=Kd.at_int (Kd.R_reads' HO_10.out).2.2 ((rd_T58 l0 x58_5).f0) p267 q267
                          obtain rfl:(⟨go23,0,none⟩:Addr)=ad267:=(by injection e267)
                          (first|simp only[add_plain] at hx267_0|simp only[add_at] at hx267_0|simp only[Addr.add,Nat.zero_add] at hx267_0|skip)
                          have hn267_0:(⟨go23,0,none⟩:Addr).block≠gb266:=Kd.own_blk (Kd.R_ne HO_10.out BK266.out (b7_))
                          have hn267_1:(⟨go23,0,none⟩:Addr).block≠gb266:=Kd.own_blk (Kd.R_ne HO_10.out BK266.out (b7_))
                          have hn267_2:(⟨go23,0,none⟩:Addr).block≠gb266:=Kd.own_blk (Kd.R_ne HO_10.out BK266.out (b7_))
                          have hn267_3:(⟨go23,0,none⟩:Addr).block≠gb266:=Kd.own_blk (Kd.R_ne HO_10.out BK266.out (b7_))
                          have hn267_4:(⟨go23,0,none⟩:Addr).block≠gb266:=Kd.own_blk (Kd.R_ne HO_10.out BK266.out (b7_))
                          replace hx267_0:=(cell_far (p:=⟨gb266,0,none⟩) (bA hn267_0) (.int .i64 ((rd_T58 l0 x58_5).f0))).trans hx267_0
                          replace hx267_0:=(cell_far (p:=⟨gb266,1,none⟩) (bA hn267_1) (.int .i64 ((rd_T58 l0 x58_5).f1))).trans hx267_0
                          replace hx267_0:=(cell_far (p:=⟨gb266,2,none⟩) (bA hn267_2) (.int .i64 ((rd_T58 l0 x58_5).f2))).trans hx267_0
                          replace hx267_0:=(cell_far (p:=⟨gb266,3,none⟩) (bA hn267_3) (.int .i64 ((rd_T58 l0 x58_5).f3))).trans hx267_0
                          replace hx267_0:=(cell_far (p:=⟨gb266,4,none⟩) (bA hn267_4) (.int .i64 ((rd_T58 l0 x58_5).f4))).trans hx267_0
                          clear hn267_0 hn267_1 hn267_2 hn267_3 hn267_4
                          replace p267:=eq_true p267
                          replace q267:=eq_true q267
                          have p268:0≤(((rd_T58 l0 x58_5).f0):Int):=of_decide_eq_true (bD)
                          have q268:((rd_T58 l0 x58_5).f0) < (x10_5.length:Int):=of_decide_eq_true (bD)
                          obtain⟨ad268,e268,hx268_0⟩:=Kd.at_int (Kd.R_reads' HO_10.out).2.2 ((rd_T58 l0 x58_5).f0) p268 q268
                          obtain rfl:(⟨go23,0,none⟩:Addr)=ad268:=(by injection e268)
                          (first|simp only[add_plain] at hx268_0|simp only[add_at] at hx268_0|simp only[Addr.add,Nat.zero_add] at hx268_0|skip)
                          have hn268_0:(⟨go23,0,none⟩:Addr).block≠gb266:=Kd.own_blk (Kd.R_ne HO_10.out BK266.out (b7_))
                          have hn268_1:(⟨go23,0,none⟩:Addr).block≠gb266:=Kd.own_blk (Kd.R_ne HO_10.out BK266.out (b7_))
                          have hn268_2:(⟨go23,0,none⟩:Addr).block≠gb266:=Kd.own_blk (Kd.R_ne HO_10.out BK266.out (b7_))
                          have hn268_3:(⟨go23,0,none⟩:Addr).block≠gb266:=Kd.own_blk (Kd.R_ne HO_10.out BK266.out (b7_))
                          have hn268_4:(⟨go23,0,none⟩:Addr).block≠gb266:=Kd.own_blk (Kd.R_ne HO_10.out BK266.out (b7_))
                          replace hx268_0:=(cell_far (p:=⟨gb266,0,none⟩) (bA hn268_0) (.int .i64 ((rd_T58 l0 x58_5).f0))).trans hx268_0
                          replace hx268_0:=(cell_far (p:=⟨gb266,1,none⟩) (bA hn268_1) (.int .i64 ((rd_T58 l0 x58_5).f1))).trans hx268_0
                          replace hx268_0:=(cell_far (p:=⟨gb266,2,none⟩) (bA hn268_2) (.int .i64 ((rd_T58 l0 x58_5).f2))).trans hx268_0
                          replace hx268_0:=(cell_far (p:=⟨gb266,3,none⟩) (bA hn268_3) (.int .i64 ((rd_T58 l0 x58_5).f3))).trans hx268_0
                          replace hx268_0:=(cell_far (p:=⟨gb266,4,none⟩) (bA hn268_4) (.int .i64 ((rd_T58 l0 x58_5).f4))).trans hx268_0
                          clear hn268_0 hn268_1 hn268_2 hn268_3 hn268_4
                          replace p268:=eq_true p268
                          replace q268:=eq_true q268
                          go_wp2
                          go_meet
                          case rel=>exact⟨_,(decide (x12_3 ≥ ((rd_T58 l0 x58_5).f3))),(bR),H',⟨by have:=HJ4.out;have:=HK2.out;have:=HK3.out;have:=HK4.out;have:=HK5.out;first|omega|exact Nat.le_refl _⟩,⟨by(try simp only[hl10_3]);(try simp only[hl10_4]);(try simp only[hl10_5]);(with_reducible repeat (first|apply Kd.R_alloc|apply Kd.R_drewN|apply Kd.R_drew));exact Kd.R_mono (Kd.R_far (p:=⟨gb266,4,none⟩) (Kd.R_far (p:=⟨gb266,3,none⟩) (Kd.R_far (p:=⟨gb266,2,none⟩) (Kd.R_far (p:=⟨gb266,1,none⟩) (Kd.R_far (p:=⟨gb266,0,none⟩) (Kd.R_types HO_10.out BK266.out (b7_)) (fun _ hk=>hk.2) (.int .i64 ((rd_T58 l0 x58_5).f0))) (fun _ hk=>hk.2) (.int .i64 ((rd_T58 l0 x58_5).f1))) (fun _ hk=>hk.2) (.int .i64 ((rd_T58 l0 x58_5).f2))) (fun _ hk=>hk.2) (.int .i64 ((rd_T58 l0 x58_5).f3))) (fun _ hk=>hk.2) (.int .i64 ((rd_T58 l0 x58_5).f4))) (fun _ hk=>trivial)⟩,⟨by(try simp only[hl10_3]);(try simp only[hl10_4]);(try simp only[hl10_5]);(with_reducible repeat (first|refine blk_drewN ?_ _|refine blk_drew ?_|refine blk_alloc ?_ _));refine blk_put (cs:=#[.int .i64 ((rd_T58 l0 x58_5).f0),.int .i64 ((rd_T58 l0 x58_5).f1),.int .i64 ((rd_T58 l0 x58_5).f2),.int .i64 ((rd_T58 l0 x58_5).f3),.int .i64 0]) ?_ 4 _ rfl;(with_reducible repeat (first|refine blk_drewN ?_ _|refine blk_drew ?_|refine blk_alloc ?_ _));refine blk_put (cs:=#[.int .i64 ((rd_T58 l0 x58_5).f0),.int .i64 ((rd_T58 l0 x58_5).f1),.int .i64 ((rd_T58 l0 x58_5).f2),.int .i64 0,.int .i64 0]) ?_ 3 _ rfl;(with_reducible repeat (first|refine blk_drewN ?_ _|refine blk_drew ?_|refine blk_alloc ?_ _));refine blk_put (cs:=#[.int .i64 ((rd_T58 l0 x58_5).f0),.int .i64 ((rd_T58 l0 x58_5).f1),.int .i64 0,.int .i64 0,.int .i64 0]) ?_ 2 _ rfl;(with_reducible repeat (first|refine blk_drewN ?_ _|refine blk_drew ?_|refine blk_alloc ?_ _));refine blk_put (cs:=#[.int .i64 ((rd_T58 l0 x58_5).f0),.int .i64 0,.int .i64 0,.int .i64 0,.int .i64 0]) ?_ 1 _ rfl;(with_reducible repeat (first|refine blk_drewN ?_ _|refine blk_drew ?_|refine blk_alloc ?_ _));refine blk_put (cs:=#[.int .i64 0,.int .i64 0,.int .i64 0,.int .i64 0,.int .i64 0]) ?_ 0 _ rfl;(with_reducible repeat (first|refine blk_drewN ?_ _|refine blk_drew ?_|refine blk_alloc ?_ _));exact BK266.out⟩,⟨bS GE266.out⟩⟩
                      ·rw[if_neg c35] at H
                       exact absurd H (by simp)
                     ·rw[if_neg c34] at H
                      exact absurd H (by simp)
                    case rest =>
                     clear HC31
                     try clear c1
                     try clear c2
                     try clear p2
                     try clear q2
                     try clear hx2
                     try clear c3
                     try clear c4
                     try clear p6
                     try clear c7
                     try clear c9
                     try clear c11
                     try clear c12
                     try clear c17
                     try clear c18
                     try clear c18b0
                     try clear c19
                     try clear c21
                     try clear c21b0
                     try clear c22
                     try clear c22b0
                     try clear p23
                     try clear q23
                     try clear hx23
                     try clear hf23
                     try clear c26
                     try clear c26b0
                     try clear p26
                     try clear q26
                     try clear hx26
                     try clear c27
                     try clear c28
                     try clear c28b0
                     try clear c29
                     try clear c29b0
                     try clear c30
                     try clear c30b0
                     try clear c31
                     try clear c34
                     try clear c34b0
                     try clear c35
                     try clear c35b0
                     try clear c36
                     try clear c36b0
                     try clear c38
                     try clear c38b0
                     try clear c40
                     try clear c40b0
                     try clear hcz33_0 hcz33_1 hcz33_2 hcz33_3 hcz33_4
                     try clear hcz37_0 hcz37_1 hcz37_2 hcz37_3 hcz37_4
                     try clear hcz39_0 hcz39_1 hcz39_2 hcz39_3 hcz39_4
                     try clear hcz41_0 hcz41_1 hcz41_2 hcz41_3 hcz41_4
                     try clear hcz42_0 hcz42_1 hcz42_2 hcz42_3 hcz42_4
                     try clear hfz33_0 hfz33_1 hfz33_2 hfz33_3 hfz33_4
                     try clear hfz37_0 hfz37_1 hfz37_2 hfz37_3 hfz37_4
                     try clear hfz39_0 hfz39_1 hfz39_2 hfz39_3 hfz39_4
                     try clear hfz41_0 hfz41_1 hfz41_2 hfz41_3 hfz41_4
                     try clear hfz42_0 hfz42_1 hfz42_2 hfz42_3 hfz42_4
                     try clear hx23_0
                     try clear hx265_0
                     try clear hx265_1
                     try clear hx265_2
                     try clear hx265_3
                     try clear hx265_4
                     try clear hx267_0
                     try clear hx268_0
                     try clear p2
                     try clear p23
                     try clear p265
                     try clear p267
                     try clear p268
                     try clear p6
                     try clear q2
                     try clear q23
                     try clear q265
                     try clear q267
                     try clear q268
                     obtain⟨kq,x88_30,rfl,HA,HJ30,HO_10,BK266,HB⟩:=hcut
                     cases kq with
                     | zero=>exact absurd HA.out (by simp[spec_FloodUntil.j5])
                     | succ kj30 =>
                      have H:=HA.out
                      clear HA
                      simp only[spec_FloodUntil.j5] at H
                      by_cases c43:x88_30=true
                      ·subst c43
                       have H1:(spec_FloodUntil.l3 kj30 l0 a3 x10_5 x12_3 x13_5 l0 (l0.length:Int) (wrap64 (x58_5+1)))=some (r1,r2):=by rw[if_pos rfl] at H;exact H
                       clear H
                       have H:=H1
                       clear H1
                       have H':=Aside0.mk H
                       clear H
                       go_wp2
                       (try simp only[← hl10_5])
                       go_roundg kj30
                       case measure=>have:=HJ4.out;have:=HK2.out;have:=HK3.out;have:=HK4.out;have:=HK5.out;have:=HJ30.out;omega
                       case rel=>exact⟨(x10_5),(x13_5),(wrap64 (x58_5+1)),(bR),(bR),H',⟨by have:=HJ4.out;have:=HK2.out;have:=HK3.out;have:=HK4.out;have:=HK5.out;have:=HJ30.out;omega⟩,⟨by(try simp only[hl10_3]);(try simp only[hl10_4]);(try simp only[hl10_5]);(with_reducible repeat (first|apply Kd.R_alloc|apply Kd.R_drewN|apply Kd.R_drew));exact HO_10.out⟩,⟨bS GE266.out⟩⟩
                      ·replace c43:=Bool.eq_false_iff.mpr c43
                       subst c43
                       have H1:(if 0≤((rd_T58 l0 x58_5).f1) then (if ((rd_T58 l0 x58_5).f1) < (x10_5.length:Int) then (if (rd x10_5 ((rd_T58 l0 x58_5).f1)) < 0 then (spec_FloodUntil.l3 kj30 l0 a3 (x10_5.set (((rd_T58 l0 x58_5).f1):Int).toNat (wrap64 (x12_3+((rd_T58 l0 x58_5).f4)))) x12_3 true l0 (l0.length:Int) (wrap64 (x58_5+1))) else (if (wrap64 (x12_3+((rd_T58 l0 x58_5).f4))) < (rd x10_5 ((rd_T58 l0 x58_5).f1)) then (spec_FloodUntil.l3 kj30 l0 a3 (x10_5.set (((rd_T58 l0 x58_5).f1):Int).toNat (wrap64 (x12_3+((rd_T58 l0 x58_5).f4)))) x12_3 true l0 (l0.length:Int) (wrap64 (x58_5+1))) else (spec_FloodUntil.l3 kj30 l0 a3 x10_5 x12_3 x13_5 l0 (l0.length:Int) (wrap64 (x58_5+1))))) else (none)) else (none))=some (r1,r2):=by rw[if_neg (show ¬ (false=true) by decide)] at H;exact H
                       clear H
                       have H:=H1
                       clear H1
                       by_cases c44:0≤((rd_T58 l0 x58_5).f1)
                       ·rw[if_pos c44] at H
                        have c44b0:decide (0≤((rd_T58 l0 x58_5).f1))=true:=decide_eq_true c44
                        clear c44
                        by_cases c45:((rd_T58 l0 x58_5).f1) < (x10_5.length:Int)
                        ·rw[if_pos c45] at H
                         have c45b0:decide (((rd_T58 l0 x58_5).f1) < (x10_5.length:Int))=true:=decide_eq_true c45
                         clear c45
                         by_cases c46:(rd x10_5 ((rd_T58 l0 x58_5).f1)) < 0
                         ·rw[if_pos c46] at H
                          have c46b0:decide ((rd x10_5 ((rd_T58 l0 x58_5).f1)) < 0)=true:=decide_eq_true c46
                          clear c46
                          obtain⟨y270,hy270⟩ : ∃ y_:List Int,y_=(x10_5.set (((rd_T58 l0 x58_5).f1):Int).toNat (wrap64 (x12_3+((rd_T58 l0 x58_5).f4)))):=⟨_,rfl⟩
                          replace H:(spec_FloodUntil.l3 kj30 l0 a3 y270 x12_3 true l0 (l0.length:Int) (wrap64 (x58_5+1)))=some (r1,r2):=by first|(rw[hy270];with_reducible exact H)|(have H2_:=(Option.bind_some _ _).symm.trans H;rw[hy270];with_reducible exact H2_)|(have H2_:=(Option.bind_some _ _).symm.trans H;with_reducible exact H2_)|with_reducible exact H|(rw[hy270];exact H)|exact H
                          have Ny270:=Aside0.mk hy270
                          clear hy270
                          have H':=Aside0.mk H
                          clear H
                          obtain⟨hcz48_0,hcz48_1,hcz48_2,hcz48_3,hcz48_4⟩:=cC5 BK266.out
                          obtain⟨hfz48_0,hfz48_1,hfz48_2,hfz48_3,hfz48_4⟩:=cF5 BK266.out
                          have p269:0≤(((rd_T58 l0 x58_5).f1):Int):=of_decide_eq_true (bD)
                          have q269:((rd_T58 l0 x58_5).f1) < (x10_5.length:Int):=of_decide_eq_true (bD)
                          obtain⟨ad269,e269,hx269_0⟩:=Kd.at_int (Kd.R_reads' HO_10.out).2.2 ((rd_T58 l0 x58_5).f1) p269 q269
                          obtain rfl:(⟨go23,0,none⟩:Addr)=ad269:=(by injection e269)
                          (first|simp only[add_plain] at hx269_0|simp only[add_at] at hx269_0|simp only[Addr.add,Nat.zero_add] at hx269_0|skip)
                          replace p269:=eq_true p269
                          replace q269:=eq_true q269
                          have p47:0≤(((rd_T58 l0 x58_5).f1):Int):=of_decide_eq_true (bD)
                          have q47:(((rd_T58 l0 x58_5).f1):Int) < ((x10_5.length:Int):Int):=of_decide_eq_true (bD)
                          obtain⟨hx47_0,hf47_0⟩:=Kd.R_celln 0 HO_10.out (((rd_T58 l0 x58_5).f1):Int) p47 q47
                          replace p47:=eq_true p47
                          replace q47:=eq_true q47
                          have HP49:=Kd.R_putg HO_10.out (((rd_T58 l0 x58_5).f1):Int) (wrap64 (x12_3+((rd_T58 l0 x58_5).f4)))
                          go_wp2_with (first|((with_reducible refine gate_store (t:=3) (p:=112) rfl ?_);refine store_event (t:=3) (p:=112) (v:=?vo_w50) (w1:=(wc.setCell ⟨go23,(((rd_T58 l0 x58_5).f1):Int).toNat,none⟩ (.int .i64 (wrap64 (x12_3+((rd_T58 l0 x58_5).f4)))))) ?hg ?ho ?hn ?hr ?_;(case ho=>rfl);(case hg=>rfl);(case hn=>rfl);(case hr=>first|(go_simp;done)|(go_simp;rfl));intro w50 hw;have hg:wc.grownBy w50 (some go23):=(by rw[hw];exact HP49.2);have hp_:Kd.R (Kd.int .i64) 3 w50 w.heap.size (fun _=>True) (.slice (some ⟨go23,0,none⟩) x10_5.length co23) y270:=(by rw[hw,Ny270.out];exact HP49.1);clear HP49;have n0_:=Aside0.mk (hp_);have n1_:=Aside0.mk (blk_grown (g:=gb266) (o:=.cells #[.int .i64 ((rd_T58 l0 x58_5).f0),.int .i64 ((rd_T58 l0 x58_5).f1),.int .i64 ((rd_T58 l0 x58_5).f2),.int .i64 ((rd_T58 l0 x58_5).f3),.int .i64 ((rd_T58 l0 x58_5).f4)] 58 (0,0)) (bL BK266.out) hg (Kd.R_ne HO_10.out BK266.out (b7_)));have n2_:=Aside0.mk ((by rw[hw];exact below_set (HB.out) GB23.out:Below w.heap.size w w50));clear HO_10 BK266 HB;have HO_10:=n0_;have BK266:=n1_;have HB:=n2_;clear n0_ n1_ n2_;clear hg hw hp_))
                          (try simp only[← hl10_5])
                          go_roundg kj30
                          case measure=>have:=HJ4.out;have:=HK2.out;have:=HK3.out;have:=HK4.out;have:=HK5.out;have:=HJ30.out;omega
                          case rel=>exact⟨(y270),(true),(wrap64 (x58_5+1)),(bR),(bR),H',⟨by have:=HJ4.out;have:=HK2.out;have:=HK3.out;have:=HK4.out;have:=HK5.out;have:=HJ30.out;omega⟩,⟨by(try simp only[hl10_3]);(try simp only[hl10_4]);(try simp only[hl10_5]);(with_reducible repeat (first|apply Kd.R_alloc|apply Kd.R_drewN|apply Kd.R_drew));exact HO_10.out⟩,⟨bS GE266.out⟩⟩
                         ·rw[if_neg c46] at H
                          have c46b0:decide ((rd x10_5 ((rd_T58 l0 x58_5).f1)) < 0)=false:=decide_eq_false c46
                          clear c46
                          by_cases c51:(wrap64 (x12_3+((rd_T58 l0 x58_5).f4))) < (rd x10_5 ((rd_T58 l0 x58_5).f1))
                          ·rw[if_pos c51] at H
                           have c51b0:decide ((wrap64 (x12_3+((rd_T58 l0 x58_5).f4))) < (rd x10_5 ((rd_T58 l0 x58_5).f1)))=true:=decide_eq_true c51
                           clear c51
                           obtain⟨y272,hy272⟩ : ∃ y_:List Int,y_=(x10_5.set (((rd_T58 l0 x58_5).f1):Int).toNat (wrap64 (x12_3+((rd_T58 l0 x58_5).f4)))):=⟨_,rfl⟩
                           replace H:(spec_FloodUntil.l3 kj30 l0 a3 y272 x12_3 true l0 (l0.length:Int) (wrap64 (x58_5+1)))=some (r1,r2):=by first|(rw[hy272];with_reducible exact H)|(have H2_:=(Option.bind_some _ _).symm.trans H;rw[hy272];with_reducible exact H2_)|(have H2_:=(Option.bind_some _ _).symm.trans H;with_reducible exact H2_)|with_reducible exact H|(rw[hy272];exact H)|exact H
                           have Ny272:=Aside0.mk hy272
                           clear hy272
                           have H':=Aside0.mk H
                           clear H
                           obtain⟨hcz53_0,hcz53_1,hcz53_2,hcz53_3,hcz53_4⟩:=cC5 BK266.out
                           obtain⟨hfz53_0,hfz53_1,hfz53_2,hfz53_3,hfz53_4⟩:=cF5 BK266.out
                           have p269:0≤(((rd_T58 l0 x58_5).f1):Int):=of_decide_eq_true (bD)
                           have q269:((rd_T58 l0 x58_5).f1) < (x10_5.length:Int):=of_decide_eq_true (bD)
                           obtain⟨ad269,e269,hx269_0⟩:=Kd.at_int (Kd.R_reads' HO_10.out).2.2 ((rd_T58 l0 x58_5).f1) p269 q269
                           obtain rfl:(⟨go23,0,none⟩:Addr)=ad269:=(by injection e269)
                           (first|simp only[add_plain] at hx269_0|simp only[add_at] at hx269_0|simp only[Addr.add,Nat.zero_add] at hx269_0|skip)
                           replace p269:=eq_true p269
                           replace q269:=eq_true q269
                           have p271:0≤(((rd_T58 l0 x58_5).f1):Int):=of_decide_eq_true (bD)
                           have q271:((rd_T58 l0 x58_5).f1) < (x10_5.length:Int):=of_decide_eq_true (bD)
                           obtain⟨ad271,e271,hx271_0⟩:=Kd.at_int (Kd.R_reads' HO_10.out).2.2 ((rd_T58 l0 x58_5).f1) p271 q271
                           obtain rfl:(⟨go23,0,none⟩:Addr)=ad271:=(by injection e271)
                           (first|simp only[add_plain] at hx271_0|simp only[add_at] at hx271_0|simp only[Addr.add,Nat.zero_add] at hx271_0|skip)
                           replace p271:=eq_true p271
                           replace q271:=eq_true q271
                           have p52:0≤(((rd_T58 l0 x58_5).f1):Int):=of_decide_eq_true (bD)
                           have q52:(((rd_T58 l0 x58_5).f1):Int) < ((x10_5.length:Int):Int):=of_decide_eq_true (bD)
                           obtain⟨hx52_0,hf52_0⟩:=Kd.R_celln 0 HO_10.out (((rd_T58 l0 x58_5).f1):Int) p52 q52
                           replace p52:=eq_true p52
                           replace q52:=eq_true q52
                           have HP54:=Kd.R_putg HO_10.out (((rd_T58 l0 x58_5).f1):Int) (wrap64 (x12_3+((rd_T58 l0 x58_5).f4)))
                           go_wp2_with (first|((with_reducible refine gate_store (t:=3) (p:=112) rfl ?_);refine store_event (t:=3) (p:=112) (v:=?vo_w55) (w1:=(wc.setCell ⟨go23,(((rd_T58 l0 x58_5).f1):Int).toNat,none⟩ (.int .i64 (wrap64 (x12_3+((rd_T58 l0 x58_5).f4)))))) ?hg ?ho ?hn ?hr ?_;(case ho=>rfl);(case hg=>rfl);(case hn=>rfl);(case hr=>first|(go_simp;done)|(go_simp;rfl));intro w55 hw;have hg:wc.grownBy w55 (some go23):=(by rw[hw];exact HP54.2);have hp_:Kd.R (Kd.int .i64) 3 w55 w.heap.size (fun _=>True) (.slice (some ⟨go23,0,none⟩) x10_5.length co23) y272:=(by rw[hw,Ny272.out];exact HP54.1);clear HP54;have n0_:=Aside0.mk (hp_);have n1_:=Aside0.mk (blk_grown (g:=gb266) (o:=.cells #[.int .i64 ((rd_T58 l0 x58_5).f0),.int .i64 ((rd_T58 l0 x58_5).f1),.int .i64 ((rd_T58 l0 x58_5).f2),.int .i64 ((rd_T58 l0 x58_5).f3),.int .i64 ((rd_T58 l0 x58_5).f4)] 58 (0,0)) (bL BK266.out) hg (Kd.R_ne HO_10.out BK266.out (b7_)));have n2_:=Aside0.mk ((by rw[hw];exact below_set (HB.out) GB23.out:Below w.heap.size w w55));clear HO_10 BK266 HB;have HO_10:=n0_;have BK266:=n1_;have HB:=n2_;clear n0_ n1_ n2_;clear hg hw hp_))
                           (try simp only[← hl10_5])
                           go_roundg kj30
                           case measure=>have:=HJ4.out;have:=HK2.out;have:=HK3.out;have:=HK4.out;have:=HK5.out;have:=HJ30.out;omega
                           case rel=>exact⟨(y272),(true),(wrap64 (x58_5+1)),(bR),(bR),H',⟨by have:=HJ4.out;have:=HK2.out;have:=HK3.out;have:=HK4.out;have:=HK5.out;have:=HJ30.out;omega⟩,⟨by(try simp only[hl10_3]);(try simp only[hl10_4]);(try simp only[hl10_5]);(with_reducible repeat (first|apply Kd.R_alloc|apply Kd.R_drewN|apply Kd.R_drew));exact HO_10.out⟩,⟨bS GE266.out⟩⟩
                          ·rw[if_neg c51] at H
                           have c51b0:decide ((wrap64 (x12_3+((rd_T58 l0 x58_5).f4))) < (rd x10_5 ((rd_T58 l0 x58_5).f1)))=false:=decide_eq_false c51
                           clear c51
                           have H':=Aside0.mk H
                           clear H
                           obtain⟨hcz56_0,hcz56_1,hcz56_2,hcz56_3,hcz56_4⟩:=cC5 BK266.out
                           obtain⟨hfz56_0,hfz56_1,hfz56_2,hfz56_3,hfz56_4⟩:=cF5 BK266.out
                           have p269:0≤(((rd_T58 l0 x58_5).f1):Int):=of_decide_eq_true (bD)
                           have q269:((rd_T58 l0 x58_5).f1) < (x10_5.length:Int):=of_decide_eq_true (bD)
                           obtain⟨ad269,e269,hx269_0⟩:=Kd.at_int (Kd.R_reads' HO_10.out).2.2 ((rd_T58 l0 x58_5).f1) p269 q269
                           obtain rfl:(⟨go23,0,none⟩:Addr)=ad269:=(by injection e269)
                           (first|simp only[add_plain] at hx269_0|simp only[add_at] at hx269_0|simp only[Addr.add,Nat.zero_add] at hx269_0|skip)
                           replace p269:=eq_true p269
                           replace q269:=eq_true q269
                           have p271:0≤(((rd_T58 l0 x58_5).f1):Int):=of_decide_eq_true (bD)
                           have q271:((rd_T58 l0 x58_5).f1) < (x10_5.length:Int):=of_decide_eq_true (bD)
                           obtain⟨ad271,e271,hx271_0⟩:=Kd.at_int (Kd.R_reads' HO_10.out).2.2 ((rd_T58 l0 x58_5).f1) p271 q271
                           obtain rfl:(⟨go23,0,none⟩:Addr)=ad271:=(by injection e271)
                           (first|simp only[add_plain] at hx271_0|simp only[add_at] at hx271_0|simp only[Addr.add,Nat.zero_add] at hx271_0|skip)
                           replace p271:=eq_true p271
                           replace q271:=eq_true q271
                           go_wp2
                           (try simp only[← hl10_5])
                           go_roundg kj30
                           case measure=>have:=HJ4.out;have:=HK2.out;have:=HK3.out;have:=HK4.out;have:=HK5.out;have:=HJ30.out;omega
                           case rel=>exact⟨(x10_5),(x13_5),(wrap64 (x58_5+1)),(bR),(bR),H',⟨by have:=HJ4.out;have:=HK2.out;have:=HK3.out;have:=HK4.out;have:=HK5.out;have:=HJ30.out;omega⟩,⟨by(try simp only[hl10_3]);(try simp only[hl10_4]);(try simp only[hl10_5]);(with_reducible repeat (first|apply Kd.R_alloc|apply Kd.R_drewN|apply Kd.R_drew));exact HO_10.out⟩,⟨bS GE266.out⟩⟩
                        ·rw[if_neg c45] at H
                         exact absurd H (by simp)
                       ·rw[if_neg c44] at H
                        exact absurd H (by simp)
                   ·rw[if_neg c30] at H
                    exact absurd H (by simp)
                  ·rw[if_neg c29] at H
                   exact absurd H (by simp)
                 ·rw[if_neg c28] at H
                  have c28b0:decide (x58_5 < (l0.length:Int))=false:=decide_eq_false c28
                  clear c28
                  have H':=Aside0.mk H
                  clear H
                  go_wp2
                  (try simp only[← hl10_4,← hl10_5])
                  go_roundg k5
                  case measure=>have:=HJ4.out;have:=HK2.out;have:=HK3.out;have:=HK4.out;have:=HK5.out;omega
                  case rel=>exact⟨(x10_5),(x13_5),(bR),H',⟨by have:=HJ4.out;have:=HK2.out;have:=HK3.out;have:=HK4.out;have:=HK5.out;omega⟩,⟨by(try simp only[hl10_3]);(try simp only[hl10_4]);(try simp only[hl10_5]);(with_reducible repeat (first|apply Kd.R_alloc|apply Kd.R_drewN|apply Kd.R_drew));exact HO_10.out⟩,⟨by repeat (first|(with_reducible first|exact HB.out|apply below_alloc|apply pw_below_drewN|apply below_drew1)|exact HB.out)⟩⟩
              ·replace c27:=Bool.eq_false_iff.mpr c27
               subst c27
               have H1:(spec_FloodUntil.l1 k4 l0 a3 x10_4 (wrap64 (x12_3+1)))=some (r1,r2):=by rw[if_neg (show ¬ (false=true) by decide)] at H;exact H
               clear H
               have H:=H1
               clear H1
               have H':=Aside0.mk H
               clear H
               go_wp2
               (try simp only[← hl10_3,← hl10_4])
               go_roundg k4
               case measure=>have:=HJ4.out;have:=HK2.out;have:=HK3.out;have:=HK4.out;omega
               case rel=>exact⟨(x10_4),(wrap64 (x12_3+1)),(bR),H',⟨by have:=HJ4.out;have:=HK2.out;have:=HK3.out;have:=HK4.out;omega⟩,⟨by(try simp only[hl10_3]);(try simp only[hl10_4]);(with_reducible repeat (first|apply Kd.R_alloc|apply Kd.R_drewN|apply Kd.R_drew));exact HO_10.out⟩,⟨by repeat (first|(with_reducible first|exact HB.out|apply below_alloc|apply pw_below_drewN|apply below_drew1)|exact HB.out)⟩⟩
           ·rw[if_neg c26] at H
            have c26b0:decide (x12_3≤a3)=false:=decide_eq_false c26
            clear c26
            have H':=Aside0.mk H
            clear H
            go_wp2
            go_loopg [17,116] k3 (fun kq v17 v116 w' => ∃ (x17_4:List Int) (x116_4:Int),v116=.int .i64 x116_4∧Aside0 (spec_FloodUntil.l4 kq a3 x17_4 x10_3 (x10_3.length:Int) x116_4=some (r1,r2))∧Aside0 (kq≤k3)∧Aside0 (Kd.R (Kd.int .i64) 3 w' w.heap.size (fun k_=>some k_≠((.slice (some ⟨go23,0,none⟩) x10_3.length co23):Value).ownBlock) v17 x17_4)∧Aside0 (Kd.R (Kd.int .i64) 3 w' w.heap.size (fun k_=>some k_≠(v17:Value).ownBlock) (.slice (some ⟨go23,0,none⟩) x10_3.length co23) x10_3)∧Aside0 (Below w.heap.size w w'))
            case atStart=>exact⟨(([]:List Int)),(0),(bR),H',⟨Nat.le_refl _⟩,⟨by(try simp only[hl10_3]);first|exact Kd.R_nil _ _ _ _ _|exact Kd.N_nil _ _ _ _ _|exact Kd.V_nil _ _ _ _ _|exact Kd.Q_nil _ _ _ _ _|exact Kd.S_nil _ _ _ _ _⟩,⟨by(try simp only[hl10_3]);(with_reducible repeat (first|apply Kd.R_alloc|apply Kd.R_drewN|apply Kd.R_drew));exact Kd.R_mono HO_10.out (fun _ hk=>(by simp[Value.ownBlock]))⟩,⟨by repeat (first|(with_reducible first|exact HB.out|apply below_alloc|apply pw_below_drewN|apply below_drew1)|exact HB.out)⟩⟩
            case round =>
             clear H'
             try clear c1
             try clear c2
             try clear p2
             try clear q2
             try clear hx2
             try clear c3
             try clear c4
             try clear p4
             try clear q4
             try clear hx4
             try clear hf4
             try clear c5
             try clear p5
             try clear q5
             try clear hx5
             try clear hf5
             try clear p6
             try clear c7
             try clear c9
             try clear c11
             try clear c12
             try clear c17
             try clear c18
             try clear c18b0
             try clear c19
             try clear c21
             try clear c21b0
             try clear c22
             try clear c22b0
             try clear p23
             try clear q23
             try clear hx23
             try clear hf23
             try clear c26
             try clear c26b0
             try clear p26
             try clear q26
             try clear hx26
             try clear c27
             try clear p27
             try clear q27
             try clear hx27
             try clear c28
             try clear c28b0
             try clear c29
             try clear c29b0
             try clear c30
             try clear c30b0
             try clear c31
             try clear c34
             try clear c34b0
             try clear c35
             try clear c35b0
             try clear c36
             try clear c36b0
             try clear c38
             try clear c38b0
             try clear c40
             try clear c40b0
             try clear c43
             try clear c44
             try clear c44b0
             try clear c45
             try clear c45b0
             try clear c46
             try clear c46b0
             try clear p47
             try clear q47
             try clear hx47
             try clear hf47
             try clear c51
             try clear c51b0
             try clear p52
             try clear q52
             try clear hx52
             try clear hf52
             try clear hcz33_0 hcz33_1 hcz33_2 hcz33_3 hcz33_4
             try clear hcz37_0 hcz37_1 hcz37_2 hcz37_3 hcz37_4
             try clear hcz39_0 hcz39_1 hcz39_2 hcz39_3 hcz39_4
             try clear hcz41_0 hcz41_1 hcz41_2 hcz41_3 hcz41_4
             try clear hcz42_0 hcz42_1 hcz42_2 hcz42_3 hcz42_4
             try clear hcz48_0 hcz48_1 hcz48_2 hcz48_3 hcz48_4
             try clear hcz53_0 hcz53_1 hcz53_2 hcz53_3 hcz53_4
             try clear hcz56_0 hcz56_1 hcz56_2 hcz56_3 hcz56_4
             try clear hfz33_0 hfz33_1 hfz33_2 hfz33_3 hfz33_4
             try clear hfz37_0 hfz37_1 hfz37_2 hfz37_3 hfz37_4
             try clear hfz39_0 hfz39_1 hfz39_2 hfz39_3 hfz39_4
             try clear hfz41_0 hfz41_1 hfz41_2 hfz41_3 hfz41_4
             try clear hfz42_0 hfz42_1 hfz42_2 hfz42_3 hfz42_4
             try clear hfz48_0 hfz48_1 hfz48_2 hfz48_3 hfz48_4
             try clear hfz53_0 hfz53_1 hfz53_2 hfz53_3 hfz53_4
             try clear hfz56_0 hfz56_1 hfz56_2 hfz56_3 hfz56_4
             try clear hx23_0
             try clear hx265_0
             try clear hx265_1
             try clear hx265_2
             try clear hx265_3
             try clear hx265_4
             try clear hx267_0
             try clear hx268_0
             try clear hx269_0
             try clear hx271_0
             try clear hx47_0
             try clear hx52_0
             try clear p2
             try clear p23
             try clear p26
             try clear p265
             try clear p267
             try clear p268
             try clear p269
             try clear p271
             try clear p47
             try clear p52
             try clear p6
             try clear q2
             try clear q23
             try clear q26
             try clear q265
             try clear q267
             try clear q268
             try clear q269
             try clear q271
             try clear q47
             try clear q52
             obtain⟨x17_4,x116_4,rfl,HA,HK4,HO_17,HO_114,HB⟩:=hrel
             cases gk with
             | zero=>exact absurd HA.out (by simp[spec_FloodUntil.l4])
             | succ k4 =>
              have H:=HA.out
              clear HA
              simp only[spec_FloodUntil.l4] at H
              by_cases c57:x116_4 < (x10_3.length:Int)
              ·rw[if_pos c57] at H
               have c57b0:decide (x116_4 < (x10_3.length:Int))=true:=decide_eq_true c57
               clear c57
               by_cases c58:0≤x116_4
               ·rw[if_pos c58] at H
                have c58b0:decide (0≤x116_4)=true:=decide_eq_true c58
                clear c58
                by_cases c59:x116_4 < (x10_3.length:Int)
                ·rw[if_pos c59] at H
                 have c59b0:decide (x116_4 < (x10_3.length:Int))=true:=decide_eq_true c59
                 clear c59
                 by_cases c60:(rd x10_3 x116_4) ≥ 0
                 ·rw[if_pos c60] at H
                  have c60b0:decide (0≤(rd x10_3 x116_4))=true:=decide_eq_true c60
                  clear c60
                  by_cases c61:(rd x10_3 x116_4)≤a3
                  ·rw[if_pos c61] at H
                   have c61b0:decide ((rd x10_3 x116_4)≤a3)=true:=decide_eq_true c61
                   clear c61
                   by_cases c62:x17_4.length < 17592186044416
                   ·rw[if_pos c62] at H
                    have LMc62:=Aside0.mk c62
                    clear c62
                    obtain⟨y274,hy274⟩ : ∃ y_:List Int,y_=(x17_4++[x116_4]):=⟨_,rfl⟩
                    replace H:(spec_FloodUntil.l4 k4 a3 y274 x10_3 (x10_3.length:Int) (wrap64 (x116_4+1)))=some (r1,r2):=by first|(rw[hy274];with_reducible exact H)|(have H2_:=(Option.bind_some _ _).symm.trans H;rw[hy274];with_reducible exact H2_)|(have H2_:=(Option.bind_some _ _).symm.trans H;with_reducible exact H2_)|with_reducible exact H|(rw[hy274];exact H)|exact H
                    have Ny274:=Aside0.mk hy274
                    clear hy274
                    have H':=Aside0.mk H
                    clear H
                    have p273:0≤(x116_4:Int):=of_decide_eq_true (bD)
                    have q273:x116_4 < (x10_3.length:Int):=of_decide_eq_true (bD)
                    obtain⟨ad273,e273,hx273_0⟩:=Kd.at_int (Kd.R_reads' HO_114.out).2.2 x116_4 p273 q273
                    obtain rfl:(⟨go23,0,none⟩:Addr)=ad273:=(by injection e273)
                    (first|simp only[add_plain] at hx273_0|simp only[add_at] at hx273_0|simp only[Addr.add,Nat.zero_add] at hx273_0|skip)
                    replace p273:=eq_true p273
                    replace q273:=eq_true q273
                    go_wp2_with (first|((with_reducible refine gate_builtin (b:=.append) (xs:=#[.tmp 128,.tmp 130]) rfl ?_);at_builtin;refine Kd.R_append (Kd.int .i64) (w0:=w) w.heap.size rfl (.tmp 128) (.tmp 130) 34 3 (.int .i64 0) 8 rfl Try.underlying34 info3 rfl (b7_) (b9_) u17 x17_4 x116_4 [.int .i64 x116_4] (fun k_=>some k_≠(.slice (some ⟨go23,0,none⟩) x10_3.length co23:Value).ownBlock) (fun _=>False) rfl rfl ?aP (fun _ hk=>hk.elim) ?aF ?aO ?aB ?aS ?aL ?_;(case aP=>exact rfl);(case aB=>exact(bB));(case aF=>exact(fun k_ hk=>Kd.fresh' (Kd.R_lt (bK HO_114.out)) k_ hk));(case aO=>exact(bK HO_17.out));(case aS=>exact(below_size (bB)));(case aL=>have:=LMc62.out;omega);intro v275 w63 ho hb hg hat;rw[← Ny274.out] at ho;have n0_:=Aside0.mk (Kd.R_after (ok:=(fun _=>True)) (by(with_reducible repeat (first|apply Kd.R_alloc|apply Kd.R_drewN|apply Kd.R_drew));exact Kd.R_mono HO_114.out (fun _ hk=>⟨trivial,hk⟩)) hg hat);have n1_:=Aside0.mk (hb);have n2_:=Aside0.mk (ho);clear HO_114 HB HO_17;have HO_114:=n0_;have HB:=n1_;have HO276:=n2_;clear n0_ n1_ n2_;clear ho hb hg hat))
                    go_roundg k4
                    case measure=>have:=HJ4.out;have:=HK2.out;have:=HK3.out;have:=HK4.out;omega
                    case rel=>exact⟨(y274),(wrap64 (x116_4+1)),(bR),H',⟨by have:=HJ4.out;have:=HK2.out;have:=HK3.out;have:=HK4.out;omega⟩,⟨by(try simp only[hl10_3]);(with_reducible repeat (first|apply Kd.R_alloc|apply Kd.R_drewN|apply Kd.R_drew));exact HO276.out⟩,⟨by(try simp only[hl10_3]);(with_reducible repeat (first|apply Kd.R_alloc|apply Kd.R_drewN|apply Kd.R_drew));exact Kd.R_mono HO_114.out (fun _ hk=>hk.2)⟩,⟨by repeat (first|(with_reducible first|exact HB.out|apply below_alloc|apply pw_below_drewN|apply below_drew1)|exact HB.out)⟩⟩
                   ·rw[if_neg c62] at H
                    exact absurd H (by simp)
                  ·rw[if_neg c61] at H
                   have c61b0:decide ((rd x10_3 x116_4)≤a3)=false:=decide_eq_false c61
                   clear c61
                   have H':=Aside0.mk H
                   clear H
                   have p273:0≤(x116_4:Int):=of_decide_eq_true (bD)
                   have q273:x116_4 < (x10_3.length:Int):=of_decide_eq_true (bD)
                   obtain⟨ad273,e273,hx273_0⟩:=Kd.at_int (Kd.R_reads' HO_114.out).2.2 x116_4 p273 q273
                   obtain rfl:(⟨go23,0,none⟩:Addr)=ad273:=(by injection e273)
                   (first|simp only[add_plain] at hx273_0|simp only[add_at] at hx273_0|simp only[Addr.add,Nat.zero_add] at hx273_0|skip)
                   replace p273:=eq_true p273
                   replace q273:=eq_true q273
                   go_wp2
                   go_roundg k4
                   case measure=>have:=HJ4.out;have:=HK2.out;have:=HK3.out;have:=HK4.out;omega
                   case rel=>exact⟨(x17_4),(wrap64 (x116_4+1)),(bR),H',⟨by have:=HJ4.out;have:=HK2.out;have:=HK3.out;have:=HK4.out;omega⟩,⟨by(try simp only[hl10_3]);(with_reducible repeat (first|apply Kd.R_alloc|apply Kd.R_drewN|apply Kd.R_drew));exact HO_17.out⟩,⟨by(try simp only[hl10_3]);(with_reducible repeat (first|apply Kd.R_alloc|apply Kd.R_drewN|apply Kd.R_drew));exact HO_114.out⟩,⟨by repeat (first|(with_reducible first|exact HB.out|apply below_alloc|apply pw_below_drewN|apply below_drew1)|exact HB.out)⟩⟩
                 ·rw[if_neg c60] at H
                  have c60b0:decide (0≤(rd x10_3 x116_4))=false:=decide_eq_false c60
                  clear c60
                  have H':=Aside0.mk H
                  clear H
                  have p273:0≤(x116_4:Int):=of_decide_eq_true (bD)
                  have q273:x116_4 < (x10_3.length:Int):=of_decide_eq_true (bD)
                  obtain⟨ad273,e273,hx273_0⟩:=Kd.at_int (Kd.R_reads' HO_114.out).2.2 x116_4 p273 q273
                  obtain rfl:(⟨go23,0,none⟩:Addr)=ad273:=(by injection e273)
                  (first|simp only[add_plain] at hx273_0|simp only[add_at] at hx273_0|simp only[Addr.add,Nat.zero_add] at hx273_0|skip)
                  replace p273:=eq_true p273
                  replace q273:=eq_true q273
                  go_wp2
                  go_roundg k4
                  case measure=>have:=HJ4.out;have:=HK2.out;have:=HK3.out;have:=HK4.out;omega
                  case rel=>exact⟨(x17_4),(wrap64 (x116_4+1)),(bR),H',⟨by have:=HJ4.out;have:=HK2.out;have:=HK3.out;have:=HK4.out;omega⟩,⟨by(try simp only[hl10_3]);(with_reducible repeat (first|apply Kd.R_alloc|apply Kd.R_drewN|apply Kd.R_drew));exact HO_17.out⟩,⟨by(try simp only[hl10_3]);(with_reducible repeat (first|apply Kd.R_alloc|apply Kd.R_drewN|apply Kd.R_drew));exact HO_114.out⟩,⟨by repeat (first|(with_reducible first|exact HB.out|apply below_alloc|apply pw_below_drewN|apply below_drew1)|exact HB.out)⟩⟩
                ·rw[if_neg c59] at H
                 exact absurd H (by simp)
               ·rw[if_neg c58] at H
                exact absurd H (by simp)
              ·rw[if_neg c57] at H
               have c57b0:decide (x116_4 < (x10_3.length:Int))=false:=decide_eq_false c57
               clear c57
               simp only[Option.some.injEq,Prod.mk.injEq] at H
               obtain⟨rfl,rfl⟩:=H
               go_wp2
               go_ret2
               exact⟨_,by first|rfl|(simp[errW_none,errW_some]<;>rfl)|(simp[*,errW_none,errW_some]<;>rfl),by(with_reducible repeat (first|apply Kd.R_alloc|apply Kd.R_drewN|apply Kd.R_drew));exact Kd.R_mono HO_17.out (fun _ hk=>trivial),bB⟩
        ·rw[if_neg c22] at H
         exact absurd H (by simp)
       ·rw[if_neg c21] at H
        exact absurd H (by simp)

end Go.Proofs.Ytanegdfncfkinaa.XFnFlood
