-- Written by this session's own program (wip/xprint.py) out of the translation; Lean checks it.
import Derived.Test.YteneeohaoplpbaaXFnFollowx0
import Derived.Test.YteneeohaoplpbaaXFnFollowx3
import Derived.Test.YteneeohaoplpbaaXFnFollowx6
import Derived.Test.YteneeohaoplpbaaXFnFollowx8
import Derived.Test.YteneeohaoplpbaaXFnFollowx9
import Derived.Test.YteneeohaoplpbaaXFnFollowx12
import Derived.Test.YteneeohaoplpbaaXFnFollowx13
import Derived.Test.YteneeohaoplpbaaXFnFollowx14
namespace Go.Proofs.Yteneeohaoplpbaa.XFnFollow
open Go.RowKit Go.Proofs.YteneeohaoplpbaaW.PrintWords Go.Proofs.YteneeohaoplpbaaW.PrintLast Go.Proofs.YteneeohaoplpbaaW.PrintMore
open Go.Proofs.YteneeohaoplpbaaW.PrintWords.Aside0 renaming mk → am
open List renaming setIfInBounds_toArray → zA, set_cons_zero → zB, set_cons_succ → zC
attribute [local go_sem] max2_int min2_int max_two min_two max_three min_three max_four min_four   -- for this text's walks alone
set_option linter.unusedVariables false
set_option linter.unusedSimpArgs false

/-! ### laws_FnFollow: function 12 -/
mutual
def laws_FnFollow.j0:Nat→List Int→List (S104)→Int→List Int→Int→Bool→Bool→Int→Int→Bool→Int→Int→Int→Int→Int→Int→ByteArray→Option (Bool)
 | 0,_,_,_,_,_,_,_,_,_,_,_,_,_,_,_,_,_=>none
 | k+1,x1,x5,x7,x8,x9,x10,x71,x581000,x581001,x581002,x581003,x581004,x581005,x581006,x581007,x581008,x581009=>if x71=true then (some false) else (if x10=true then ((impl_RouteTo.f k x5 x581000 x581003 x7).bind fun bt592=>((impl_ArriveBy.f k x5 x581000 x581003 x8).bind fun bt597=>(if bt592.2.2=true then (if bt592.2.1=x9 then (if bt597.2=true then (if bt597.1=x9 then (if (x8.length:Int) > 0 then (if x9 > (wrap64 (x581003+x581005)) then (some false) else (laws_FnFollow.j1 k x1)) else (laws_FnFollow.j1 k x1)) else (some false)) else (some false)) else (some false)) else (some false)))) else (laws_FnFollow.j1 k x1))
def laws_FnFollow.j1:Nat→List Int→Option (Bool)
 | 0,_=>none
 | k+1,x1=>(spec_DrawForwardStep.f k x1).bind fun bt599=>((impl_ForwardStep.f k bt599.1 bt599.2.1 bt599.2.2.1 bt599.2.2.2.1 bt599.2.2.2.2.1 bt599.2.2.2.2.2.1 bt599.2.2.2.2.2.2.1 bt599.2.2.2.2.2.2.2.1 bt599.2.2.2.2.2.2.2.2.1 bt599.2.2.2.2.2.2.2.2.2.1 bt599.2.2.2.2.2.2.2.2.2.2.1 bt599.2.2.2.2.2.2.2.2.2.2.2.1 bt599.2.2.2.2.2.2.2.2.2.2.2.2.1 bt599.2.2.2.2.2.2.2.2.2.2.2.2.2).bind fun bt616=>((spec_ForwardStep.f k bt599.1 bt599.2.1 bt599.2.2.1 bt599.2.2.2.1 bt599.2.2.2.2.1 bt599.2.2.2.2.2.1 bt599.2.2.2.2.2.2.1 bt599.2.2.2.2.2.2.2.1 bt599.2.2.2.2.2.2.2.2.1 bt599.2.2.2.2.2.2.2.2.2.1 bt599.2.2.2.2.2.2.2.2.2.2.1 bt599.2.2.2.2.2.2.2.2.2.2.2.1 bt599.2.2.2.2.2.2.2.2.2.2.2.2.1 bt599.2.2.2.2.2.2.2.2.2.2.2.2.2).bind fun bt619=>(if (bt616.2.2 != bt619.2.2)=true then (laws_FnFollow.j2 k bt599.1 bt599.2.2.2.2.2.2.2.2.2.2.2.1 bt599.2.2.2.2.2.2.2.2.2.2.2.2.1 bt616.1 bt616.2.1 bt616.2.2 true bt599.2.1 bt599.2.2.1 bt599.2.2.2.1 bt599.2.2.2.2.1 bt599.2.2.2.2.2.1 bt599.2.2.2.2.2.2.1 bt599.2.2.2.2.2.2.2.1 bt599.2.2.2.2.2.2.2.2.1 bt599.2.2.2.2.2.2.2.2.2.1 bt599.2.2.2.2.2.2.2.2.2.2.1) else (if bt616.1=bt619.1 then (laws_FnFollow.j2 k bt599.1 bt599.2.2.2.2.2.2.2.2.2.2.2.1 bt599.2.2.2.2.2.2.2.2.2.2.2.2.1 bt616.1 bt616.2.1 bt616.2.2 (bt616.2.1 != bt619.2.1) bt599.2.1 bt599.2.2.1 bt599.2.2.2.1 bt599.2.2.2.2.1 bt599.2.2.2.2.2.1 bt599.2.2.2.2.2.2.1 bt599.2.2.2.2.2.2.2.1 bt599.2.2.2.2.2.2.2.2.1 bt599.2.2.2.2.2.2.2.2.2.1 bt599.2.2.2.2.2.2.2.2.2.2.1) else (laws_FnFollow.j2 k bt599.1 bt599.2.2.2.2.2.2.2.2.2.2.2.1 bt599.2.2.2.2.2.2.2.2.2.2.2.2.1 bt616.1 bt616.2.1 bt616.2.2 true bt599.2.1 bt599.2.2.1 bt599.2.2.2.1 bt599.2.2.2.2.1 bt599.2.2.2.2.2.1 bt599.2.2.2.2.2.2.1 bt599.2.2.2.2.2.2.2.1 bt599.2.2.2.2.2.2.2.2.1 bt599.2.2.2.2.2.2.2.2.2.1 bt599.2.2.2.2.2.2.2.2.2.2.1)))))
def laws_FnFollow.j2:Nat→List (S104)→Int→Int→Int→Int→Bool→Bool→Int→Int→Bool→Int→Int→Int→Int→Int→Int→ByteArray→Option (Bool)
 | 0,_,_,_,_,_,_,_,_,_,_,_,_,_,_,_,_,_=>none
 | k+1,x19,x21,x22,x24,x25,x26,x164,x616000,x616001,x616002,x616003,x616004,x616005,x616006,x616007,x616008,x616009=>if x164=true then (some false) else (if x26=true then (if 0≤x24 then (if x24 < (x19.length:Int) then (if ((rd_T104 x19 x24).f0)=x21 then (if x25 < x22 then (some false) else (if x25 > (wrap64 (x616003+x616005)) then (some false) else (some true))) else (some false)) else (none)) else (none)) else (some true))
end
def laws_FnFollow.f (k:Nat) (l0:List Int) (l1:List Int):Option (Bool):=if (wrap64 ((l0.length:Int)+(l1.length:Int))) > 1048576 then (some true) else ((spec_DrawFollowPlan.f k l0).bind fun bt566=>((impl_FollowPlan.f k bt566.1 bt566.2.1 bt566.2.2.1 bt566.2.2.2.1 bt566.2.2.2.2.1 bt566.2.2.2.2.2.1 bt566.2.2.2.2.2.2.1 bt566.2.2.2.2.2.2.2.1 bt566.2.2.2.2.2.2.2.2.1 bt566.2.2.2.2.2.2.2.2.2.1 bt566.2.2.2.2.2.2.2.2.2.2.1 bt566.2.2.2.2.2.2.2.2.2.2.2).bind fun bt581=>((spec_FollowPlan.f k bt566.1 bt566.2.1 bt566.2.2.1 bt566.2.2.2.1 bt566.2.2.2.2.1 bt566.2.2.2.2.2.1 bt566.2.2.2.2.2.2.1 bt566.2.2.2.2.2.2.2.1 bt566.2.2.2.2.2.2.2.2.1 bt566.2.2.2.2.2.2.2.2.2.1 bt566.2.2.2.2.2.2.2.2.2.2.1 bt566.2.2.2.2.2.2.2.2.2.2.2).bind fun bt586=>(if (bt581.2.2 != bt586.2.2)=true then (laws_FnFollow.j0 k l1 bt566.1 bt566.2.2.2.2.2.2.2.2.2.2.2 bt581.1 bt581.2.1 bt581.2.2 true bt566.2.1 bt566.2.2.1 bt566.2.2.2.1 bt566.2.2.2.2.1 bt566.2.2.2.2.2.1 bt566.2.2.2.2.2.2.1 bt566.2.2.2.2.2.2.2.1 bt566.2.2.2.2.2.2.2.2.1 bt566.2.2.2.2.2.2.2.2.2.1 bt566.2.2.2.2.2.2.2.2.2.2.1) else (if bt581.2.1=bt586.2.1 then ((laws_sameInts.f k bt581.1 bt586.1).bind fun t591=>(laws_FnFollow.j0 k l1 bt566.1 bt566.2.2.2.2.2.2.2.2.2.2.2 bt581.1 bt581.2.1 bt581.2.2 (!t591) bt566.2.1 bt566.2.2.1 bt566.2.2.2.1 bt566.2.2.2.2.1 bt566.2.2.2.2.2.1 bt566.2.2.2.2.2.2.1 bt566.2.2.2.2.2.2.2.1 bt566.2.2.2.2.2.2.2.2.1 bt566.2.2.2.2.2.2.2.2.2.1 bt566.2.2.2.2.2.2.2.2.2.2.1)) else (laws_FnFollow.j0 k l1 bt566.1 bt566.2.2.2.2.2.2.2.2.2.2.2 bt581.1 bt581.2.1 bt581.2.2 true bt566.2.1 bt566.2.2.1 bt566.2.2.2.1 bt566.2.2.2.2.1 bt566.2.2.2.2.2.1 bt566.2.2.2.2.2.2.1 bt566.2.2.2.2.2.2.2.1 bt566.2.2.2.2.2.2.2.2.1 bt566.2.2.2.2.2.2.2.2.2.1 bt566.2.2.2.2.2.2.2.2.2.2.1))))))
theorem laws_FnFollow.mono_l : ∀ k,(∀ y0 y1 y2 y3 y4 y5 y6 y7 y8 y9 y10 y11 y12 y13 y14 y15 y16,LeO (laws_FnFollow.j0 k y0 y1 y2 y3 y4 y5 y6 y7 y8 y9 y10 y11 y12 y13 y14 y15 y16) (laws_FnFollow.j0 (k+1) y0 y1 y2 y3 y4 y5 y6 y7 y8 y9 y10 y11 y12 y13 y14 y15 y16))∧(∀ y0,LeO (laws_FnFollow.j1 k y0) (laws_FnFollow.j1 (k+1) y0))∧(∀ y0 y1 y2 y3 y4 y5 y6 y7 y8 y9 y10 y11 y12 y13 y14 y15 y16,LeO (laws_FnFollow.j2 k y0 y1 y2 y3 y4 y5 y6 y7 y8 y9 y10 y11 y12 y13 y14 y15 y16) (laws_FnFollow.j2 (k+1) y0 y1 y2 y3 y4 y5 y6 y7 y8 y9 y10 y11 y12 y13 y14 y15 y16))
 | 0=>⟨fun _ _ _ _ _ _ _ _ _ _ _ _ _ _ _ _ _ r h=>by simp[laws_FnFollow.j0] at h,fun _ r h=>by simp[laws_FnFollow.j1] at h,fun _ _ _ _ _ _ _ _ _ _ _ _ _ _ _ _ _ r h=>by simp[laws_FnFollow.j2] at h⟩
 | k+1=>by
  obtain⟨ih0,ih1,ih2⟩:=laws_FnFollow.mono_l k
  refine⟨?_,?_,?_⟩
  ·intro y0 y1 y2 y3 y4 y5 y6 y7 y8 y9 y10 y11 y12 y13 y14 y15 y16
   unfold laws_FnFollow.j0
   repeat' first
   | (with_reducible exact ih0 _ _ _ _ _ _ _ _ _ _ _ _ _ _ _ _ _)
   | (with_reducible exact ih1 _)
   | (with_reducible exact ih2 _ _ _ _ _ _ _ _ _ _ _ _ _ _ _ _ _)
   | (with_reducible exact impl_ArriveBy.mono _ _ _ _ _)
   | (with_reducible exact impl_FollowPlan.mono _ _ _ _ _ _ _ _ _ _ _ _ _)
   | (with_reducible exact impl_ForwardStep.mono _ _ _ _ _ _ _ _ _ _ _ _ _ _ _)
   | (with_reducible exact impl_RouteTo.mono _ _ _ _ _)
   | (with_reducible exact laws_sameInts.mono _ _ _)
   | (with_reducible exact spec_DrawFollowPlan.mono _ _)
   | (with_reducible exact spec_DrawForwardStep.mono _ _)
   | (with_reducible exact spec_FollowPlan.mono _ _ _ _ _ _ _ _ _ _ _ _ _)
   | (with_reducible exact spec_ForwardStep.mono _ _ _ _ _ _ _ _ _ _ _ _ _ _ _)
   | (with_reducible exact LeO.refl _)
   | (with_reducible exact LeO.none _)
   | (with_reducible refine LeO.ite ?_ ?_)
   | (with_reducible refine LeO.bind ?_ (fun _ => ?_))
  ·intro y0
   unfold laws_FnFollow.j1
   repeat' first
   | (with_reducible exact ih0 _ _ _ _ _ _ _ _ _ _ _ _ _ _ _ _ _)
   | (with_reducible exact ih1 _)
   | (with_reducible exact ih2 _ _ _ _ _ _ _ _ _ _ _ _ _ _ _ _ _)
   | (with_reducible exact impl_ArriveBy.mono _ _ _ _ _)
   | (with_reducible exact impl_FollowPlan.mono _ _ _ _ _ _ _ _ _ _ _ _ _)
   | (with_reducible exact impl_ForwardStep.mono _ _ _ _ _ _ _ _ _ _ _ _ _ _ _)
   | (with_reducible exact impl_RouteTo.mono _ _ _ _ _)
   | (with_reducible exact laws_sameInts.mono _ _ _)
   | (with_reducible exact spec_DrawFollowPlan.mono _ _)
   | (with_reducible exact spec_DrawForwardStep.mono _ _)
   | (with_reducible exact spec_FollowPlan.mono _ _ _ _ _ _ _ _ _ _ _ _ _)
   | (with_reducible exact spec_ForwardStep.mono _ _ _ _ _ _ _ _ _ _ _ _ _ _ _)
   | (with_reducible exact LeO.refl _)
   | (with_reducible exact LeO.none _)
   | (with_reducible refine LeO.ite ?_ ?_)
   | (with_reducible refine LeO.bind ?_ (fun _ => ?_))
  ·intro y0 y1 y2 y3 y4 y5 y6 y7 y8 y9 y10 y11 y12 y13 y14 y15 y16
   unfold laws_FnFollow.j2
   repeat' first
   | (with_reducible exact ih0 _ _ _ _ _ _ _ _ _ _ _ _ _ _ _ _ _)
   | (with_reducible exact ih1 _)
   | (with_reducible exact ih2 _ _ _ _ _ _ _ _ _ _ _ _ _ _ _ _ _)
   | (with_reducible exact impl_ArriveBy.mono _ _ _ _ _)
   | (with_reducible exact impl_FollowPlan.mono _ _ _ _ _ _ _ _ _ _ _ _ _)
   | (with_reducible exact impl_ForwardStep.mono _ _ _ _ _ _ _ _ _ _ _ _ _ _ _)
   | (with_reducible exact impl_RouteTo.mono _ _ _ _ _)
   | (with_reducible exact laws_sameInts.mono _ _ _)
   | (with_reducible exact spec_DrawFollowPlan.mono _ _)
   | (with_reducible exact spec_DrawForwardStep.mono _ _)
   | (with_reducible exact spec_FollowPlan.mono _ _ _ _ _ _ _ _ _ _ _ _ _)
   | (with_reducible exact spec_ForwardStep.mono _ _ _ _ _ _ _ _ _ _ _ _ _ _ _)
   | (with_reducible exact LeO.refl _)
   | (with_reducible exact LeO.none _)
   | (with_reducible refine LeO.ite ?_ ?_)
   | (with_reducible refine LeO.bind ?_ (fun _ => ?_))
theorem laws_FnFollow.mono : ∀ a0 a1 k,LeO (laws_FnFollow.f k a0 a1) (laws_FnFollow.f (k+1) a0 a1):=by
 intro a0 a1 k
 obtain⟨ih0,ih1,ih2⟩:=laws_FnFollow.mono_l k
 unfold laws_FnFollow.f
 repeat' first
  | (with_reducible exact ih0 _ _ _ _ _ _ _ _ _ _ _ _ _ _ _ _ _)
  | (with_reducible exact ih1 _)
  | (with_reducible exact ih2 _ _ _ _ _ _ _ _ _ _ _ _ _ _ _ _ _)
  | (with_reducible exact impl_ArriveBy.mono _ _ _ _ _)
  | (with_reducible exact impl_FollowPlan.mono _ _ _ _ _ _ _ _ _ _ _ _ _)
  | (with_reducible exact impl_ForwardStep.mono _ _ _ _ _ _ _ _ _ _ _ _ _ _ _)
  | (with_reducible exact impl_RouteTo.mono _ _ _ _ _)
  | (with_reducible exact laws_sameInts.mono _ _ _)
  | (with_reducible exact spec_DrawFollowPlan.mono _ _)
  | (with_reducible exact spec_DrawForwardStep.mono _ _)
  | (with_reducible exact spec_FollowPlan.mono _ _ _ _ _ _ _ _ _ _ _ _ _)
  | (with_reducible exact spec_ForwardStep.mono _ _ _ _ _ _ _ _ _ _ _ _ _ _ _)
  | (with_reducible exact LeO.refl _)
  | (with_reducible exact LeO.none _)
  | (with_reducible refine LeO.ite ?_ ?_)
  | (with_reducible refine LeO.bind ?_ (fun _ => ?_))
set_option maxHeartbeats 8000000 in
set_option maxRecDepth 100000 in
theorem laws_FnFollow.calls (k:Nat) (A0:Option Addr) (c0:Nat) (l0:List Int) (A1:Option Addr) (c1:Nat) (l1:List Int) (r:Bool) (w:World) (hr0:Kd.C (Kd.int .u8) w A0 l0.length l0) (hc0:l0.length≤c0) (hr1:Kd.C (Kd.int .u8) w A1 l1.length l1) (hc1:l1.length≤c1) (h:laws_FnFollow.f k l0 l1=some r) :
  Calls Try.prog 12 #[.slice A0 l0.length c0,.slice A1 l1.length c1] w fun e w'=>e=.returned (.bool r)∧Below w.heap.size w w':=by
 have hu86:=Try.underlying86
 have HR0:=am hr0
 have HC0:=am hc0
 clear hr0 hc0
 have HR1:=am hr1
 have HC1:=am hc1
 clear hr1 hc1
 have HB:=am (Below.refl w.heap.size w)
 have H:(if (wrap64 ((l0.length:Int)+(l1.length:Int))) > 1048576 then (some true) else ((spec_DrawFollowPlan.f k l0).bind fun bt566=>((impl_FollowPlan.f k bt566.1 bt566.2.1 bt566.2.2.1 bt566.2.2.2.1 bt566.2.2.2.2.1 bt566.2.2.2.2.2.1 bt566.2.2.2.2.2.2.1 bt566.2.2.2.2.2.2.2.1 bt566.2.2.2.2.2.2.2.2.1 bt566.2.2.2.2.2.2.2.2.2.1 bt566.2.2.2.2.2.2.2.2.2.2.1 bt566.2.2.2.2.2.2.2.2.2.2.2).bind fun bt581=>((spec_FollowPlan.f k bt566.1 bt566.2.1 bt566.2.2.1 bt566.2.2.2.1 bt566.2.2.2.2.1 bt566.2.2.2.2.2.1 bt566.2.2.2.2.2.2.1 bt566.2.2.2.2.2.2.2.1 bt566.2.2.2.2.2.2.2.2.1 bt566.2.2.2.2.2.2.2.2.2.1 bt566.2.2.2.2.2.2.2.2.2.2.1 bt566.2.2.2.2.2.2.2.2.2.2.2).bind fun bt586=>(if (bt581.2.2 != bt586.2.2)=true then (laws_FnFollow.j0 k l1 bt566.1 bt566.2.2.2.2.2.2.2.2.2.2.2 bt581.1 bt581.2.1 bt581.2.2 true bt566.2.1 bt566.2.2.1 bt566.2.2.2.1 bt566.2.2.2.2.1 bt566.2.2.2.2.2.1 bt566.2.2.2.2.2.2.1 bt566.2.2.2.2.2.2.2.1 bt566.2.2.2.2.2.2.2.2.1 bt566.2.2.2.2.2.2.2.2.2.1 bt566.2.2.2.2.2.2.2.2.2.2.1) else (if bt581.2.1=bt586.2.1 then ((laws_sameInts.f k bt581.1 bt586.1).bind fun t591=>(laws_FnFollow.j0 k l1 bt566.1 bt566.2.2.2.2.2.2.2.2.2.2.2 bt581.1 bt581.2.1 bt581.2.2 (!t591) bt566.2.1 bt566.2.2.1 bt566.2.2.2.1 bt566.2.2.2.2.1 bt566.2.2.2.2.2.1 bt566.2.2.2.2.2.2.1 bt566.2.2.2.2.2.2.2.1 bt566.2.2.2.2.2.2.2.2.1 bt566.2.2.2.2.2.2.2.2.2.1 bt566.2.2.2.2.2.2.2.2.2.2.1)) else (laws_FnFollow.j0 k l1 bt566.1 bt566.2.2.2.2.2.2.2.2.2.2.2 bt581.1 bt581.2.1 bt581.2.2 true bt566.2.1 bt566.2.2.1 bt566.2.2.2.1 bt566.2.2.2.2.1 bt566.2.2.2.2.2.1 bt566.2.2.2.2.2.2.1 bt566.2.2.2.2.2.2.2.1 bt566.2.2.2.2.2.2.2.2.1 bt566.2.2.2.2.2.2.2.2.2.1 bt566.2.2.2.2.2.2.2.2.2.2.1)))))))=some r:=h
 clear h
 by_cases c3:(wrap64 ((l0.length:Int)+(l1.length:Int))) > 1048576
 ·rw[if_pos c3] at H
  have c3b0:decide (1048576 < (wrap64 ((l0.length:Int)+(l1.length:Int))))=true:=decide_eq_true c3
  clear c3
  obtain rfl:=Option.some.inj H
  go_enter Try.func12,Try.ntmps12
  go_wp2
  go_ret
  exact⟨bE,bB⟩
 ·rw[if_neg c3] at H
  have c3b0:decide (1048576 < (wrap64 ((l0.length:Int)+(l1.length:Int))))=false:=decide_eq_false c3
  clear c3
  replace H:=bI_ H
  obtain⟨⟨t566,t569,t570,t571,t572,t573,t574,t575,t576,t577,t578,t579⟩,A40,H⟩:=H
  have A4:=am A40
  clear A40
  replace H:=bI_ H
  obtain⟨⟨t581,t584,t585⟩,A50,H⟩:=H
  have A5:=am A50
  clear A50
  replace H:=bI_ H
  obtain⟨⟨t586,t589,t590⟩,A60,H⟩:=H
  have A6:=am A60
  clear A60
  have HC7:=am H
  clear H
  go_enter Try.func12,Try.ntmps12
  go_upto_region 6 with (first|((with_reducible refine gate_callee (f:=61) rfl ?_);refine goesA (some 38) rfl rfl Try.func61 #[.slice A0 l0.length c0] rfl ?_;(with_reducible refine(spec_DrawFollowPlan.calls k _ _ l0 t566 t569 t570 t571 t572 t573 t574 t575 t576 t577 t578 t579 _ ?side1 ?side2 A4.out).mono ?_);(case side1=>repeat (first|exact HR0.out|(with_reducible refine Kd.C_alloc ?_ _)|(with_reducible refine Kd.C_drewN ?_ _)|(with_reducible refine Kd.C_drew ?_)));(case side2=>exact HC0.out);rintro e w8 ⟨v567,rfl,ho0,hb⟩;refine⟨_,rfl,?_⟩;have n0_:=am (Kd.R_lower ho0 (below_size (bB)));have n1_:=am (below_step (bB) hb);clear HB;have HO568:=n0_;have HB:=n1_;clear n0_ n1_;(try clear hb);(try clear hb2);(try clear hk);(try clear hi);(try clear ho0))|((with_reducible refine gate_dst (N:=6) rfl ?_);(try (refine gate_guard (by rfl) ?_;dsimp only));refine box_event ?hg (N:=6) ?hd (cs:=#[.int .i64 0,.int .i64 0,.bool false,.int .i64 0,.int .i64 0,.int .i64 0,.int .i64 0,.int .i64 0,.int .i64 0,.string (⟨#[]⟩:ByteArray)]) (t:=86) ?hr ?_;(case hd=>rfl);(case hg=>rfl);(case hr=>first|(go_simp;done)|(go_simp;rfl));intro gb580 hg w9 hbox hb;have n0_:=am (Kd.R_below (bK HO568.out) hb);have n1_:=am (below_step (bB) hb);have n2_:=am (hbox);have n3_:=am ((bG:w.heap.size≤gb580));have n4_:=am ((bG:w.heap.size≤gb580));clear HO568 HB;have HO568:=n0_;have HB:=n1_;have BK580:=n2_;have GW580:=n3_;have GE580:=n4_;clear n0_ n1_ n2_ n3_ n4_;clear hb hbox hg;obtain⟨hcz10_0,hcz10_1,hcz10_2,hcz10_3,hcz10_4,hcz10_5,hcz10_6,hcz10_7,hcz10_8,hcz10_9⟩:=cC10 BK580.out;obtain⟨hfz10_0,hfz10_1,hfz10_2,hfz10_3,hfz10_4,hfz10_5,hfz10_6,hfz10_7,hfz10_8,hfz10_9⟩:=cF10 BK580.out;obtain⟨Ao11,co11,eo11⟩:=Kd.R_slice HO568.out;subst eo11)|((with_reducible refine gate_callee (f:=58) rfl ?_);refine goesA (some 46) rfl rfl Try.func58 #[.slice Ao11 t566.length co11,.agg #[.int .i64 t569,.int .i64 t570,.bool t571,.int .i64 t572,.int .i64 t573,.int .i64 t574,.int .i64 t575,.int .i64 t576,.int .i64 t577,.string t578],.int .i64 t579] rfl ?_;(with_reducible refine(impl_FollowPlan.calls k _ _ t566 t569 t570 t571 t572 t573 t574 t575 t576 t577 t578 t579 t581 t584 t585 _ ?side1 ?side2 A5.out).mono ?_);(case side1=>refine(Kd.R_reads' (e:=104) (base:=w.heap.size) (ok:=fun k_=>True) (n:=t566.length) (c:=co11) ?_).2.2;exact(b11_));(case side2=>exact(Kd.R_reads' HO568.out).2.1);rintro e w12 ⟨v582,rfl,ho0,hb⟩;refine⟨_,rfl,?_⟩;have n0_:=am (Kd.R_below (b11_) hb);have n1_:=am (Kd.R_lower ho0 (below_size (bS GE580.out)));have n2_:=am (blk_below (g:=gb580) (o:=.cells #[.int .i64 t569,.int .i64 t570,.bool t571,.int .i64 t572,.int .i64 t573,.int .i64 t574,.int .i64 t575,.int .i64 t576,.int .i64 t577,.string t578] 86 (0,0)) (by(with_reducible repeat (first|refine blk_drewN ?_ _|refine blk_drew ?_|refine blk_alloc ?_ _));apply bU10;(with_reducible repeat (first|refine blk_drewN ?_ _|refine blk_drew ?_|refine blk_alloc ?_ _));exact BK580.out) hb);have n3_:=am (below_step (bS GE580.out) hb);clear HO568 BK580 HB;have HO568:=n0_;have HO583:=n1_;have BK580:=n2_;have HB:=n3_;clear n0_ n1_ n2_ n3_;(try clear hb);(try clear hb2);(try clear hk);(try clear hi);(try clear ho0);obtain⟨hcz13_0,hcz13_1,hcz13_2,hcz13_3,hcz13_4,hcz13_5,hcz13_6,hcz13_7,hcz13_8,hcz13_9⟩:=cC10 BK580.out;obtain⟨hfz13_0,hfz13_1,hfz13_2,hfz13_3,hfz13_4,hfz13_5,hfz13_6,hfz13_7,hfz13_8,hfz13_9⟩:=cF10 BK580.out)|((with_reducible refine gate_callee (f:=57) rfl ?_);refine goesA (some 54) rfl rfl Try.func57 #[.slice Ao11 t566.length co11,.agg #[.int .i64 t569,.int .i64 t570,.bool t571,.int .i64 t572,.int .i64 t573,.int .i64 t574,.int .i64 t575,.int .i64 t576,.int .i64 t577,.string t578],.int .i64 t579] rfl ?_;(with_reducible refine(spec_FollowPlan.calls k _ _ t566 t569 t570 t571 t572 t573 t574 t575 t576 t577 t578 t579 t586 t589 t590 _ ?side1 ?side2 A6.out).mono ?_);(case side1=>exact bT HO568.out);(case side2=>exact(Kd.R_reads' HO568.out).2.1);rintro e w14 ⟨v587,rfl,ho0,hb⟩;refine⟨_,rfl,?_⟩;have n0_:=am (Kd.R_below (bK HO568.out) hb);have n1_:=am (Kd.R_elder' (bK HO583.out) (Kd.R_base ho0) hb);have n2_:=am (Kd.R_lower (Kd.R_new' ho0 (Kd.R_lt (bK HO583.out))) (below_size (bS GE580.out)));have n3_:=am (bM BK580.out hb);have n4_:=am (below_step (bS GE580.out) hb);clear HO568 HO583 BK580 HB;have HO568:=n0_;have HO583:=n1_;have HO588:=n2_;have BK580:=n3_;have HB:=n4_;clear n0_ n1_ n2_ n3_ n4_;(try clear hb);(try clear hb2);(try clear hk);(try clear hi);(try clear ho0)))
  (try simp only[Act.put,zA,zB,zC])
  go_cut [71] (fun v71 wc => ∃ (kq:Nat) (x71_6:Bool),v71=.bool x71_6∧Aside0 (laws_FnFollow.j0 kq l1 t566 t579 t581 t584 t585 x71_6 t569 t570 t571 t572 t573 t574 t575 t576 t577 t578=some r)∧Aside0 (kq≤k)∧Aside0 (Kd.R k104 104 wc w.heap.size (fun _=>True) (.slice Ao11 t566.length co11) t566)∧Aside0 (Kd.R (Kd.int .i64) 3 wc w.heap.size (fun _=>True) v582 t581)∧Aside0 (wc.heap[gb580]?=some (.cells #[.int .i64 t569,.int .i64 t570,.bool t571,.int .i64 t572,.int .i64 t573,.int .i64 t574,.int .i64 t575,.int .i64 t576,.int .i64 t577,.string t578] 86 (0,0)))∧Aside0 (Below w.heap.size w wc))
  case first =>
   have H:=HC7.out
   clear HC7
   by_cases c15:(t585 != t590)=true
   ·rw[if_pos c15] at H
    have c15b0:(t585 != t590)=true:=c15
    (try (have c15b1:decide (t585=t590)=false:=by simpa using c15))
    (try (have c15b2:(t585 == t590)=false:=by simpa using c15))
    (try (have c15b3 : ¬ (t585=t590):=by simpa using c15))
    clear c15
    (first|rw[c15b0]|(simp only[i64_w,i32_w];rw[c15b0])|skip)
    have H':=am H
    clear H
    go_wp2
    go_meet
    case rel=>exact⟨_,(true),(bR),H',⟨by first|omega|exact Nat.le_refl _⟩,⟨by(with_reducible repeat (first|apply Kd.R_alloc|apply Kd.R_drewN|apply Kd.R_drew));exact HO568.out⟩,⟨by(with_reducible repeat (first|apply Kd.R_alloc|apply Kd.R_drewN|apply Kd.R_drew));exact Kd.R_mono HO583.out (fun _ hk=>trivial)⟩,⟨by(with_reducible repeat (first|refine blk_drewN ?_ _|refine blk_drew ?_|refine blk_alloc ?_ _));exact BK580.out⟩,⟨bS GE580.out⟩⟩
   ·rw[if_neg c15] at H
    have c15b0:(t585 != t590)=false:=by simpa using c15
    (try (have c15b1:decide (t585=t590)=true:=by simpa using c15))
    (try (have c15b2:(t585 == t590)=true:=by simpa using c15))
    clear c15
    (first|rw[c15b0]|(simp only[i64_w,i32_w];rw[c15b0])|skip)
    by_cases c16:t584=t589
    ·rw[if_pos c16] at H
     have c16b0:(t584 == t589)=true:=beq_iff_eq.mpr c16
     have c16b1:(t584 != t589)=false:=bne_eq_false_iff_eq.mpr c16
     clear c16
     replace H:=bI_ H
     obtain⟨t591,A170,H⟩:=H
     have A17:=am A170
     clear A170
     have H':=am H
     clear H
     obtain⟨Ao18,co18,eo18⟩:=Kd.R_slice HO583.out
     subst eo18
     obtain⟨Ao19,co19,eo19⟩:=Kd.R_slice HO588.out
     subst eo19
     go_wp2_with (first|(go_at_call 62;(with_reducible refine(laws_sameInts.calls k _ _ t581 _ _ t586 t591 _ ?side1 ?side2 ?side3 ?side4 A17.out).mono ?_);(case side1=>exact bT HO583.out);(case side2=>exact(Kd.R_reads' HO583.out).2.1);(case side3=>exact bT HO588.out);(case side4=>exact(Kd.R_reads' HO588.out).2.1);rintro e w' ⟨rfl,⟨nd,rfl⟩⟩))
     go_meet
     case rel=>exact⟨_,(!t591),(bR),H',⟨by first|omega|exact Nat.le_refl _⟩,⟨by(with_reducible repeat (first|apply Kd.R_alloc|apply Kd.R_drewN|apply Kd.R_drew));exact HO568.out⟩,⟨by(with_reducible repeat (first|apply Kd.R_alloc|apply Kd.R_drewN|apply Kd.R_drew));exact Kd.R_mono HO583.out (fun _ hk=>trivial)⟩,⟨by(with_reducible repeat (first|refine blk_drewN ?_ _|refine blk_drew ?_|refine blk_alloc ?_ _));exact BK580.out⟩,⟨bS GE580.out⟩⟩
    ·rw[if_neg c16] at H
     have c16b0:(t584 == t589)=false:=beq_eq_false_iff_ne.mpr c16
     have c16b1:(t584 != t589)=true:=bne_iff_ne.mpr c16
     have H':=am H
     clear H
     go_wp2
     go_meet
     case rel=>exact⟨_,(true),(bR),H',⟨by first|omega|exact Nat.le_refl _⟩,⟨by(with_reducible repeat (first|apply Kd.R_alloc|apply Kd.R_drewN|apply Kd.R_drew));exact HO568.out⟩,⟨by(with_reducible repeat (first|apply Kd.R_alloc|apply Kd.R_drewN|apply Kd.R_drew));exact Kd.R_mono HO583.out (fun _ hk=>trivial)⟩,⟨by(with_reducible repeat (first|refine blk_drewN ?_ _|refine blk_drew ?_|refine blk_alloc ?_ _));exact BK580.out⟩,⟨bS GE580.out⟩⟩
  case rest =>
   clear HC7
   try clear c1
   try clear p2
   try clear c3
   try clear c3b0
   try clear c5
   try clear c6
   try clear p6
   try clear c12
   try clear c15
   try clear c15b0
   try clear c15b1
   try clear c15b2
   try clear c16
   try clear c16b0
   try clear c16b1
   try clear hcz10_0 hcz10_1 hcz10_2 hcz10_3 hcz10_4 hcz10_5 hcz10_6 hcz10_7 hcz10_8 hcz10_9
   try clear hcz13_0 hcz13_1 hcz13_2 hcz13_3 hcz13_4 hcz13_5 hcz13_6 hcz13_7 hcz13_8 hcz13_9
   try clear hfz10_0 hfz10_1 hfz10_2 hfz10_3 hfz10_4 hfz10_5 hfz10_6 hfz10_7 hfz10_8 hfz10_9
   try clear hfz13_0 hfz13_1 hfz13_2 hfz13_3 hfz13_4 hfz13_5 hfz13_6 hfz13_7 hfz13_8 hfz13_9
   obtain⟨kq,x71_6,rfl,HA,HJ6,HO_5,HO_8,BK580,HB⟩:=hcut
   cases kq with
   | zero=>exact absurd HA.out (by simp[laws_FnFollow.j0])
   | succ kj6 =>
    have H:=HA.out
    clear HA
    simp only[laws_FnFollow.j0] at H
    by_cases c20:x71_6=true
    ·subst c20
     have H1:(some false)=some r:=by rw[if_pos rfl] at H;exact H
     clear H
     have H:=H1
     clear H1
     obtain rfl:=Option.some.inj H
     go_wp2
     go_ret
     exact⟨bE,bS GE580.out⟩
    ·replace c20:=Bool.eq_false_iff.mpr c20
     subst c20
     have H1:(if t585=true then ((impl_RouteTo.f kj6 t566 t569 t572 t579).bind fun bt592=>((impl_ArriveBy.f kj6 t566 t569 t572 t581).bind fun bt597=>(if bt592.2.2=true then (if bt592.2.1=t584 then (if bt597.2=true then (if bt597.1=t584 then (if (t581.length:Int) > 0 then (if t584 > (wrap64 (t572+t574)) then (some false) else (laws_FnFollow.j1 kj6 l1)) else (laws_FnFollow.j1 kj6 l1)) else (some false)) else (some false)) else (some false)) else (some false)))) else (laws_FnFollow.j1 kj6 l1))=some r:=by rw[if_neg (show ¬ (false=true) by decide)] at H;exact H
     clear H
     have H:=H1
     clear H1
     have HC21:=am H
     clear H
     go_upto_if 72 with (fail)
     go_cut [] (fun wc => ∃ (kq:Nat),Aside0 (laws_FnFollow.j1 kq l1=some r)∧Aside0 (kq≤kj6)∧Aside0 (wc.heap[gb580]?=some (.cells #[.int .i64 t569,.int .i64 t570,.bool t571,.int .i64 t572,.int .i64 t573,.int .i64 t574,.int .i64 t575,.int .i64 t576,.int .i64 t577,.string t578] 86 (0,0)))∧Aside0 (Below w.heap.size w wc))
     case first =>
      have H:=HC21.out
      clear HC21
      by_cases c22:t585=true
      ·subst c22
       have H1:((impl_RouteTo.f kj6 t566 t569 t572 t579).bind fun bt592=>((impl_ArriveBy.f kj6 t566 t569 t572 t581).bind fun bt597=>(if bt592.2.2=true then (if bt592.2.1=t584 then (if bt597.2=true then (if bt597.1=t584 then (if (t581.length:Int) > 0 then (if t584 > (wrap64 (t572+t574)) then (some false) else (laws_FnFollow.j1 kj6 l1)) else (laws_FnFollow.j1 kj6 l1)) else (some false)) else (some false)) else (some false)) else (some false))))=some r:=by rw[if_pos rfl] at H;exact H
       clear H
       have H:=H1
       clear H1
       replace H:=bI_ H
       obtain⟨⟨t592,t593,t594⟩,A230,H⟩:=H
       have A23:=am A230
       clear A230
       replace H:=bI_ H
       obtain⟨⟨t597,t598⟩,A3,H⟩:=H
       have A24:=am A3
       clear A3
       by_cases c25:t594=true
       ·subst c25
        have H1:(if t593=t584 then (if t598=true then (if t597=t584 then (if (t581.length:Int) > 0 then (if t584 > (wrap64 (t572+t574)) then (some false) else (laws_FnFollow.j1 kj6 l1)) else (laws_FnFollow.j1 kj6 l1)) else (some false)) else (some false)) else (some false))=some r:=by rw[if_pos rfl] at H;exact H
        clear H
        have H:=H1
        clear H1
        by_cases c26:t593=t584
        ·rw[if_pos c26] at H
         have c26b0:(t593 == t584)=true:=beq_iff_eq.mpr c26
         have c26b1:(t593 != t584)=false:=bne_eq_false_iff_eq.mpr c26
         clear c26
         (first|rw[c26b0]|(simp only[i64_w,i32_w];rw[c26b0])|skip)
         by_cases c27:t598=true
         ·subst c27
          have H1:(if t597=t584 then (if (t581.length:Int) > 0 then (if t584 > (wrap64 (t572+t574)) then (some false) else (laws_FnFollow.j1 kj6 l1)) else (laws_FnFollow.j1 kj6 l1)) else (some false))=some r:=by rw[if_pos rfl] at H;exact H
          clear H
          have H:=H1
          clear H1
          by_cases c28:t597=t584
          ·rw[if_pos c28] at H
           have c28b0:(t597 == t584)=true:=beq_iff_eq.mpr c28
           have c28b1:(t597 != t584)=false:=bne_eq_false_iff_eq.mpr c28
           clear c28
           by_cases c29:(t581.length:Int) > 0
           ·rw[if_pos c29] at H
            have c29b0:decide (0 < (t581.length:Int))=true:=decide_eq_true c29
            have c29b1:decide (0 < t581.length)=true:=decide_eq_true (b28_)
            clear c29
            by_cases c30:t584 > (wrap64 (t572+t574))
            ·rw[if_pos c30] at H
             have c30b0:decide ((wrap64 (t572+t574)) < t584)=true:=decide_eq_true c30
             clear c30
             obtain rfl:=Option.some.inj H
             obtain⟨hcz31_0,hcz31_1,hcz31_2,hcz31_3,hcz31_4,hcz31_5,hcz31_6,hcz31_7,hcz31_8,hcz31_9⟩:=cC10 BK580.out
             obtain⟨hfz31_0,hfz31_1,hfz31_2,hfz31_3,hfz31_4,hfz31_5,hfz31_6,hfz31_7,hfz31_8,hfz31_9⟩:=cF10 BK580.out
             go_wp2_with (first|((with_reducible refine gate_callee (f:=63) rfl ?_);refine goesA (some 80) rfl rfl Try.func63 #[.slice Ao11 t566.length co11,.int .i64 t569,.int .i64 t572,.int .i64 t579] rfl ?_;(with_reducible refine(impl_RouteTo.calls kj6 _ _ t566 t569 t572 t579 t592 t593 true _ ?side1 ?side2 A23.out).mono ?_);(case side1=>exact bT HO_5.out);(case side2=>exact(Kd.R_reads' HO_5.out).2.1);rintro e w32 ⟨v595,rfl,ho0,hb⟩;refine⟨_,rfl,?_⟩;have n0_:=am (Kd.R_below (bK HO_5.out) hb);have n1_:=am (Kd.R_elder' (bK HO_8.out) (Kd.R_base ho0) hb);have n2_:=am (Kd.R_lower (Kd.R_new' ho0 (Kd.R_lt (bK HO_8.out))) (below_size (bS GE580.out)));have n3_:=am (bM BK580.out hb);have n4_:=am (below_step (bS GE580.out) hb);clear HO_5 HO_8 BK580 HB;have HO_5:=n0_;have HO_8:=n1_;have HO596:=n2_;have BK580:=n3_;have HB:=n4_;clear n0_ n1_ n2_ n3_ n4_;(try clear hb);(try clear hb2);(try clear hk);(try clear hi);(try clear ho0);obtain⟨hcz33_0,hcz33_1,hcz33_2,hcz33_3,hcz33_4,hcz33_5,hcz33_6,hcz33_7,hcz33_8,hcz33_9⟩:=cC10 BK580.out;obtain⟨hfz33_0,hfz33_1,hfz33_2,hfz33_3,hfz33_4,hfz33_5,hfz33_6,hfz33_7,hfz33_8,hfz33_9⟩:=cF10 BK580.out;obtain⟨Ao34,co34,eo34⟩:=Kd.R_slice HO_8.out;subst eo34)|((with_reducible refine gate_callee (f:=64) rfl ?_);refine goesA (some 91) rfl rfl Try.func64 #[.slice Ao11 t566.length co11,.int .i64 t569,.int .i64 t572,.slice Ao34 t581.length co34] rfl ?_;(with_reducible refine(impl_ArriveBy.calls kj6 _ _ t566 t569 t572 _ _ t581 t597 true _ ?side1 ?side2 ?side3 ?side4 A24.out).mono ?_);(case side1=>exact bT HO_5.out);(case side2=>exact(Kd.R_reads' HO_5.out).2.1);(case side3=>exact bT HO_8.out);(case side4=>exact(Kd.R_reads' HO_8.out).2.1);rintro e w35 ⟨rfl,hb⟩;refine⟨_,rfl,?_⟩;have n0_:=am (Kd.R_below (bK HO_5.out) hb);have n1_:=am (Kd.R_below (bK HO_8.out) hb);have n2_:=am (Kd.R_below (bK HO596.out) hb);have n3_:=am (bM BK580.out hb);have n4_:=am (below_step (bS GE580.out) hb);clear HO_5 HO_8 HO596 BK580 HB;have HO_5:=n0_;have HO_8:=n1_;have HO596:=n2_;have BK580:=n3_;have HB:=n4_;clear n0_ n1_ n2_ n3_ n4_;(try clear hb);(try clear hb2);(try clear hk);(try clear hi);obtain⟨hcz36_0,hcz36_1,hcz36_2,hcz36_3,hcz36_4,hcz36_5,hcz36_6,hcz36_7,hcz36_8,hcz36_9⟩:=cC10 BK580.out;obtain⟨hfz36_0,hfz36_1,hfz36_2,hfz36_3,hfz36_4,hfz36_5,hfz36_6,hfz36_7,hfz36_8,hfz36_9⟩:=cF10 BK580.out))
             go_ret
             exact⟨bE,bS GE580.out⟩
            ·rw[if_neg c30] at H
             have c30b0:decide ((wrap64 (t572+t574)) < t584)=false:=decide_eq_false c30
             clear c30
             have H':=am H
             clear H
             obtain⟨hcz37_0,hcz37_1,hcz37_2,hcz37_3,hcz37_4,hcz37_5,hcz37_6,hcz37_7,hcz37_8,hcz37_9⟩:=cC10 BK580.out
             obtain⟨hfz37_0,hfz37_1,hfz37_2,hfz37_3,hfz37_4,hfz37_5,hfz37_6,hfz37_7,hfz37_8,hfz37_9⟩:=cF10 BK580.out
             go_wp2_with (first|((with_reducible refine gate_callee (f:=63) rfl ?_);refine goesA (some 80) rfl rfl Try.func63 #[.slice Ao11 t566.length co11,.int .i64 t569,.int .i64 t572,.int .i64 t579] rfl ?_;(with_reducible refine(impl_RouteTo.calls kj6 _ _ t566 t569 t572 t579 t592 t593 true _ ?side1 ?side2 A23.out).mono ?_);(case side1=>exact bT HO_5.out);(case side2=>exact(Kd.R_reads' HO_5.out).2.1);rintro e w38 ⟨v595,rfl,ho0,hb⟩;refine⟨_,rfl,?_⟩;have n0_:=am (Kd.R_below (bK HO_5.out) hb);have n1_:=am (Kd.R_elder' (bK HO_8.out) (Kd.R_base ho0) hb);have n2_:=am (Kd.R_lower (Kd.R_new' ho0 (Kd.R_lt (bK HO_8.out))) (below_size (bS GE580.out)));have n3_:=am (bM BK580.out hb);have n4_:=am (below_step (bS GE580.out) hb);clear HO_5 HO_8 BK580 HB;have HO_5:=n0_;have HO_8:=n1_;have HO596:=n2_;have BK580:=n3_;have HB:=n4_;clear n0_ n1_ n2_ n3_ n4_;(try clear hb);(try clear hb2);(try clear hk);(try clear hi);(try clear ho0);obtain⟨hcz39_0,hcz39_1,hcz39_2,hcz39_3,hcz39_4,hcz39_5,hcz39_6,hcz39_7,hcz39_8,hcz39_9⟩:=cC10 BK580.out;obtain⟨hfz39_0,hfz39_1,hfz39_2,hfz39_3,hfz39_4,hfz39_5,hfz39_6,hfz39_7,hfz39_8,hfz39_9⟩:=cF10 BK580.out;obtain⟨Ao40,co40,eo40⟩:=Kd.R_slice HO_8.out;subst eo40)|((with_reducible refine gate_callee (f:=64) rfl ?_);refine goesA (some 91) rfl rfl Try.func64 #[.slice Ao11 t566.length co11,.int .i64 t569,.int .i64 t572,.slice Ao40 t581.length co40] rfl ?_;(with_reducible refine(impl_ArriveBy.calls kj6 _ _ t566 t569 t572 _ _ t581 t597 true _ ?side1 ?side2 ?side3 ?side4 A24.out).mono ?_);(case side1=>exact bT HO_5.out);(case side2=>exact(Kd.R_reads' HO_5.out).2.1);(case side3=>exact bT HO_8.out);(case side4=>exact(Kd.R_reads' HO_8.out).2.1);rintro e w41 ⟨rfl,hb⟩;refine⟨_,rfl,?_⟩;have n0_:=am (Kd.R_below (bK HO_5.out) hb);have n1_:=am (Kd.R_below (bK HO_8.out) hb);have n2_:=am (Kd.R_below (bK HO596.out) hb);have n3_:=am (bM BK580.out hb);have n4_:=am (below_step (bS GE580.out) hb);clear HO_5 HO_8 HO596 BK580 HB;have HO_5:=n0_;have HO_8:=n1_;have HO596:=n2_;have BK580:=n3_;have HB:=n4_;clear n0_ n1_ n2_ n3_ n4_;(try clear hb);(try clear hb2);(try clear hk);(try clear hi);obtain⟨hcz42_0,hcz42_1,hcz42_2,hcz42_3,hcz42_4,hcz42_5,hcz42_6,hcz42_7,hcz42_8,hcz42_9⟩:=cC10 BK580.out;obtain⟨hfz42_0,hfz42_1,hfz42_2,hfz42_3,hfz42_4,hfz42_5,hfz42_6,hfz42_7,hfz42_8,hfz42_9⟩:=cF10 BK580.out))
             go_meet
             case rel=>exact⟨_,H',⟨by have:=HJ6.out;first|omega|exact Nat.le_refl _⟩,⟨by(with_reducible repeat (first|refine blk_drewN ?_ _|refine blk_drew ?_|refine blk_alloc ?_ _));exact BK580.out⟩,⟨bS GE580.out⟩⟩
           ·rw[if_neg c29] at H
            have c29b0:decide (0 < (t581.length:Int))=false:=decide_eq_false c29
            have c29b1:decide (0 < t581.length)=false:=decide_eq_false (b28_)
            clear c29
            have H':=am H
            clear H
            obtain⟨hcz43_0,hcz43_1,hcz43_2,hcz43_3,hcz43_4,hcz43_5,hcz43_6,hcz43_7,hcz43_8,hcz43_9⟩:=cC10 BK580.out
            obtain⟨hfz43_0,hfz43_1,hfz43_2,hfz43_3,hfz43_4,hfz43_5,hfz43_6,hfz43_7,hfz43_8,hfz43_9⟩:=cF10 BK580.out
            go_wp2_with (first|((with_reducible refine gate_callee (f:=63) rfl ?_);refine goesA (some 80) rfl rfl Try.func63 #[.slice Ao11 t566.length co11,.int .i64 t569,.int .i64 t572,.int .i64 t579] rfl ?_;(with_reducible refine(impl_RouteTo.calls kj6 _ _ t566 t569 t572 t579 t592 t593 true _ ?side1 ?side2 A23.out).mono ?_);(case side1=>exact bT HO_5.out);(case side2=>exact(Kd.R_reads' HO_5.out).2.1);rintro e w44 ⟨v595,rfl,ho0,hb⟩;refine⟨_,rfl,?_⟩;have n0_:=am (Kd.R_below (bK HO_5.out) hb);have n1_:=am (Kd.R_elder' (bK HO_8.out) (Kd.R_base ho0) hb);have n2_:=am (Kd.R_lower (Kd.R_new' ho0 (Kd.R_lt (bK HO_8.out))) (below_size (bS GE580.out)));have n3_:=am (bM BK580.out hb);have n4_:=am (below_step (bS GE580.out) hb);clear HO_5 HO_8 BK580 HB;have HO_5:=n0_;have HO_8:=n1_;have HO596:=n2_;have BK580:=n3_;have HB:=n4_;clear n0_ n1_ n2_ n3_ n4_;(try clear hb);(try clear hb2);(try clear hk);(try clear hi);(try clear ho0);obtain⟨hcz45_0,hcz45_1,hcz45_2,hcz45_3,hcz45_4,hcz45_5,hcz45_6,hcz45_7,hcz45_8,hcz45_9⟩:=cC10 BK580.out;obtain⟨hfz45_0,hfz45_1,hfz45_2,hfz45_3,hfz45_4,hfz45_5,hfz45_6,hfz45_7,hfz45_8,hfz45_9⟩:=cF10 BK580.out;obtain⟨Ao46,co46,eo46⟩:=Kd.R_slice HO_8.out;subst eo46)|((with_reducible refine gate_callee (f:=64) rfl ?_);refine goesA (some 91) rfl rfl Try.func64 #[.slice Ao11 t566.length co11,.int .i64 t569,.int .i64 t572,.slice Ao46 t581.length co46] rfl ?_;(with_reducible refine(impl_ArriveBy.calls kj6 _ _ t566 t569 t572 _ _ t581 t597 true _ ?side1 ?side2 ?side3 ?side4 A24.out).mono ?_);(case side1=>exact bT HO_5.out);(case side2=>exact(Kd.R_reads' HO_5.out).2.1);(case side3=>exact bT HO_8.out);(case side4=>exact(Kd.R_reads' HO_8.out).2.1);rintro e w47 ⟨rfl,hb⟩;refine⟨_,rfl,?_⟩;have n0_:=am (Kd.R_below (bK HO_5.out) hb);have n1_:=am (Kd.R_below (bK HO_8.out) hb);have n2_:=am (Kd.R_below (bK HO596.out) hb);have n3_:=am (bM BK580.out hb);have n4_:=am (below_step (bS GE580.out) hb);clear HO_5 HO_8 HO596 BK580 HB;have HO_5:=n0_;have HO_8:=n1_;have HO596:=n2_;have BK580:=n3_;have HB:=n4_;clear n0_ n1_ n2_ n3_ n4_;(try clear hb);(try clear hb2);(try clear hk);(try clear hi)))
            go_meet
            case rel=>exact⟨_,H',⟨by have:=HJ6.out;first|omega|exact Nat.le_refl _⟩,⟨by(with_reducible repeat (first|refine blk_drewN ?_ _|refine blk_drew ?_|refine blk_alloc ?_ _));exact BK580.out⟩,⟨bS GE580.out⟩⟩
          ·rw[if_neg c28] at H
           have c28b0:(t597 == t584)=false:=beq_eq_false_iff_ne.mpr c28
           have c28b1:(t597 != t584)=true:=bne_iff_ne.mpr c28
           obtain rfl:=Option.some.inj H
           obtain⟨hcz48_0,hcz48_1,hcz48_2,hcz48_3,hcz48_4,hcz48_5,hcz48_6,hcz48_7,hcz48_8,hcz48_9⟩:=cC10 BK580.out
           obtain⟨hfz48_0,hfz48_1,hfz48_2,hfz48_3,hfz48_4,hfz48_5,hfz48_6,hfz48_7,hfz48_8,hfz48_9⟩:=cF10 BK580.out
           go_wp2_with (first|((with_reducible refine gate_callee (f:=63) rfl ?_);refine goesA (some 80) rfl rfl Try.func63 #[.slice Ao11 t566.length co11,.int .i64 t569,.int .i64 t572,.int .i64 t579] rfl ?_;(with_reducible refine(impl_RouteTo.calls kj6 _ _ t566 t569 t572 t579 t592 t593 true _ ?side1 ?side2 A23.out).mono ?_);(case side1=>exact bT HO_5.out);(case side2=>exact(Kd.R_reads' HO_5.out).2.1);rintro e w49 ⟨v595,rfl,ho0,hb⟩;refine⟨_,rfl,?_⟩;have n0_:=am (Kd.R_below (bK HO_5.out) hb);have n1_:=am (Kd.R_elder' (bK HO_8.out) (Kd.R_base ho0) hb);have n2_:=am (Kd.R_lower (Kd.R_new' ho0 (Kd.R_lt (bK HO_8.out))) (below_size (bS GE580.out)));have n3_:=am (bM BK580.out hb);have n4_:=am (below_step (bS GE580.out) hb);clear HO_5 HO_8 BK580 HB;have HO_5:=n0_;have HO_8:=n1_;have HO596:=n2_;have BK580:=n3_;have HB:=n4_;clear n0_ n1_ n2_ n3_ n4_;(try clear hb);(try clear hb2);(try clear hk);(try clear hi);(try clear ho0);obtain⟨hcz50_0,hcz50_1,hcz50_2,hcz50_3,hcz50_4,hcz50_5,hcz50_6,hcz50_7,hcz50_8,hcz50_9⟩:=cC10 BK580.out;obtain⟨hfz50_0,hfz50_1,hfz50_2,hfz50_3,hfz50_4,hfz50_5,hfz50_6,hfz50_7,hfz50_8,hfz50_9⟩:=cF10 BK580.out;obtain⟨Ao51,co51,eo51⟩:=Kd.R_slice HO_8.out;subst eo51)|((with_reducible refine gate_callee (f:=64) rfl ?_);refine goesA (some 91) rfl rfl Try.func64 #[.slice Ao11 t566.length co11,.int .i64 t569,.int .i64 t572,.slice Ao51 t581.length co51] rfl ?_;(with_reducible refine(impl_ArriveBy.calls kj6 _ _ t566 t569 t572 _ _ t581 t597 true _ ?side1 ?side2 ?side3 ?side4 A24.out).mono ?_);(case side1=>exact bT HO_5.out);(case side2=>exact(Kd.R_reads' HO_5.out).2.1);(case side3=>exact bT HO_8.out);(case side4=>exact(Kd.R_reads' HO_8.out).2.1);rintro e w52 ⟨rfl,hb⟩;refine⟨_,rfl,?_⟩;have n0_:=am (Kd.R_below (bK HO_5.out) hb);have n1_:=am (Kd.R_below (bK HO_8.out) hb);have n2_:=am (Kd.R_below (bK HO596.out) hb);have n3_:=am (bM BK580.out hb);have n4_:=am (below_step (bS GE580.out) hb);clear HO_5 HO_8 HO596 BK580 HB;have HO_5:=n0_;have HO_8:=n1_;have HO596:=n2_;have BK580:=n3_;have HB:=n4_;clear n0_ n1_ n2_ n3_ n4_;(try clear hb);(try clear hb2);(try clear hk);(try clear hi)))
           go_ret
           exact⟨bE,bS GE580.out⟩
         ·replace c27:=Bool.eq_false_iff.mpr c27
          subst c27
          have H1:(some false)=some r:=by rw[if_neg (show ¬ (false=true) by decide)] at H;exact H
          clear H
          have H:=H1
          clear H1
          obtain rfl:=Option.some.inj H
          obtain⟨hcz53_0,hcz53_1,hcz53_2,hcz53_3,hcz53_4,hcz53_5,hcz53_6,hcz53_7,hcz53_8,hcz53_9⟩:=cC10 BK580.out
          obtain⟨hfz53_0,hfz53_1,hfz53_2,hfz53_3,hfz53_4,hfz53_5,hfz53_6,hfz53_7,hfz53_8,hfz53_9⟩:=cF10 BK580.out
          go_wp2_with (first|((with_reducible refine gate_callee (f:=63) rfl ?_);refine goesA (some 80) rfl rfl Try.func63 #[.slice Ao11 t566.length co11,.int .i64 t569,.int .i64 t572,.int .i64 t579] rfl ?_;(with_reducible refine(impl_RouteTo.calls kj6 _ _ t566 t569 t572 t579 t592 t593 true _ ?side1 ?side2 A23.out).mono ?_);(case side1=>exact bT HO_5.out);(case side2=>exact(Kd.R_reads' HO_5.out).2.1);rintro e w54 ⟨v595,rfl,ho0,hb⟩;refine⟨_,rfl,?_⟩;have n0_:=am (Kd.R_below (bK HO_5.out) hb);have n1_:=am (Kd.R_elder' (bK HO_8.out) (Kd.R_base ho0) hb);have n2_:=am (Kd.R_lower (Kd.R_new' ho0 (Kd.R_lt (bK HO_8.out))) (below_size (bS GE580.out)));have n3_:=am (bM BK580.out hb);have n4_:=am (below_step (bS GE580.out) hb);clear HO_5 HO_8 BK580 HB;have HO_5:=n0_;have HO_8:=n1_;have HO596:=n2_;have BK580:=n3_;have HB:=n4_;clear n0_ n1_ n2_ n3_ n4_;(try clear hb);(try clear hb2);(try clear hk);(try clear hi);(try clear ho0);obtain⟨hcz55_0,hcz55_1,hcz55_2,hcz55_3,hcz55_4,hcz55_5,hcz55_6,hcz55_7,hcz55_8,hcz55_9⟩:=cC10 BK580.out;obtain⟨hfz55_0,hfz55_1,hfz55_2,hfz55_3,hfz55_4,hfz55_5,hfz55_6,hfz55_7,hfz55_8,hfz55_9⟩:=cF10 BK580.out;obtain⟨Ao56,co56,eo56⟩:=Kd.R_slice HO_8.out;subst eo56)|((with_reducible refine gate_callee (f:=64) rfl ?_);refine goesA (some 91) rfl rfl Try.func64 #[.slice Ao11 t566.length co11,.int .i64 t569,.int .i64 t572,.slice Ao56 t581.length co56] rfl ?_;(with_reducible refine(impl_ArriveBy.calls kj6 _ _ t566 t569 t572 _ _ t581 t597 false _ ?side1 ?side2 ?side3 ?side4 A24.out).mono ?_);(case side1=>exact bT HO_5.out);(case side2=>exact(Kd.R_reads' HO_5.out).2.1);(case side3=>exact bT HO_8.out);(case side4=>exact(Kd.R_reads' HO_8.out).2.1);rintro e w57 ⟨rfl,hb⟩;refine⟨_,rfl,?_⟩;have n0_:=am (Kd.R_below (bK HO_5.out) hb);have n1_:=am (Kd.R_below (bK HO_8.out) hb);have n2_:=am (Kd.R_below (bK HO596.out) hb);have n3_:=am (bM BK580.out hb);have n4_:=am (below_step (bS GE580.out) hb);clear HO_5 HO_8 HO596 BK580 HB;have HO_5:=n0_;have HO_8:=n1_;have HO596:=n2_;have BK580:=n3_;have HB:=n4_;clear n0_ n1_ n2_ n3_ n4_;(try clear hb);(try clear hb2);(try clear hk);(try clear hi)))
          go_ret
          exact⟨bE,bS GE580.out⟩
        ·rw[if_neg c26] at H
         have c26b0:(t593 == t584)=false:=beq_eq_false_iff_ne.mpr c26
         have c26b1:(t593 != t584)=true:=bne_iff_ne.mpr c26
         (first|rw[c26b0]|(simp only[i64_w,i32_w];rw[c26b0])|skip)
         obtain rfl:=Option.some.inj H
         obtain⟨hcz58_0,hcz58_1,hcz58_2,hcz58_3,hcz58_4,hcz58_5,hcz58_6,hcz58_7,hcz58_8,hcz58_9⟩:=cC10 BK580.out
         obtain⟨hfz58_0,hfz58_1,hfz58_2,hfz58_3,hfz58_4,hfz58_5,hfz58_6,hfz58_7,hfz58_8,hfz58_9⟩:=cF10 BK580.out
         go_wp2_with (first|((with_reducible refine gate_callee (f:=63) rfl ?_);refine goesA (some 80) rfl rfl Try.func63 #[.slice Ao11 t566.length co11,.int .i64 t569,.int .i64 t572,.int .i64 t579] rfl ?_;(with_reducible refine(impl_RouteTo.calls kj6 _ _ t566 t569 t572 t579 t592 t593 true _ ?side1 ?side2 A23.out).mono ?_);(case side1=>exact bT HO_5.out);(case side2=>exact(Kd.R_reads' HO_5.out).2.1);rintro e w59 ⟨v595,rfl,ho0,hb⟩;refine⟨_,rfl,?_⟩;have n0_:=am (Kd.R_below (bK HO_5.out) hb);have n1_:=am (Kd.R_elder' (bK HO_8.out) (Kd.R_base ho0) hb);have n2_:=am (Kd.R_lower (Kd.R_new' ho0 (Kd.R_lt (bK HO_8.out))) (below_size (bS GE580.out)));have n3_:=am (bM BK580.out hb);have n4_:=am (below_step (bS GE580.out) hb);clear HO_5 HO_8 BK580 HB;have HO_5:=n0_;have HO_8:=n1_;have HO596:=n2_;have BK580:=n3_;have HB:=n4_;clear n0_ n1_ n2_ n3_ n4_;(try clear hb);(try clear hb2);(try clear hk);(try clear hi);(try clear ho0);obtain⟨hcz60_0,hcz60_1,hcz60_2,hcz60_3,hcz60_4,hcz60_5,hcz60_6,hcz60_7,hcz60_8,hcz60_9⟩:=cC10 BK580.out;obtain⟨hfz60_0,hfz60_1,hfz60_2,hfz60_3,hfz60_4,hfz60_5,hfz60_6,hfz60_7,hfz60_8,hfz60_9⟩:=cF10 BK580.out;obtain⟨Ao61,co61,eo61⟩:=Kd.R_slice HO_8.out;subst eo61)|((with_reducible refine gate_callee (f:=64) rfl ?_);refine goesA (some 91) rfl rfl Try.func64 #[.slice Ao11 t566.length co11,.int .i64 t569,.int .i64 t572,.slice Ao61 t581.length co61] rfl ?_;(with_reducible refine(impl_ArriveBy.calls kj6 _ _ t566 t569 t572 _ _ t581 t597 t598 _ ?side1 ?side2 ?side3 ?side4 A24.out).mono ?_);(case side1=>exact bT HO_5.out);(case side2=>exact(Kd.R_reads' HO_5.out).2.1);(case side3=>exact bT HO_8.out);(case side4=>exact(Kd.R_reads' HO_8.out).2.1);rintro e w62 ⟨rfl,hb⟩;refine⟨_,rfl,?_⟩;have n0_:=am (Kd.R_below (bK HO_5.out) hb);have n1_:=am (Kd.R_below (bK HO_8.out) hb);have n2_:=am (Kd.R_below (bK HO596.out) hb);have n3_:=am (bM BK580.out hb);have n4_:=am (below_step (bS GE580.out) hb);clear HO_5 HO_8 HO596 BK580 HB;have HO_5:=n0_;have HO_8:=n1_;have HO596:=n2_;have BK580:=n3_;have HB:=n4_;clear n0_ n1_ n2_ n3_ n4_;(try clear hb);(try clear hb2);(try clear hk);(try clear hi)))
         go_ret
         exact⟨bE,bS GE580.out⟩
       ·replace c25:=Bool.eq_false_iff.mpr c25
        subst c25
        have H1:(some false)=some r:=by rw[if_neg (show ¬ (false=true) by decide)] at H;exact H
        clear H
        have H:=H1
        clear H1
        obtain rfl:=Option.some.inj H
        obtain⟨hcz63_0,hcz63_1,hcz63_2,hcz63_3,hcz63_4,hcz63_5,hcz63_6,hcz63_7,hcz63_8,hcz63_9⟩:=cC10 BK580.out
        obtain⟨hfz63_0,hfz63_1,hfz63_2,hfz63_3,hfz63_4,hfz63_5,hfz63_6,hfz63_7,hfz63_8,hfz63_9⟩:=cF10 BK580.out
        go_wp2_with (first|((with_reducible refine gate_callee (f:=63) rfl ?_);refine goesA (some 80) rfl rfl Try.func63 #[.slice Ao11 t566.length co11,.int .i64 t569,.int .i64 t572,.int .i64 t579] rfl ?_;(with_reducible refine(impl_RouteTo.calls kj6 _ _ t566 t569 t572 t579 t592 t593 false _ ?side1 ?side2 A23.out).mono ?_);(case side1=>exact bT HO_5.out);(case side2=>exact(Kd.R_reads' HO_5.out).2.1);rintro e w64 ⟨v595,rfl,ho0,hb⟩;refine⟨_,rfl,?_⟩;have n0_:=am (Kd.R_below (bK HO_5.out) hb);have n1_:=am (Kd.R_elder' (bK HO_8.out) (Kd.R_base ho0) hb);have n2_:=am (Kd.R_lower (Kd.R_new' ho0 (Kd.R_lt (bK HO_8.out))) (below_size (bS GE580.out)));have n3_:=am (bM BK580.out hb);have n4_:=am (below_step (bS GE580.out) hb);clear HO_5 HO_8 BK580 HB;have HO_5:=n0_;have HO_8:=n1_;have HO596:=n2_;have BK580:=n3_;have HB:=n4_;clear n0_ n1_ n2_ n3_ n4_;(try clear hb);(try clear hb2);(try clear hk);(try clear hi);(try clear ho0);obtain⟨hcz65_0,hcz65_1,hcz65_2,hcz65_3,hcz65_4,hcz65_5,hcz65_6,hcz65_7,hcz65_8,hcz65_9⟩:=cC10 BK580.out;obtain⟨hfz65_0,hfz65_1,hfz65_2,hfz65_3,hfz65_4,hfz65_5,hfz65_6,hfz65_7,hfz65_8,hfz65_9⟩:=cF10 BK580.out;obtain⟨Ao66,co66,eo66⟩:=Kd.R_slice HO_8.out;subst eo66)|((with_reducible refine gate_callee (f:=64) rfl ?_);refine goesA (some 91) rfl rfl Try.func64 #[.slice Ao11 t566.length co11,.int .i64 t569,.int .i64 t572,.slice Ao66 t581.length co66] rfl ?_;(with_reducible refine(impl_ArriveBy.calls kj6 _ _ t566 t569 t572 _ _ t581 t597 t598 _ ?side1 ?side2 ?side3 ?side4 A24.out).mono ?_);(case side1=>exact bT HO_5.out);(case side2=>exact(Kd.R_reads' HO_5.out).2.1);(case side3=>exact bT HO_8.out);(case side4=>exact(Kd.R_reads' HO_8.out).2.1);rintro e w67 ⟨rfl,hb⟩;refine⟨_,rfl,?_⟩;have n0_:=am (Kd.R_below (bK HO_5.out) hb);have n1_:=am (Kd.R_below (bK HO_8.out) hb);have n2_:=am (Kd.R_below (bK HO596.out) hb);have n3_:=am (bM BK580.out hb);have n4_:=am (below_step (bS GE580.out) hb);clear HO_5 HO_8 HO596 BK580 HB;have HO_5:=n0_;have HO_8:=n1_;have HO596:=n2_;have BK580:=n3_;have HB:=n4_;clear n0_ n1_ n2_ n3_ n4_;(try clear hb);(try clear hb2);(try clear hk);(try clear hi)))
        go_ret
        exact⟨bE,bS GE580.out⟩
      ·replace c22:=Bool.eq_false_iff.mpr c22
       subst c22
       have H1:(laws_FnFollow.j1 kj6 l1)=some r:=by rw[if_neg (show ¬ (false=true) by decide)] at H;exact H
       clear H
       have H:=H1
       clear H1
       have H':=am H
       clear H
       go_wp2
       go_meet
       case rel=>exact⟨_,H',⟨by have:=HJ6.out;first|omega|exact Nat.le_refl _⟩,⟨by(with_reducible repeat (first|refine blk_drewN ?_ _|refine blk_drew ?_|refine blk_alloc ?_ _));exact BK580.out⟩,⟨bS GE580.out⟩⟩
     case rest =>
      clear HC21
      try clear c1
      try clear c2
      try clear p2
      try clear c3
      try clear c3b0
      try clear c5
      try clear c6
      try clear p6
      try clear c12
      try clear c15
      try clear c15b0
      try clear c15b1
      try clear c15b2
      try clear c16
      try clear c16b0
      try clear c16b1
      try clear c20
      try clear c22
      try clear c25
      try clear c26
      try clear c26b0
      try clear c26b1
      try clear c27
      try clear c28
      try clear c28b0
      try clear c28b1
      try clear c29
      try clear c29b0
      try clear c29b1
      try clear c30
      try clear c30b0
      try clear c57
      try clear c58
      try clear c61
      try clear c63
      try clear c64
      try clear p64
      try clear hcz10_0 hcz10_1 hcz10_2 hcz10_3 hcz10_4 hcz10_5 hcz10_6 hcz10_7 hcz10_8 hcz10_9
      try clear hcz13_0 hcz13_1 hcz13_2 hcz13_3 hcz13_4 hcz13_5 hcz13_6 hcz13_7 hcz13_8 hcz13_9
      try clear hcz31_0 hcz31_1 hcz31_2 hcz31_3 hcz31_4 hcz31_5 hcz31_6 hcz31_7 hcz31_8 hcz31_9
      try clear hcz33_0 hcz33_1 hcz33_2 hcz33_3 hcz33_4 hcz33_5 hcz33_6 hcz33_7 hcz33_8 hcz33_9
      try clear hcz36_0 hcz36_1 hcz36_2 hcz36_3 hcz36_4 hcz36_5 hcz36_6 hcz36_7 hcz36_8 hcz36_9
      try clear hcz37_0 hcz37_1 hcz37_2 hcz37_3 hcz37_4 hcz37_5 hcz37_6 hcz37_7 hcz37_8 hcz37_9
      try clear hcz39_0 hcz39_1 hcz39_2 hcz39_3 hcz39_4 hcz39_5 hcz39_6 hcz39_7 hcz39_8 hcz39_9
      try clear hcz42_0 hcz42_1 hcz42_2 hcz42_3 hcz42_4 hcz42_5 hcz42_6 hcz42_7 hcz42_8 hcz42_9
      try clear hcz43_0 hcz43_1 hcz43_2 hcz43_3 hcz43_4 hcz43_5 hcz43_6 hcz43_7 hcz43_8 hcz43_9
      try clear hcz45_0 hcz45_1 hcz45_2 hcz45_3 hcz45_4 hcz45_5 hcz45_6 hcz45_7 hcz45_8 hcz45_9
      try clear hcz48_0 hcz48_1 hcz48_2 hcz48_3 hcz48_4 hcz48_5 hcz48_6 hcz48_7 hcz48_8 hcz48_9
      try clear hcz50_0 hcz50_1 hcz50_2 hcz50_3 hcz50_4 hcz50_5 hcz50_6 hcz50_7 hcz50_8 hcz50_9
      try clear hcz53_0 hcz53_1 hcz53_2 hcz53_3 hcz53_4 hcz53_5 hcz53_6 hcz53_7 hcz53_8 hcz53_9
      try clear hcz55_0 hcz55_1 hcz55_2 hcz55_3 hcz55_4 hcz55_5 hcz55_6 hcz55_7 hcz55_8 hcz55_9
      try clear hcz58_0 hcz58_1 hcz58_2 hcz58_3 hcz58_4 hcz58_5 hcz58_6 hcz58_7 hcz58_8 hcz58_9
      try clear hcz60_0 hcz60_1 hcz60_2 hcz60_3 hcz60_4 hcz60_5 hcz60_6 hcz60_7 hcz60_8 hcz60_9
      try clear hcz63_0 hcz63_1 hcz63_2 hcz63_3 hcz63_4 hcz63_5 hcz63_6 hcz63_7 hcz63_8 hcz63_9
      try clear hcz65_0 hcz65_1 hcz65_2 hcz65_3 hcz65_4 hcz65_5 hcz65_6 hcz65_7 hcz65_8 hcz65_9
      try clear hfz10_0 hfz10_1 hfz10_2 hfz10_3 hfz10_4 hfz10_5 hfz10_6 hfz10_7 hfz10_8 hfz10_9
      try clear hfz13_0 hfz13_1 hfz13_2 hfz13_3 hfz13_4 hfz13_5 hfz13_6 hfz13_7 hfz13_8 hfz13_9
      try clear hfz31_0 hfz31_1 hfz31_2 hfz31_3 hfz31_4 hfz31_5 hfz31_6 hfz31_7 hfz31_8 hfz31_9
      try clear hfz33_0 hfz33_1 hfz33_2 hfz33_3 hfz33_4 hfz33_5 hfz33_6 hfz33_7 hfz33_8 hfz33_9
      try clear hfz36_0 hfz36_1 hfz36_2 hfz36_3 hfz36_4 hfz36_5 hfz36_6 hfz36_7 hfz36_8 hfz36_9
      try clear hfz37_0 hfz37_1 hfz37_2 hfz37_3 hfz37_4 hfz37_5 hfz37_6 hfz37_7 hfz37_8 hfz37_9
      try clear hfz39_0 hfz39_1 hfz39_2 hfz39_3 hfz39_4 hfz39_5 hfz39_6 hfz39_7 hfz39_8 hfz39_9
      try clear hfz42_0 hfz42_1 hfz42_2 hfz42_3 hfz42_4 hfz42_5 hfz42_6 hfz42_7 hfz42_8 hfz42_9
      try clear hfz43_0 hfz43_1 hfz43_2 hfz43_3 hfz43_4 hfz43_5 hfz43_6 hfz43_7 hfz43_8 hfz43_9
      try clear hfz45_0 hfz45_1 hfz45_2 hfz45_3 hfz45_4 hfz45_5 hfz45_6 hfz45_7 hfz45_8 hfz45_9
      try clear hfz48_0 hfz48_1 hfz48_2 hfz48_3 hfz48_4 hfz48_5 hfz48_6 hfz48_7 hfz48_8 hfz48_9
      try clear hfz50_0 hfz50_1 hfz50_2 hfz50_3 hfz50_4 hfz50_5 hfz50_6 hfz50_7 hfz50_8 hfz50_9
      try clear hfz53_0 hfz53_1 hfz53_2 hfz53_3 hfz53_4 hfz53_5 hfz53_6 hfz53_7 hfz53_8 hfz53_9
      try clear hfz55_0 hfz55_1 hfz55_2 hfz55_3 hfz55_4 hfz55_5 hfz55_6 hfz55_7 hfz55_8 hfz55_9
      try clear hfz58_0 hfz58_1 hfz58_2 hfz58_3 hfz58_4 hfz58_5 hfz58_6 hfz58_7 hfz58_8 hfz58_9
      try clear hfz60_0 hfz60_1 hfz60_2 hfz60_3 hfz60_4 hfz60_5 hfz60_6 hfz60_7 hfz60_8 hfz60_9
      try clear hfz63_0 hfz63_1 hfz63_2 hfz63_3 hfz63_4 hfz63_5 hfz63_6 hfz63_7 hfz63_8 hfz63_9
      try clear hfz65_0 hfz65_1 hfz65_2 hfz65_3 hfz65_4 hfz65_5 hfz65_6 hfz65_7 hfz65_8 hfz65_9
      try clear p2
      try clear p6
      obtain⟨kq,HA,HJ20,BK580,HB⟩:=hcut
      cases kq with
      | zero=>exact absurd HA.out (by simp[laws_FnFollow.j1])
      | succ kj20 =>
       have H:=HA.out
       clear HA
       simp only[laws_FnFollow.j1] at H
       replace H:=bI_ H
       obtain⟨⟨t599,t602,t603,t604,t605,t606,t607,t608,t609,t610,t611,t612,t613,t614⟩,A680,H⟩:=H
       have A68:=am A680
       clear A680
       replace H:=bI_ H
       obtain⟨⟨t616,t617,t618⟩,A690,H⟩:=H
       have A69:=am A690
       clear A690
       replace H:=bI_ H
       obtain⟨⟨t619,t620,t621⟩,A700,H⟩:=H
       have A70:=am A700
       clear A700
       have HC71:=am H
       clear H
       go_upto_region 16 with (first|((with_reducible refine gate_callee (f:=65) rfl ?_);refine goesA (some 126) rfl rfl Try.func65 #[.slice A1 l1.length c1] rfl ?_;(with_reducible refine(spec_DrawForwardStep.calls kj20 _ _ l1 t599 t602 t603 t604 t605 t606 t607 t608 t609 t610 t611 t612 t613 t614 _ ?side1 ?side2 A68.out).mono ?_);(case side1=>exact bC HR1.out);(case side2=>exact HC1.out);rintro e w72 ⟨v600,rfl,ho0,hb⟩;refine⟨_,rfl,?_⟩;have n0_:=am (Kd.R_lower ho0 (below_size (bS GE580.out)));have n1_:=am (bM BK580.out hb);have n2_:=am (below_step (bS GE580.out) hb);clear BK580 HB;have HO601:=n0_;have BK580:=n1_;have HB:=n2_;clear n0_ n1_ n2_;(try clear hb);(try clear hb2);(try clear hk);(try clear hi);(try clear ho0))|((with_reducible refine gate_dst (N:=20) rfl ?_);(try (refine gate_guard (by rfl) ?_;dsimp only));refine box_event ?hg (N:=20) ?hd (cs:=#[.int .i64 0,.int .i64 0,.bool false,.int .i64 0,.int .i64 0,.int .i64 0,.int .i64 0,.int .i64 0,.int .i64 0,.string (⟨#[]⟩:ByteArray)]) (t:=86) ?hr ?_;(case hd=>rfl);(case hg=>rfl);(case hr=>first|(go_simp;done)|(go_simp;rfl));intro gb615 hg w73 hbox hb;have n0_:=am (Kd.R_below (bK HO601.out) hb);have n1_:=am (bM BK580.out hb);have n2_:=am (below_step (bS GE580.out) hb);have n3_:=am (hbox);have n4_:=am ((by rw[hg];exact(below_size (bS GE580.out)):w.heap.size≤gb615));have n5_:=am ((by rw[hg];exact(below_size (bS GE580.out)):w.heap.size≤gb615));have n6_:=am ((bN BK580.out hg:gb580≠gb615));have n7_:=am ((bO BK580.out hg:gb615≠gb580));clear HO601 BK580 HB;have HO601:=n0_;have BK580:=n1_;have HB:=n2_;have BK615:=n3_;have GW615:=n4_;have GE615:=n5_;have NB580_615:=n6_;have NB615_580:=n7_;clear n0_ n1_ n2_ n3_ n4_ n5_ n6_ n7_;clear hb hbox hg;have hnb74:=NB615_580.out;have hnc74:=NB580_615.out;obtain⟨hcz75_0,hcz75_1,hcz75_2,hcz75_3,hcz75_4,hcz75_5,hcz75_6,hcz75_7,hcz75_8,hcz75_9⟩:=cC10 BK615.out;obtain⟨hfz75_0,hfz75_1,hfz75_2,hfz75_3,hfz75_4,hfz75_5,hfz75_6,hfz75_7,hfz75_8,hfz75_9⟩:=cF10 BK615.out;obtain⟨Ao76,co76,eo76⟩:=Kd.R_slice HO601.out;subst eo76)|((with_reducible refine gate_callee (f:=54) rfl ?_);refine goesA (some 138) rfl rfl Try.func54 #[.slice Ao76 t599.length co76,.agg #[.int .i64 t602,.int .i64 t603,.bool t604,.int .i64 t605,.int .i64 t606,.int .i64 t607,.int .i64 t608,.int .i64 t609,.int .i64 t610,.string t611],.int .i64 t612,.int .i64 t613,.int .i64 t614] rfl ?_;(with_reducible refine(impl_ForwardStep.calls kj20 _ _ t599 t602 t603 t604 t605 t606 t607 t608 t609 t610 t611 t612 t613 t614 t616 t617 t618 _ ?side1 ?side2 A69.out).mono ?_);(case side1=>refine(Kd.R_reads' (e:=104) (base:=w.heap.size) (ok:=fun k_=>True) (n:=t599.length) (c:=co76) ?_).2.2;exact(b12_));(case side2=>exact(Kd.R_reads' HO601.out).2.1);rintro e w77 ⟨rfl,hb⟩;refine⟨_,rfl,?_⟩;have n0_:=am (Kd.R_below (b12_) hb);have n1_:=am (blk_below (g:=gb580) (o:=.cells #[.int .i64 t569,.int .i64 t570,.bool t571,.int .i64 t572,.int .i64 t573,.int .i64 t574,.int .i64 t575,.int .i64 t576,.int .i64 t577,.string t578] 86 (0,0)) (by(with_reducible repeat (first|refine blk_drewN ?_ _|refine blk_drew ?_|refine blk_alloc ?_ _));refine blk_far ?_ NB580_615.out _;(with_reducible repeat (first|refine blk_drewN ?_ _|refine blk_drew ?_|refine blk_alloc ?_ _));refine blk_far ?_ NB580_615.out _;(with_reducible repeat (first|refine blk_drewN ?_ _|refine blk_drew ?_|refine blk_alloc ?_ _));refine blk_far ?_ NB580_615.out _;(with_reducible repeat (first|refine blk_drewN ?_ _|refine blk_drew ?_|refine blk_alloc ?_ _));refine blk_far ?_ NB580_615.out _;(with_reducible repeat (first|refine blk_drewN ?_ _|refine blk_drew ?_|refine blk_alloc ?_ _));refine blk_far ?_ NB580_615.out _;(with_reducible repeat (first|refine blk_drewN ?_ _|refine blk_drew ?_|refine blk_alloc ?_ _));refine blk_far ?_ NB580_615.out _;(with_reducible repeat (first|refine blk_drewN ?_ _|refine blk_drew ?_|refine blk_alloc ?_ _));refine blk_far ?_ NB580_615.out _;(with_reducible repeat (first|refine blk_drewN ?_ _|refine blk_drew ?_|refine blk_alloc ?_ _));refine blk_far ?_ NB580_615.out _;(with_reducible repeat (first|refine blk_drewN ?_ _|refine blk_drew ?_|refine blk_alloc ?_ _));refine blk_far ?_ NB580_615.out _;(with_reducible repeat (first|refine blk_drewN ?_ _|refine blk_drew ?_|refine blk_alloc ?_ _));refine blk_far ?_ NB580_615.out _;(with_reducible repeat (first|refine blk_drewN ?_ _|refine blk_drew ?_|refine blk_alloc ?_ _));exact BK580.out) hb);have n2_:=am (blk_below (g:=gb615) (o:=.cells #[.int .i64 t602,.int .i64 t603,.bool t604,.int .i64 t605,.int .i64 t606,.int .i64 t607,.int .i64 t608,.int .i64 t609,.int .i64 t610,.string t611] 86 (0,0)) (by(with_reducible repeat (first|refine blk_drewN ?_ _|refine blk_drew ?_|refine blk_alloc ?_ _));apply bU10;(with_reducible repeat (first|refine blk_drewN ?_ _|refine blk_drew ?_|refine blk_alloc ?_ _));exact BK615.out) hb);have n3_:=am (below_step (bS2 GE580.out GE615.out) hb);clear HO601 BK580 BK615 HB;have HO601:=n0_;have BK580:=n1_;have BK615:=n2_;have HB:=n3_;clear n0_ n1_ n2_ n3_;(try clear hb);(try clear hb2);(try clear hk);(try clear hi);obtain⟨hcz78_0,hcz78_1,hcz78_2,hcz78_3,hcz78_4,hcz78_5,hcz78_6,hcz78_7,hcz78_8,hcz78_9⟩:=cC10 BK615.out;obtain⟨hfz78_0,hfz78_1,hfz78_2,hfz78_3,hfz78_4,hfz78_5,hfz78_6,hfz78_7,hfz78_8,hfz78_9⟩:=cF10 BK615.out)|((with_reducible refine gate_callee (f:=52) rfl ?_);refine goesA (some 148) rfl rfl Try.func52 #[.slice Ao76 t599.length co76,.agg #[.int .i64 t602,.int .i64 t603,.bool t604,.int .i64 t605,.int .i64 t606,.int .i64 t607,.int .i64 t608,.int .i64 t609,.int .i64 t610,.string t611],.int .i64 t612,.int .i64 t613,.int .i64 t614] rfl ?_;(with_reducible refine(spec_ForwardStep.calls kj20 _ _ t599 t602 t603 t604 t605 t606 t607 t608 t609 t610 t611 t612 t613 t614 t619 t620 t621 _ ?side1 ?side2 A70.out).mono ?_);(case side1=>exact bT HO601.out);(case side2=>exact(Kd.R_reads' HO601.out).2.1);rintro e w79 ⟨rfl,hb⟩;refine⟨_,rfl,?_⟩;have n0_:=am (Kd.R_below (bK HO601.out) hb);have n1_:=am (bM BK580.out hb);have n2_:=am (bM BK615.out hb);have n3_:=am (below_step (bS2 GE580.out GE615.out) hb);clear HO601 BK580 BK615 HB;have HO601:=n0_;have BK580:=n1_;have BK615:=n2_;have HB:=n3_;clear n0_ n1_ n2_ n3_;(try clear hb);(try clear hb2);(try clear hk);(try clear hi)))
       (try simp only[Act.put,zA,zB,zC])
       go_cut [164] (fun v164 wc => ∃ (kq:Nat) (x164_70:Bool),v164=.bool x164_70∧Aside0 (laws_FnFollow.j2 kq t599 t612 t613 t616 t617 t618 x164_70 t602 t603 t604 t605 t606 t607 t608 t609 t610 t611=some r)∧Aside0 (kq≤kj20)∧Aside0 (Kd.R k104 104 wc w.heap.size (fun _=>True) (.slice Ao76 t599.length co76) t599)∧Aside0 (wc.heap[gb580]?=some (.cells #[.int .i64 t569,.int .i64 t570,.bool t571,.int .i64 t572,.int .i64 t573,.int .i64 t574,.int .i64 t575,.int .i64 t576,.int .i64 t577,.string t578] 86 (0,0)))∧Aside0 (wc.heap[gb615]?=some (.cells #[.int .i64 t602,.int .i64 t603,.bool t604,.int .i64 t605,.int .i64 t606,.int .i64 t607,.int .i64 t608,.int .i64 t609,.int .i64 t610,.string t611] 86 (0,0)))∧Aside0 (Below w.heap.size w wc))
       case first =>
        have H:=HC71.out
        clear HC71
        by_cases c80:(t618 != t621)=true
        ·rw[if_pos c80] at H
         have c80b0:(t618 != t621)=true:=c80
         (try (have c80b1:decide (t618=t621)=false:=by simpa using c80))
         (try (have c80b2:(t618 == t621)=false:=by simpa using c80))
         (try (have c80b3 : ¬ (t618=t621):=by simpa using c80))
         clear c80
         (first|rw[c80b0]|(simp only[i64_w,i32_w];rw[c80b0])|skip)
         have H':=am H
         clear H
         go_wp2
         go_meet
         case rel=>exact⟨_,(true),(bR),H',⟨by have:=HJ6.out;have:=HJ20.out;first|omega|exact Nat.le_refl _⟩,⟨by(with_reducible repeat (first|apply Kd.R_alloc|apply Kd.R_drewN|apply Kd.R_drew));exact HO601.out⟩,⟨by(with_reducible repeat (first|refine blk_drewN ?_ _|refine blk_drew ?_|refine blk_alloc ?_ _));exact BK580.out⟩,⟨by(with_reducible repeat (first|refine blk_drewN ?_ _|refine blk_drew ?_|refine blk_alloc ?_ _));exact BK615.out⟩,⟨bS2 GE580.out GE615.out⟩⟩
        ·rw[if_neg c80] at H
         have c80b0:(t618 != t621)=false:=by simpa using c80
         (try (have c80b1:decide (t618=t621)=true:=by simpa using c80))
         (try (have c80b2:(t618 == t621)=true:=by simpa using c80))
         clear c80
         (first|rw[c80b0]|(simp only[i64_w,i32_w];rw[c80b0])|skip)
         by_cases c81:t616=t619
         ·rw[if_pos c81] at H
          have c81b0:(t616 == t619)=true:=beq_iff_eq.mpr c81
          have c81b1:(t616 != t619)=false:=bne_eq_false_iff_eq.mpr c81
          clear c81
          have H':=am H
          clear H
          go_wp2
          go_meet
          case rel=>exact⟨_,((t617 != t620)),(bR),H',⟨by have:=HJ6.out;have:=HJ20.out;first|omega|exact Nat.le_refl _⟩,⟨by(with_reducible repeat (first|apply Kd.R_alloc|apply Kd.R_drewN|apply Kd.R_drew));exact HO601.out⟩,⟨by(with_reducible repeat (first|refine blk_drewN ?_ _|refine blk_drew ?_|refine blk_alloc ?_ _));exact BK580.out⟩,⟨by(with_reducible repeat (first|refine blk_drewN ?_ _|refine blk_drew ?_|refine blk_alloc ?_ _));exact BK615.out⟩,⟨bS2 GE580.out GE615.out⟩⟩
         ·rw[if_neg c81] at H
          have c81b0:(t616 == t619)=false:=beq_eq_false_iff_ne.mpr c81
          have c81b1:(t616 != t619)=true:=bne_iff_ne.mpr c81
          have H':=am H
          clear H
          go_wp2
          go_meet
          case rel=>exact⟨_,(true),(bR),H',⟨by have:=HJ6.out;have:=HJ20.out;first|omega|exact Nat.le_refl _⟩,⟨by(with_reducible repeat (first|apply Kd.R_alloc|apply Kd.R_drewN|apply Kd.R_drew));exact HO601.out⟩,⟨by(with_reducible repeat (first|refine blk_drewN ?_ _|refine blk_drew ?_|refine blk_alloc ?_ _));exact BK580.out⟩,⟨by(with_reducible repeat (first|refine blk_drewN ?_ _|refine blk_drew ?_|refine blk_alloc ?_ _));exact BK615.out⟩,⟨bS2 GE580.out GE615.out⟩⟩
       case rest =>
        clear HC71
        try clear c1
        try clear c2
        try clear p2
        try clear c3
        try clear c3b0
        try clear c5
        try clear c6
        try clear p6
        try clear c7
        try clear c8
        try clear c12
        try clear c15
        try clear c15b0
        try clear c15b1
        try clear c15b2
        try clear c16
        try clear c16b0
        try clear c16b1
        try clear c20
        try clear c22
        try clear c25
        try clear c26
        try clear c26b0
        try clear c26b1
        try clear c27
        try clear c28
        try clear c28b0
        try clear c28b1
        try clear c29
        try clear c29b0
        try clear c29b1
        try clear c30
        try clear c30b0
        try clear c52
        try clear c54
        try clear c57
        try clear c58
        try clear c61
        try clear c63
        try clear c64
        try clear p64
        try clear c65
        try clear c74
        try clear c80
        try clear c80b0
        try clear c80b1
        try clear c80b2
        try clear c81
        try clear c81b0
        try clear c81b1
        try clear hcz10_0 hcz10_1 hcz10_2 hcz10_3 hcz10_4 hcz10_5 hcz10_6 hcz10_7 hcz10_8 hcz10_9
        try clear hcz13_0 hcz13_1 hcz13_2 hcz13_3 hcz13_4 hcz13_5 hcz13_6 hcz13_7 hcz13_8 hcz13_9
        try clear hcz31_0 hcz31_1 hcz31_2 hcz31_3 hcz31_4 hcz31_5 hcz31_6 hcz31_7 hcz31_8 hcz31_9
        try clear hcz33_0 hcz33_1 hcz33_2 hcz33_3 hcz33_4 hcz33_5 hcz33_6 hcz33_7 hcz33_8 hcz33_9
        try clear hcz36_0 hcz36_1 hcz36_2 hcz36_3 hcz36_4 hcz36_5 hcz36_6 hcz36_7 hcz36_8 hcz36_9
        try clear hcz37_0 hcz37_1 hcz37_2 hcz37_3 hcz37_4 hcz37_5 hcz37_6 hcz37_7 hcz37_8 hcz37_9
        try clear hcz39_0 hcz39_1 hcz39_2 hcz39_3 hcz39_4 hcz39_5 hcz39_6 hcz39_7 hcz39_8 hcz39_9
        try clear hcz42_0 hcz42_1 hcz42_2 hcz42_3 hcz42_4 hcz42_5 hcz42_6 hcz42_7 hcz42_8 hcz42_9
        try clear hcz43_0 hcz43_1 hcz43_2 hcz43_3 hcz43_4 hcz43_5 hcz43_6 hcz43_7 hcz43_8 hcz43_9
        try clear hcz45_0 hcz45_1 hcz45_2 hcz45_3 hcz45_4 hcz45_5 hcz45_6 hcz45_7 hcz45_8 hcz45_9
        try clear hcz48_0 hcz48_1 hcz48_2 hcz48_3 hcz48_4 hcz48_5 hcz48_6 hcz48_7 hcz48_8 hcz48_9
        try clear hcz50_0 hcz50_1 hcz50_2 hcz50_3 hcz50_4 hcz50_5 hcz50_6 hcz50_7 hcz50_8 hcz50_9
        try clear hcz53_0 hcz53_1 hcz53_2 hcz53_3 hcz53_4 hcz53_5 hcz53_6 hcz53_7 hcz53_8 hcz53_9
        try clear hcz55_0 hcz55_1 hcz55_2 hcz55_3 hcz55_4 hcz55_5 hcz55_6 hcz55_7 hcz55_8 hcz55_9
        try clear hcz58_0 hcz58_1 hcz58_2 hcz58_3 hcz58_4 hcz58_5 hcz58_6 hcz58_7 hcz58_8 hcz58_9
        try clear hcz60_0 hcz60_1 hcz60_2 hcz60_3 hcz60_4 hcz60_5 hcz60_6 hcz60_7 hcz60_8 hcz60_9
        try clear hcz63_0 hcz63_1 hcz63_2 hcz63_3 hcz63_4 hcz63_5 hcz63_6 hcz63_7 hcz63_8 hcz63_9
        try clear hcz65_0 hcz65_1 hcz65_2 hcz65_3 hcz65_4 hcz65_5 hcz65_6 hcz65_7 hcz65_8 hcz65_9
        try clear hcz75_0 hcz75_1 hcz75_2 hcz75_3 hcz75_4 hcz75_5 hcz75_6 hcz75_7 hcz75_8 hcz75_9
        try clear hcz78_0 hcz78_1 hcz78_2 hcz78_3 hcz78_4 hcz78_5 hcz78_6 hcz78_7 hcz78_8 hcz78_9
        try clear hfz10_0 hfz10_1 hfz10_2 hfz10_3 hfz10_4 hfz10_5 hfz10_6 hfz10_7 hfz10_8 hfz10_9
        try clear hfz13_0 hfz13_1 hfz13_2 hfz13_3 hfz13_4 hfz13_5 hfz13_6 hfz13_7 hfz13_8 hfz13_9
        try clear hfz31_0 hfz31_1 hfz31_2 hfz31_3 hfz31_4 hfz31_5 hfz31_6 hfz31_7 hfz31_8 hfz31_9
        try clear hfz33_0 hfz33_1 hfz33_2 hfz33_3 hfz33_4 hfz33_5 hfz33_6 hfz33_7 hfz33_8 hfz33_9
        try clear hfz36_0 hfz36_1 hfz36_2 hfz36_3 hfz36_4 hfz36_5 hfz36_6 hfz36_7 hfz36_8 hfz36_9
        try clear hfz37_0 hfz37_1 hfz37_2 hfz37_3 hfz37_4 hfz37_5 hfz37_6 hfz37_7 hfz37_8 hfz37_9
        try clear hfz39_0 hfz39_1 hfz39_2 hfz39_3 hfz39_4 hfz39_5 hfz39_6 hfz39_7 hfz39_8 hfz39_9
        try clear hfz42_0 hfz42_1 hfz42_2 hfz42_3 hfz42_4 hfz42_5 hfz42_6 hfz42_7 hfz42_8 hfz42_9
        try clear hfz43_0 hfz43_1 hfz43_2 hfz43_3 hfz43_4 hfz43_5 hfz43_6 hfz43_7 hfz43_8 hfz43_9
        try clear hfz45_0 hfz45_1 hfz45_2 hfz45_3 hfz45_4 hfz45_5 hfz45_6 hfz45_7 hfz45_8 hfz45_9
        try clear hfz48_0 hfz48_1 hfz48_2 hfz48_3 hfz48_4 hfz48_5 hfz48_6 hfz48_7 hfz48_8 hfz48_9
        try clear hfz50_0 hfz50_1 hfz50_2 hfz50_3 hfz50_4 hfz50_5 hfz50_6 hfz50_7 hfz50_8 hfz50_9
        try clear hfz53_0 hfz53_1 hfz53_2 hfz53_3 hfz53_4 hfz53_5 hfz53_6 hfz53_7 hfz53_8 hfz53_9
        try clear hfz55_0 hfz55_1 hfz55_2 hfz55_3 hfz55_4 hfz55_5 hfz55_6 hfz55_7 hfz55_8 hfz55_9
        try clear hfz58_0 hfz58_1 hfz58_2 hfz58_3 hfz58_4 hfz58_5 hfz58_6 hfz58_7 hfz58_8 hfz58_9
        try clear hfz60_0 hfz60_1 hfz60_2 hfz60_3 hfz60_4 hfz60_5 hfz60_6 hfz60_7 hfz60_8 hfz60_9
        try clear hfz63_0 hfz63_1 hfz63_2 hfz63_3 hfz63_4 hfz63_5 hfz63_6 hfz63_7 hfz63_8 hfz63_9
        try clear hfz65_0 hfz65_1 hfz65_2 hfz65_3 hfz65_4 hfz65_5 hfz65_6 hfz65_7 hfz65_8 hfz65_9
        try clear hfz75_0 hfz75_1 hfz75_2 hfz75_3 hfz75_4 hfz75_5 hfz75_6 hfz75_7 hfz75_8 hfz75_9
        try clear hfz78_0 hfz78_1 hfz78_2 hfz78_3 hfz78_4 hfz78_5 hfz78_6 hfz78_7 hfz78_8 hfz78_9
        try clear p2
        try clear p6
        try clear p64
        obtain⟨kq,x164_70,rfl,HA,HJ70,HO_19,BK580,BK615,HB⟩:=hcut
        cases kq with
        | zero=>exact absurd HA.out (by simp[laws_FnFollow.j2])
        | succ kj70 =>
         have H:=HA.out
         clear HA
         simp only[laws_FnFollow.j2] at H
         by_cases c82:x164_70=true
         ·subst c82
          have H1:(some false)=some r:=by rw[if_pos rfl] at H;exact H
          clear H
          have H:=H1
          clear H1
          obtain rfl:=Option.some.inj H
          go_wp2
          go_ret
          exact⟨bE,bS2 GE580.out GE615.out⟩
         ·replace c82:=Bool.eq_false_iff.mpr c82
          subst c82
          have H1:(if t618=true then (if 0≤t616 then (if t616 < (t599.length:Int) then (if ((rd_T104 t599 t616).f0)=t612 then (if t617 < t613 then (some false) else (if t617 > (wrap64 (t605+t607)) then (some false) else (some true))) else (some false)) else (none)) else (none)) else (some true))=some r:=by rw[if_neg (show ¬ (false=true) by decide)] at H;exact H
          clear H
          have H:=H1
          clear H1
          by_cases c83:t618=true
          ·subst c83
           have H1:(if 0≤t616 then (if t616 < (t599.length:Int) then (if ((rd_T104 t599 t616).f0)=t612 then (if t617 < t613 then (some false) else (if t617 > (wrap64 (t605+t607)) then (some false) else (some true))) else (some false)) else (none)) else (none))=some r:=by rw[if_pos rfl] at H;exact H
           clear H
           have H:=H1
           clear H1
           by_cases c84:0≤t616
           ·rw[if_pos c84] at H
            have c84b0:decide (0≤t616)=true:=decide_eq_true c84
            clear c84
            by_cases c85:t616 < (t599.length:Int)
            ·rw[if_pos c85] at H
             have c85b0:decide (t616 < (t599.length:Int))=true:=decide_eq_true c85
             clear c85
             by_cases c86:((rd_T104 t599 t616).f0)=t612
             ·rw[if_pos c86] at H
              have c86b0:(((rd_T104 t599 t616).f0) == t612)=true:=beq_iff_eq.mpr c86
              have c86b1:(((rd_T104 t599 t616).f0) != t612)=false:=bne_eq_false_iff_eq.mpr c86
              clear c86
              by_cases c87:t617 < t613
              ·rw[if_pos c87] at H
               have c87b0:decide (t617 < t613)=true:=decide_eq_true c87
               clear c87
               obtain rfl:=Option.some.inj H
               have p622:0≤(t616:Int):=bD_
               have q622:t616 < (t599.length:Int):=bD_
               obtain⟨ad622,e622,hx622_0,hx622_1,hx622_2,hx622_3,hx622_4⟩:=at_T104 (Kd.R_reads' HO_19.out).2.2 t616 p622 q622
               cases e622
               replace p622:=eq_true p622
               replace q622:=eq_true q622
               go_wp2
               go_ret
               exact⟨bE,bS2 GE580.out GE615.out⟩
              ·rw[if_neg c87] at H
               have c87b0:decide (t617 < t613)=false:=decide_eq_false c87
               clear c87
               by_cases c88:t617 > (wrap64 (t605+t607))
               ·rw[if_pos c88] at H
                have c88b0:decide ((wrap64 (t605+t607)) < t617)=true:=decide_eq_true c88
                clear c88
                obtain rfl:=Option.some.inj H
                have p622:0≤(t616:Int):=bD_
                have q622:t616 < (t599.length:Int):=bD_
                obtain⟨ad622,e622,hx622_0,hx622_1,hx622_2,hx622_3,hx622_4⟩:=at_T104 (Kd.R_reads' HO_19.out).2.2 t616 p622 q622
                cases e622
                replace p622:=eq_true p622
                replace q622:=eq_true q622
                have hnb89:=NB615_580.out
                have hnc89:=NB580_615.out
                obtain⟨hcz90_0,hcz90_1,hcz90_2,hcz90_3,hcz90_4,hcz90_5,hcz90_6,hcz90_7,hcz90_8,hcz90_9⟩:=cC10 BK615.out
                obtain⟨hfz90_0,hfz90_1,hfz90_2,hfz90_3,hfz90_4,hfz90_5,hfz90_6,hfz90_7,hfz90_8,hfz90_9⟩:=cF10 BK615.out
                go_wp2
                go_ret
                exact⟨bE,bS2 GE580.out GE615.out⟩
               ·rw[if_neg c88] at H
                have c88b0:decide ((wrap64 (t605+t607)) < t617)=false:=decide_eq_false c88
                clear c88
                obtain rfl:=Option.some.inj H
                have p622:0≤(t616:Int):=bD_
                have q622:t616 < (t599.length:Int):=bD_
                obtain⟨ad622,e622,hx622_0,hx622_1,hx622_2,hx622_3,hx622_4⟩:=at_T104 (Kd.R_reads' HO_19.out).2.2 t616 p622 q622
                cases e622
                replace p622:=eq_true p622
                replace q622:=eq_true q622
                have hnb91:=NB615_580.out
                have hnc91:=NB580_615.out
                obtain⟨hcz92_0,hcz92_1,hcz92_2,hcz92_3,hcz92_4,hcz92_5,hcz92_6,hcz92_7,hcz92_8,hcz92_9⟩:=cC10 BK615.out
                obtain⟨hfz92_0,hfz92_1,hfz92_2,hfz92_3,hfz92_4,hfz92_5,hfz92_6,hfz92_7,hfz92_8,hfz92_9⟩:=cF10 BK615.out
                go_wp2
                go_ret
                exact⟨bE,bS2 GE580.out GE615.out⟩
             ·rw[if_neg c86] at H
              have c86b0:(((rd_T104 t599 t616).f0) == t612)=false:=beq_eq_false_iff_ne.mpr c86
              have c86b1:(((rd_T104 t599 t616).f0) != t612)=true:=bne_iff_ne.mpr c86
              obtain rfl:=Option.some.inj H
              have p622:0≤(t616:Int):=bD_
              have q622:t616 < (t599.length:Int):=bD_
              obtain⟨ad622,e622,hx622_0,hx622_1,hx622_2,hx622_3,hx622_4⟩:=at_T104 (Kd.R_reads' HO_19.out).2.2 t616 p622 q622
              cases e622
              replace p622:=eq_true p622
              replace q622:=eq_true q622
              go_wp2
              go_ret
              exact⟨bE,bS2 GE580.out GE615.out⟩
            ·rw[if_neg c85] at H
             exact absurd H (b27_)
           ·rw[if_neg c84] at H
            exact absurd H (b27_)
          ·replace c83:=Bool.eq_false_iff.mpr c83
           subst c83
           have H1:(some true)=some r:=by rw[if_neg (show ¬ (false=true) by decide)] at H;exact H
           clear H
           have H:=H1
           clear H1
           obtain rfl:=Option.some.inj H
           go_wp2
           go_ret
           exact⟨bE,bS2 GE580.out GE615.out⟩

/-- THE ONE PURE STATEMENT of laws_FnFollow: yours. -/
def laws_FnFollow.Pure:Prop:=∀ (l0:List Int) (l1:List Int),l0.length≤maxLen→l0.length * 1≤140737488351232→(∀ x ∈ l0,(Lit.int .u8 x).wf=true)→l1.length≤maxLen→l1.length * 1≤140737488351232→(∀ x ∈ l1,(Lit.int .u8 x).wf=true) → ∃ k,laws_FnFollow.f k l0 l1=some true
theorem laws_FnFollow.walk (P:laws_FnFollow.Pure) (a0:Option Addr) (len0 cap0:Nat) (z0:List Int) (a1:Option Addr) (len1 cap1:Nat) (z1:List Int) (w:World) (w0:(a0=none∧len0=0∧cap0=0∧z0=[]) ∨ ∃ x,a0=some x∧len0≤cap0∧cap0≤maxLen∧z0.length=cap0∧(∀ i,i < z0.length→w.cell? (x.add i)=some (.int .u8 (z0.getD i 0))) ∧ ∀ n ∈ z0,(Lit.int .u8 n).wf=true) (y0:len0 * 1≤140737488351232) (w1:(a1=none∧len1=0∧cap1=0∧z1=[]) ∨ ∃ x,a1=some x∧len1≤cap1∧cap1≤maxLen∧z1.length=cap1∧(∀ i,i < z1.length→w.cell? (x.add i)=some (.int .u8 (z1.getD i 0))) ∧ ∀ n ∈ z1,(Lit.int .u8 n).wf=true) (y1:len1 * 1≤140737488351232) :
  Calls Try.prog 12 #[.slice a0 len0 cap0,.slice a1 len1 cap1] w fun e w'=>e=.returned (.bool true)∧Below w.heap.size w w':=by
 obtain⟨l0,rfl,hr0,hm0,hw0,hc0⟩:=ReadsInt.ofRowC w0
 obtain⟨l1,rfl,hr1,hm1,hw1,hc1⟩:=ReadsInt.ofRowC w1
 obtain⟨k,h⟩:=P l0 l1 hm0 y0 hw0 hm1 y1 hw1
 refine(laws_FnFollow.calls k _ _ l0 _ _ l1 true w (Kd.C_of_reads (d:=(0:Int)) (h1:=fun _=>rfl) hr0) hc0 (Kd.C_of_reads (d:=(0:Int)) (h1:=fun _=>rfl) hr1) hc1 h).mono ?_
 rintro e w' ⟨rfl,hd⟩
 exact⟨rfl,hd⟩

end Go.Proofs.Yteneeohaoplpbaa.XFnFollow
