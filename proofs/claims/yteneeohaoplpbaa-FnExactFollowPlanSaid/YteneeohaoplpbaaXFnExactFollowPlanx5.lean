-- Written by this session's own program (wip/xprint.py) out of the translation; Lean checks it.
import Derived.Test.YteneeohaoplpbaaXFnExactFollowPlanx0
import Derived.Test.YteneeohaoplpbaaXFnExactFollowPlanx2
import Derived.Test.YteneeohaoplpbaaXFnExactFollowPlanx3
import Derived.Test.YteneeohaoplpbaaXFnExactFollowPlanx4
namespace Go.Proofs.Yteneeohaoplpbaa.XFnExactFollowPlan
open Go.RowKit Go.Proofs.YteneeohaoplpbaaW.PrintWords Go.Proofs.YteneeohaoplpbaaW.PrintLast Go.Proofs.YteneeohaoplpbaaW.PrintMore
attribute [local go_sem] max2_int min2_int max_two min_two max_three min_three max_four min_four   -- for this text's walks alone
set_option linter.unusedVariables false
set_option linter.unusedSimpArgs false

/-! ### spec_RouteTo: function 119 -/
mutual
def spec_RouteTo.j0:Nat→List (S104)→Int→Int→Int→Bool→Option (List Int × Int × Bool)
 | 0,_,_,_,_,_=>none
 | k+1,x0,x1,x2,x3,x32=>if x32=true then (some (([]:List Int),0,false)) else ((spec_l6Search.f k x0 x1 x2).bind fun bt176=>(if 0≤x3 then (if x3 < (bt176.1.length:Int) then (if (rd bt176.1 x3) < 0 then (some (([]:List Int),0,false)) else (spec_RouteTo.l0 k x0 x1 x3 bt176.1 bt176.2 ([]:List Int) x3)) else (none)) else (none)))
def spec_RouteTo.l0:Nat→List (S104)→Int→Int→List Int→List Int→List Int→Int→Option (List Int × Int × Bool)
 | 0,_,_,_,_,_,_,_=>none
 | k+1,x0,x1,x3,x11,x12,x13,x14=>if x14=x1 then (if 0≤x3 then (if x3 < (x11.length:Int) then (some (x13,rd x11 x3,true)) else (none)) else (none)) else (if 0≤x14 then (if x14 < (x12.length:Int) then ((some (([rd x12 x14]:List Int):List Int)).bind fun y185=>(if y185.length+x13.length < 17592186044416 then (if 0≤(rd x12 x14) then (if (rd x12 x14) < (x0.length:Int) then (spec_RouteTo.l0 k x0 x1 x3 x11 x12 (y185++x13) ((rd_T104 x0 (rd x12 x14)).f0)) else (none)) else (none)) else (none))) else (none)) else (none))
end
def spec_RouteTo.f (k:Nat) (l0:List (S104)) (a1:Int) (a2:Int) (a3:Int):Option (List Int × Int × Bool):=(spec_GoodPlan.f k l0).bind fun t172=>(if t172=true then ((spec_l6Node.f a1).bind fun t173=>(if t173=true then ((spec_l6When.f a2).bind fun t174=>(if t174=true then ((spec_l6Node.f a3).bind fun t175=>(spec_RouteTo.j0 k l0 a1 a2 a3 (!t175))) else (spec_RouteTo.j0 k l0 a1 a2 a3 true))) else (spec_RouteTo.j0 k l0 a1 a2 a3 true))) else (spec_RouteTo.j0 k l0 a1 a2 a3 true))
theorem spec_RouteTo.mono_l : ∀ k,(∀ y0 y1 y2 y3 y4,LeO (spec_RouteTo.j0 k y0 y1 y2 y3 y4) (spec_RouteTo.j0 (k+1) y0 y1 y2 y3 y4))∧(∀ y0 y1 y2 y3 y4 y5 y6,LeO (spec_RouteTo.l0 k y0 y1 y2 y3 y4 y5 y6) (spec_RouteTo.l0 (k+1) y0 y1 y2 y3 y4 y5 y6))
 | 0=>⟨fun _ _ _ _ _ r h=>by simp[spec_RouteTo.j0] at h,fun _ _ _ _ _ _ _ r h=>by simp[spec_RouteTo.l0] at h⟩
 | k+1=>by
  obtain⟨ih0,ih1⟩:=spec_RouteTo.mono_l k
  refine⟨?_,?_⟩
  ·intro y0 y1 y2 y3 y4
   unfold spec_RouteTo.j0
   repeat' first
   | (with_reducible exact ih0 _ _ _ _ _)
   | (with_reducible exact ih1 _ _ _ _ _ _ _)
   | (with_reducible exact spec_GoodPlan.mono _ _)
   | (with_reducible exact spec_l6Search.mono _ _ _ _)
   | (with_reducible exact LeO.refl _)
   | (with_reducible exact LeO.none _)
   | (with_reducible refine LeO.ite ?_ ?_)
   | (with_reducible refine LeO.bind ?_ (fun _ => ?_))
   | exact ih0 _ _ _ _ _
   | exact ih1 _ _ _ _ _ _ _
   | exact spec_GoodPlan.mono _ _
   | exact spec_l6Search.mono _ _ _ _
   | exact LeO.none _
   | refine LeO.ite ?_ ?_
   | refine LeO.bind ?_ (fun _ => ?_)
  ·intro y0 y1 y2 y3 y4 y5 y6
   unfold spec_RouteTo.l0
   repeat' first
   | (with_reducible exact ih0 _ _ _ _ _)
   | (with_reducible exact ih1 _ _ _ _ _ _ _)
   | (with_reducible exact spec_GoodPlan.mono _ _)
   | (with_reducible exact spec_l6Search.mono _ _ _ _)
   | (with_reducible exact LeO.refl _)
   | (with_reducible exact LeO.none _)
   | (with_reducible refine LeO.ite ?_ ?_)
   | (with_reducible refine LeO.bind ?_ (fun _ => ?_))
   | exact ih0 _ _ _ _ _
   | exact ih1 _ _ _ _ _ _ _
   | exact spec_GoodPlan.mono _ _
   | exact spec_l6Search.mono _ _ _ _
   | exact LeO.none _
   | refine LeO.ite ?_ ?_
   | refine LeO.bind ?_ (fun _ => ?_)
theorem spec_RouteTo.mono : ∀ a0 a1 a2 a3 k,LeO (spec_RouteTo.f k a0 a1 a2 a3) (spec_RouteTo.f (k+1) a0 a1 a2 a3):=by
 intro a0 a1 a2 a3 k
 obtain⟨ih0,ih1⟩:=spec_RouteTo.mono_l k
 unfold spec_RouteTo.f
 repeat' first
  | (with_reducible exact ih0 _ _ _ _ _)
  | (with_reducible exact ih1 _ _ _ _ _ _ _)
  | (with_reducible exact spec_GoodPlan.mono _ _)
  | (with_reducible exact spec_l6Search.mono _ _ _ _)
  | (with_reducible exact LeO.refl _)
  | (with_reducible exact LeO.none _)
  | (with_reducible refine LeO.ite ?_ ?_)
  | (with_reducible refine LeO.bind ?_ (fun _ => ?_))
  | exact ih0 _ _ _ _ _
  | exact ih1 _ _ _ _ _ _ _
  | exact spec_GoodPlan.mono _ _
  | exact spec_l6Search.mono _ _ _ _
  | exact LeO.none _
  | refine LeO.ite ?_ ?_
  | refine LeO.bind ?_ (fun _ => ?_)
set_option maxHeartbeats 8000000 in
set_option maxRecDepth 100000 in
theorem spec_RouteTo.calls (k:Nat) (A0:Option Addr) (c0:Nat) (l0:List (S104)) (a1:Int) (a2:Int) (a3:Int) (r1:List Int) (r2:Int) (r3:Bool) (w:World) (hr0:Kd.C k104 w A0 l0.length l0) (hc0:l0.length≤c0) (h:spec_RouteTo.f k l0 a1 a2 a3=some (r1,r2,r3)) :
  Calls Try.prog 119 #[.slice A0 l0.length c0,.int .i64 a1,.int .i64 a2,.int .i64 a3] w fun e w' => ∃ v0_:Value,e=.returned (.tuple #[v0_,.int .i64 r2,.bool r3])∧Kd.R (Kd.int .i64) 3 w' w.heap.size (fun _=>True) v0_ r1∧Below w.heap.size w w':=by
 have HR0:=Aside0.mk hr0
 have HC0:=Aside0.mk hc0
 clear hr0 hc0
 have HB:=Aside0.mk (Below.refl w.heap.size w)
 have H:((spec_GoodPlan.f k l0).bind fun t172=>(if t172=true then ((spec_l6Node.f a1).bind fun t173=>(if t173=true then ((spec_l6When.f a2).bind fun t174=>(if t174=true then ((spec_l6Node.f a3).bind fun t175=>(spec_RouteTo.j0 k l0 a1 a2 a3 (!t175))) else (spec_RouteTo.j0 k l0 a1 a2 a3 true))) else (spec_RouteTo.j0 k l0 a1 a2 a3 true))) else (spec_RouteTo.j0 k l0 a1 a2 a3 true)))=some (r1,r2,r3):=h
 clear h
 have HC5:=Aside0.mk H
 clear H
 go_enter Try.func119,Try.ntmps119
 go_upto_region 1 with (fail)
 repeat (go_quiet (fail);go_upto_region 1 with (fail))
 go_cut [32] (fun v32 wc => ∃ (kq:Nat) (x32_4:Bool),v32=.bool x32_4∧Aside0 (spec_RouteTo.j0 kq l0 a1 a2 a3 x32_4=some (r1,r2,r3))∧Aside0 (kq≤k)∧Aside0 (Below w.heap.size w wc))
 case first =>
  have H:=HC5.out
  clear HC5
  replace H:=Option.bind_eq_some_iff.mp H
  obtain⟨t172,A60,H⟩:=H
  replace H:(if t172=true then ((spec_l6Node.f a1).bind fun t173=>(if t173=true then ((spec_l6When.f a2).bind fun t174=>(if t174=true then ((spec_l6Node.f a3).bind fun t175=>(spec_RouteTo.j0 k l0 a1 a2 a3 (!t175))) else (spec_RouteTo.j0 k l0 a1 a2 a3 true))) else (spec_RouteTo.j0 k l0 a1 a2 a3 true))) else (spec_RouteTo.j0 k l0 a1 a2 a3 true))=some (r1,r2,r3):=H
  have A6:=Aside0.mk A60
  clear A60
  by_cases c7:t172=true
  ·subst c7
   have H1:((spec_l6Node.f a1).bind fun t173=>(if t173=true then ((spec_l6When.f a2).bind fun t174=>(if t174=true then ((spec_l6Node.f a3).bind fun t175=>(spec_RouteTo.j0 k l0 a1 a2 a3 (!t175))) else (spec_RouteTo.j0 k l0 a1 a2 a3 true))) else (spec_RouteTo.j0 k l0 a1 a2 a3 true)))=some (r1,r2,r3):=by rw[if_pos rfl] at H;exact H
   clear H
   have H:=H1
   clear H1
   replace H:=Option.bind_eq_some_iff.mp H
   obtain⟨t173,A80,H⟩:=H
   replace H:(if t173=true then ((spec_l6When.f a2).bind fun t174=>(if t174=true then ((spec_l6Node.f a3).bind fun t175=>(spec_RouteTo.j0 k l0 a1 a2 a3 (!t175))) else (spec_RouteTo.j0 k l0 a1 a2 a3 true))) else (spec_RouteTo.j0 k l0 a1 a2 a3 true))=some (r1,r2,r3):=H
   have A8:=Aside0.mk A80
   clear A80
   by_cases c9:t173=true
   ·subst c9
    have H1:((spec_l6When.f a2).bind fun t174=>(if t174=true then ((spec_l6Node.f a3).bind fun t175=>(spec_RouteTo.j0 k l0 a1 a2 a3 (!t175))) else (spec_RouteTo.j0 k l0 a1 a2 a3 true)))=some (r1,r2,r3):=by rw[if_pos rfl] at H;exact H
    clear H
    have H:=H1
    clear H1
    replace H:=Option.bind_eq_some_iff.mp H
    obtain⟨t174,A100,H⟩:=H
    replace H:(if t174=true then ((spec_l6Node.f a3).bind fun t175=>(spec_RouteTo.j0 k l0 a1 a2 a3 (!t175))) else (spec_RouteTo.j0 k l0 a1 a2 a3 true))=some (r1,r2,r3):=H
    have A10:=Aside0.mk A100
    clear A100
    by_cases c11:t174=true
    ·subst c11
     have H1:((spec_l6Node.f a3).bind fun t175=>(spec_RouteTo.j0 k l0 a1 a2 a3 (!t175)))=some (r1,r2,r3):=by rw[if_pos rfl] at H;exact H
     clear H
     have H:=H1
     clear H1
     replace H:=Option.bind_eq_some_iff.mp H
     obtain⟨t175,A120,H⟩:=H
     replace H:(spec_RouteTo.j0 k l0 a1 a2 a3 (!t175))=some (r1,r2,r3):=H
     have A12:=Aside0.mk A120
     clear A120
     have H':=Aside0.mk H
     clear H
     go_wp2_with (first|(go_at_call 84;(with_reducible refine(spec_GoodPlan.calls k _ _ l0 true _ ?side1 ?side2 A6.out).mono ?_);(case side1=>exact bC HR0.out);(case side2=>exact HC0.out);rintro e w13 ⟨rfl,hb⟩;have n0_:=Aside0.mk (below_step (bB) hb);clear HB;have HB:=n0_;clear n0_;(try clear hb);(try clear hb2);(try clear hk);(try clear hi))|(go_at_call 85;(with_reducible refine(spec_l6Node.calls a1 true _ A8.out).mono ?_);rintro e w' ⟨rfl,⟨nd,rfl⟩⟩;(try first|exact⟨rfl,_,World.drewN_drewN _ _ _⟩|exact⟨rfl,_,Eq.trans (World.drewN_drewN _ _ _) (congrArg (World.drewN _) (Nat.add_assoc _ _ _))⟩))|(go_at_call 86;(with_reducible refine(spec_l6When.calls a2 true _ A10.out).mono ?_);rintro e w' ⟨rfl,⟨nd,rfl⟩⟩;(try first|exact⟨rfl,_,World.drewN_drewN _ _ _⟩|exact⟨rfl,_,Eq.trans (World.drewN_drewN _ _ _) (congrArg (World.drewN _) (Nat.add_assoc _ _ _))⟩))|(go_at_call 85;(with_reducible refine(spec_l6Node.calls a3 t175 _ A12.out).mono ?_);rintro e w' ⟨rfl,⟨nd,rfl⟩⟩;(try first|exact⟨rfl,_,World.drewN_drewN _ _ _⟩|exact⟨rfl,_,Eq.trans (World.drewN_drewN _ _ _) (congrArg (World.drewN _) (Nat.add_assoc _ _ _))⟩)))
     repeat (go_quiet (first|(go_at_call 84;(with_reducible refine(spec_GoodPlan.calls k _ _ l0 true _ ?side1 ?side2 A6.out).mono ?_);(case side1=>exact bC HR0.out);(case side2=>exact HC0.out);rintro e w13 ⟨rfl,hb⟩;have n0_:=Aside0.mk (below_step (bB) hb);clear HB;have HB:=n0_;clear n0_;(try clear hb);(try clear hb2);(try clear hk);(try clear hi))|(go_at_call 85;(with_reducible refine(spec_l6Node.calls a1 true _ A8.out).mono ?_);rintro e w' ⟨rfl,⟨nd,rfl⟩⟩;(try first|exact⟨rfl,_,World.drewN_drewN _ _ _⟩|exact⟨rfl,_,Eq.trans (World.drewN_drewN _ _ _) (congrArg (World.drewN _) (Nat.add_assoc _ _ _))⟩))|(go_at_call 86;(with_reducible refine(spec_l6When.calls a2 true _ A10.out).mono ?_);rintro e w' ⟨rfl,⟨nd,rfl⟩⟩;(try first|exact⟨rfl,_,World.drewN_drewN _ _ _⟩|exact⟨rfl,_,Eq.trans (World.drewN_drewN _ _ _) (congrArg (World.drewN _) (Nat.add_assoc _ _ _))⟩))|(go_at_call 85;(with_reducible refine(spec_l6Node.calls a3 t175 _ A12.out).mono ?_);rintro e w' ⟨rfl,⟨nd,rfl⟩⟩;(try first|exact⟨rfl,_,World.drewN_drewN _ _ _⟩|exact⟨rfl,_,Eq.trans (World.drewN_drewN _ _ _) (congrArg (World.drewN _) (Nat.add_assoc _ _ _))⟩)));try go_wp2_with (first|(go_at_call 84;(with_reducible refine(spec_GoodPlan.calls k _ _ l0 true _ ?side1 ?side2 A6.out).mono ?_);(case side1=>exact bC HR0.out);(case side2=>exact HC0.out);rintro e w13 ⟨rfl,hb⟩;have n0_:=Aside0.mk (below_step (bB) hb);clear HB;have HB:=n0_;clear n0_;(try clear hb);(try clear hb2);(try clear hk);(try clear hi))|(go_at_call 85;(with_reducible refine(spec_l6Node.calls a1 true _ A8.out).mono ?_);rintro e w' ⟨rfl,⟨nd,rfl⟩⟩;(try first|exact⟨rfl,_,World.drewN_drewN _ _ _⟩|exact⟨rfl,_,Eq.trans (World.drewN_drewN _ _ _) (congrArg (World.drewN _) (Nat.add_assoc _ _ _))⟩))|(go_at_call 86;(with_reducible refine(spec_l6When.calls a2 true _ A10.out).mono ?_);rintro e w' ⟨rfl,⟨nd,rfl⟩⟩;(try first|exact⟨rfl,_,World.drewN_drewN _ _ _⟩|exact⟨rfl,_,Eq.trans (World.drewN_drewN _ _ _) (congrArg (World.drewN _) (Nat.add_assoc _ _ _))⟩))|(go_at_call 85;(with_reducible refine(spec_l6Node.calls a3 t175 _ A12.out).mono ?_);rintro e w' ⟨rfl,⟨nd,rfl⟩⟩;(try first|exact⟨rfl,_,World.drewN_drewN _ _ _⟩|exact⟨rfl,_,Eq.trans (World.drewN_drewN _ _ _) (congrArg (World.drewN _) (Nat.add_assoc _ _ _))⟩))))
     go_meet
     case rel=>exact⟨_,(!t175),(bR),H',⟨by first|omega|exact Nat.le_refl _⟩,⟨by repeat (first|(with_reducible first|exact HB.out|apply below_alloc|apply pw_below_drewN|apply below_drew1)|exact HB.out)⟩⟩
    ·replace c11:=Bool.eq_false_iff.mpr c11
     subst c11
     have H1:(spec_RouteTo.j0 k l0 a1 a2 a3 true)=some (r1,r2,r3):=by rw[if_neg (show ¬ (false=true) by decide)] at H;exact H
     clear H
     have H:=H1
     clear H1
     have H':=Aside0.mk H
     clear H
     go_wp2_with (first|(go_at_call 84;(with_reducible refine(spec_GoodPlan.calls k _ _ l0 true _ ?side1 ?side2 A6.out).mono ?_);(case side1=>exact bC HR0.out);(case side2=>exact HC0.out);rintro e w14 ⟨rfl,hb⟩;have n0_:=Aside0.mk (below_step (bB) hb);clear HB;have HB:=n0_;clear n0_;(try clear hb);(try clear hb2);(try clear hk);(try clear hi))|(go_at_call 85;(with_reducible refine(spec_l6Node.calls a1 true _ A8.out).mono ?_);rintro e w' ⟨rfl,⟨nd,rfl⟩⟩;(try first|exact⟨rfl,_,World.drewN_drewN _ _ _⟩|exact⟨rfl,_,Eq.trans (World.drewN_drewN _ _ _) (congrArg (World.drewN _) (Nat.add_assoc _ _ _))⟩))|(go_at_call 86;(with_reducible refine(spec_l6When.calls a2 false _ A10.out).mono ?_);rintro e w' ⟨rfl,⟨nd,rfl⟩⟩;(try first|exact⟨rfl,_,World.drewN_drewN _ _ _⟩|exact⟨rfl,_,Eq.trans (World.drewN_drewN _ _ _) (congrArg (World.drewN _) (Nat.add_assoc _ _ _))⟩)))
     repeat (go_quiet (first|(go_at_call 84;(with_reducible refine(spec_GoodPlan.calls k _ _ l0 true _ ?side1 ?side2 A6.out).mono ?_);(case side1=>exact bC HR0.out);(case side2=>exact HC0.out);rintro e w14 ⟨rfl,hb⟩;have n0_:=Aside0.mk (below_step (bB) hb);clear HB;have HB:=n0_;clear n0_;(try clear hb);(try clear hb2);(try clear hk);(try clear hi))|(go_at_call 85;(with_reducible refine(spec_l6Node.calls a1 true _ A8.out).mono ?_);rintro e w' ⟨rfl,⟨nd,rfl⟩⟩;(try first|exact⟨rfl,_,World.drewN_drewN _ _ _⟩|exact⟨rfl,_,Eq.trans (World.drewN_drewN _ _ _) (congrArg (World.drewN _) (Nat.add_assoc _ _ _))⟩))|(go_at_call 86;(with_reducible refine(spec_l6When.calls a2 false _ A10.out).mono ?_);rintro e w' ⟨rfl,⟨nd,rfl⟩⟩;(try first|exact⟨rfl,_,World.drewN_drewN _ _ _⟩|exact⟨rfl,_,Eq.trans (World.drewN_drewN _ _ _) (congrArg (World.drewN _) (Nat.add_assoc _ _ _))⟩)));try go_wp2_with (first|(go_at_call 84;(with_reducible refine(spec_GoodPlan.calls k _ _ l0 true _ ?side1 ?side2 A6.out).mono ?_);(case side1=>exact bC HR0.out);(case side2=>exact HC0.out);rintro e w14 ⟨rfl,hb⟩;have n0_:=Aside0.mk (below_step (bB) hb);clear HB;have HB:=n0_;clear n0_;(try clear hb);(try clear hb2);(try clear hk);(try clear hi))|(go_at_call 85;(with_reducible refine(spec_l6Node.calls a1 true _ A8.out).mono ?_);rintro e w' ⟨rfl,⟨nd,rfl⟩⟩;(try first|exact⟨rfl,_,World.drewN_drewN _ _ _⟩|exact⟨rfl,_,Eq.trans (World.drewN_drewN _ _ _) (congrArg (World.drewN _) (Nat.add_assoc _ _ _))⟩))|(go_at_call 86;(with_reducible refine(spec_l6When.calls a2 false _ A10.out).mono ?_);rintro e w' ⟨rfl,⟨nd,rfl⟩⟩;(try first|exact⟨rfl,_,World.drewN_drewN _ _ _⟩|exact⟨rfl,_,Eq.trans (World.drewN_drewN _ _ _) (congrArg (World.drewN _) (Nat.add_assoc _ _ _))⟩))))
     go_meet
     case rel=>exact⟨_,(true),(bR),H',⟨by first|omega|exact Nat.le_refl _⟩,⟨by repeat (first|(with_reducible first|exact HB.out|apply below_alloc|apply pw_below_drewN|apply below_drew1)|exact HB.out)⟩⟩
   ·replace c9:=Bool.eq_false_iff.mpr c9
    subst c9
    have H1:(spec_RouteTo.j0 k l0 a1 a2 a3 true)=some (r1,r2,r3):=by rw[if_neg (show ¬ (false=true) by decide)] at H;exact H
    clear H
    have H:=H1
    clear H1
    have H':=Aside0.mk H
    clear H
    go_wp2_with (first|(go_at_call 84;(with_reducible refine(spec_GoodPlan.calls k _ _ l0 true _ ?side1 ?side2 A6.out).mono ?_);(case side1=>exact bC HR0.out);(case side2=>exact HC0.out);rintro e w15 ⟨rfl,hb⟩;have n0_:=Aside0.mk (below_step (bB) hb);clear HB;have HB:=n0_;clear n0_;(try clear hb);(try clear hb2);(try clear hk);(try clear hi))|(go_at_call 85;(with_reducible refine(spec_l6Node.calls a1 false _ A8.out).mono ?_);rintro e w' ⟨rfl,⟨nd,rfl⟩⟩;(try first|exact⟨rfl,_,World.drewN_drewN _ _ _⟩|exact⟨rfl,_,Eq.trans (World.drewN_drewN _ _ _) (congrArg (World.drewN _) (Nat.add_assoc _ _ _))⟩)))
    repeat (go_quiet (first|(go_at_call 84;(with_reducible refine(spec_GoodPlan.calls k _ _ l0 true _ ?side1 ?side2 A6.out).mono ?_);(case side1=>exact bC HR0.out);(case side2=>exact HC0.out);rintro e w15 ⟨rfl,hb⟩;have n0_:=Aside0.mk (below_step (bB) hb);clear HB;have HB:=n0_;clear n0_;(try clear hb);(try clear hb2);(try clear hk);(try clear hi))|(go_at_call 85;(with_reducible refine(spec_l6Node.calls a1 false _ A8.out).mono ?_);rintro e w' ⟨rfl,⟨nd,rfl⟩⟩;(try first|exact⟨rfl,_,World.drewN_drewN _ _ _⟩|exact⟨rfl,_,Eq.trans (World.drewN_drewN _ _ _) (congrArg (World.drewN _) (Nat.add_assoc _ _ _))⟩)));try go_wp2_with (first|(go_at_call 84;(with_reducible refine(spec_GoodPlan.calls k _ _ l0 true _ ?side1 ?side2 A6.out).mono ?_);(case side1=>exact bC HR0.out);(case side2=>exact HC0.out);rintro e w15 ⟨rfl,hb⟩;have n0_:=Aside0.mk (below_step (bB) hb);clear HB;have HB:=n0_;clear n0_;(try clear hb);(try clear hb2);(try clear hk);(try clear hi))|(go_at_call 85;(with_reducible refine(spec_l6Node.calls a1 false _ A8.out).mono ?_);rintro e w' ⟨rfl,⟨nd,rfl⟩⟩;(try first|exact⟨rfl,_,World.drewN_drewN _ _ _⟩|exact⟨rfl,_,Eq.trans (World.drewN_drewN _ _ _) (congrArg (World.drewN _) (Nat.add_assoc _ _ _))⟩))))
    go_meet
    case rel=>exact⟨_,(true),(bR),H',⟨by first|omega|exact Nat.le_refl _⟩,⟨by repeat (first|(with_reducible first|exact HB.out|apply below_alloc|apply pw_below_drewN|apply below_drew1)|exact HB.out)⟩⟩
  ·replace c7:=Bool.eq_false_iff.mpr c7
   subst c7
   have H1:(spec_RouteTo.j0 k l0 a1 a2 a3 true)=some (r1,r2,r3):=by rw[if_neg (show ¬ (false=true) by decide)] at H;exact H
   clear H
   have H:=H1
   clear H1
   have H':=Aside0.mk H
   clear H
   go_wp2_with (first|(go_at_call 84;(with_reducible refine(spec_GoodPlan.calls k _ _ l0 false _ ?side1 ?side2 A6.out).mono ?_);(case side1=>exact bC HR0.out);(case side2=>exact HC0.out);rintro e w16 ⟨rfl,hb⟩;have n0_:=Aside0.mk (below_step (bB) hb);clear HB;have HB:=n0_;clear n0_;(try clear hb);(try clear hb2);(try clear hk);(try clear hi)))
   repeat (go_quiet (first|(go_at_call 84;(with_reducible refine(spec_GoodPlan.calls k _ _ l0 false _ ?side1 ?side2 A6.out).mono ?_);(case side1=>exact bC HR0.out);(case side2=>exact HC0.out);rintro e w16 ⟨rfl,hb⟩;have n0_:=Aside0.mk (below_step (bB) hb);clear HB;have HB:=n0_;clear n0_;(try clear hb);(try clear hb2);(try clear hk);(try clear hi)));try go_wp2_with (first|(go_at_call 84;(with_reducible refine(spec_GoodPlan.calls k _ _ l0 false _ ?side1 ?side2 A6.out).mono ?_);(case side1=>exact bC HR0.out);(case side2=>exact HC0.out);rintro e w16 ⟨rfl,hb⟩;have n0_:=Aside0.mk (below_step (bB) hb);clear HB;have HB:=n0_;clear n0_;(try clear hb);(try clear hb2);(try clear hk);(try clear hi))))
   go_meet
   case rel=>exact⟨_,(true),(bR),H',⟨by first|omega|exact Nat.le_refl _⟩,⟨by repeat (first|(with_reducible first|exact HB.out|apply below_alloc|apply pw_below_drewN|apply below_drew1)|exact HB.out)⟩⟩
 case rest =>
  clear HC5
  try clear c1
  try clear p2
  try clear c7
  try clear c9
  try clear c11
  obtain⟨kq,x32_4,rfl,HA,HJ4,HB⟩:=hcut
  cases kq with
  | zero=>exact absurd HA.out (by simp[spec_RouteTo.j0])
  | succ kj4 =>
   have H:=HA.out
   clear HA
   simp only[spec_RouteTo.j0] at H
   by_cases c17:x32_4=true
   ·subst c17
    have H1:(some (([]:List Int),0,false))=some (r1,r2,r3):=by rw[if_pos rfl] at H;exact H
    clear H
    have H:=H1
    clear H1
    simp only[Option.some.injEq,Prod.mk.injEq] at H
    obtain⟨rfl,rfl,rfl⟩:=H
    go_wp2
    repeat (go_quiet (fail);try go_wp2)
    go_ret3
    exact⟨_,by first|rfl|(simp[errW_none,errW_some]<;>rfl)|(simp[*,errW_none,errW_some]<;>rfl),by first|exact Kd.R_nil _ _ _ _ _|exact Kd.N_nil _ _ _ _ _|exact Kd.V_nil _ _ _ _ _|exact Kd.Q_nil _ _ _ _ _|exact Kd.S_nil _ _ _ _ _,bB⟩
   ·replace c17:=Bool.eq_false_iff.mpr c17
    subst c17
    have H1:((spec_l6Search.f kj4 l0 a1 a2).bind fun bt176=>(if 0≤a3 then (if a3 < (bt176.1.length:Int) then (if (rd bt176.1 a3) < 0 then (some (([]:List Int),0,false)) else (spec_RouteTo.l0 kj4 l0 a1 a3 bt176.1 bt176.2 ([]:List Int) a3)) else (none)) else (none)))=some (r1,r2,r3):=by rw[if_neg (show ¬ (false=true) by decide)] at H;exact H
    clear H
    have H:=H1
    clear H1
    replace H:=Option.bind_eq_some_iff.mp H
    obtain⟨⟨t176,t177⟩,A180,H⟩:=H
    replace H:(if 0≤a3 then (if a3 < (t176.length:Int) then (if (rd t176 a3) < 0 then (some (([]:List Int),0,false)) else (spec_RouteTo.l0 kj4 l0 a1 a3 t176 t177 ([]:List Int) a3)) else (none)) else (none))=some (r1,r2,r3):=H
    have A18:=Aside0.mk A180
    clear A180
    by_cases c19:0≤a3
    ·rw[if_pos c19] at H
     have c19b0:decide (0≤a3)=true:=decide_eq_true c19
     clear c19
     by_cases c20:a3 < (t176.length:Int)
     ·rw[if_pos c20] at H
      have c20b0:decide (a3 < (t176.length:Int))=true:=decide_eq_true c20
      clear c20
      by_cases c21:(rd t176 a3) < 0
      ·rw[if_pos c21] at H
       have c21b0:decide ((rd t176 a3) < 0)=true:=decide_eq_true c21
       clear c21
       simp only[Option.some.injEq,Prod.mk.injEq] at H
       obtain⟨rfl,rfl,rfl⟩:=H
       go_wp2_with (first|(go_at_call 158;(with_reducible refine(spec_l6Search.calls kj4 _ _ l0 a1 a2 t176 t177 _ ?side1 ?side2 A18.out).mono ?_);(case side1=>exact bC HR0.out);(case side2=>exact HC0.out);rintro e w22 ⟨v178,v180,rfl,ho0,ho1,hb⟩;have n0_:=Aside0.mk (Kd.R_lower ho0 (below_size (bB)));have n1_:=Aside0.mk (Kd.R_lower ho1 (below_size (bB)));have n2_:=Aside0.mk (below_step (bB) hb);clear HB;have HO179:=n0_;have HO181:=n1_;have HB:=n2_;clear n0_ n1_ n2_;(try clear hb);(try clear hb2);(try clear hk);(try clear hi);(try clear ho0);(try clear ho1);obtain⟨Ao23,co23,eo23⟩:=Kd.R_slice HO179.out;subst eo23;have p182:0≤(a3:Int):=of_decide_eq_true (bD);have q182:a3 < (t176.length:Int):=of_decide_eq_true (bD);obtain⟨ad182,e182,hx182_0⟩:=Kd.at_int (Kd.R_reads' HO179.out).2.2 a3 p182 q182;cases e182;replace p182:=eq_true p182;replace q182:=eq_true q182))
       repeat (go_quiet (first|(go_at_call 158;(with_reducible refine(spec_l6Search.calls kj4 _ _ l0 a1 a2 t176 t177 _ ?side1 ?side2 A18.out).mono ?_);(case side1=>exact bC HR0.out);(case side2=>exact HC0.out);rintro e w22 ⟨v178,v180,rfl,ho0,ho1,hb⟩;have n0_:=Aside0.mk (Kd.R_lower ho0 (below_size (bB)));have n1_:=Aside0.mk (Kd.R_lower ho1 (below_size (bB)));have n2_:=Aside0.mk (below_step (bB) hb);clear HB;have HO179:=n0_;have HO181:=n1_;have HB:=n2_;clear n0_ n1_ n2_;(try clear hb);(try clear hb2);(try clear hk);(try clear hi);(try clear ho0);(try clear ho1);obtain⟨Ao23,co23,eo23⟩:=Kd.R_slice HO179.out;subst eo23;have p182:0≤(a3:Int):=of_decide_eq_true (bD);have q182:a3 < (t176.length:Int):=of_decide_eq_true (bD);obtain⟨ad182,e182,hx182_0⟩:=Kd.at_int (Kd.R_reads' HO179.out).2.2 a3 p182 q182;cases e182;replace p182:=eq_true p182;replace q182:=eq_true q182));try go_wp2_with (first|(go_at_call 158;(with_reducible refine(spec_l6Search.calls kj4 _ _ l0 a1 a2 t176 t177 _ ?side1 ?side2 A18.out).mono ?_);(case side1=>exact bC HR0.out);(case side2=>exact HC0.out);rintro e w22 ⟨v178,v180,rfl,ho0,ho1,hb⟩;have n0_:=Aside0.mk (Kd.R_lower ho0 (below_size (bB)));have n1_:=Aside0.mk (Kd.R_lower ho1 (below_size (bB)));have n2_:=Aside0.mk (below_step (bB) hb);clear HB;have HO179:=n0_;have HO181:=n1_;have HB:=n2_;clear n0_ n1_ n2_;(try clear hb);(try clear hb2);(try clear hk);(try clear hi);(try clear ho0);(try clear ho1);obtain⟨Ao23,co23,eo23⟩:=Kd.R_slice HO179.out;subst eo23;have p182:0≤(a3:Int):=of_decide_eq_true (bD);have q182:a3 < (t176.length:Int):=of_decide_eq_true (bD);obtain⟨ad182,e182,hx182_0⟩:=Kd.at_int (Kd.R_reads' HO179.out).2.2 a3 p182 q182;cases e182;replace p182:=eq_true p182;replace q182:=eq_true q182)))
       go_ret3
       exact⟨_,by first|rfl|(simp[errW_none,errW_some]<;>rfl)|(simp[*,errW_none,errW_some]<;>rfl),by first|exact Kd.R_nil _ _ _ _ _|exact Kd.N_nil _ _ _ _ _|exact Kd.V_nil _ _ _ _ _|exact Kd.Q_nil _ _ _ _ _|exact Kd.S_nil _ _ _ _ _,bB⟩
      ·rw[if_neg c21] at H
       have c21b0:decide ((rd t176 a3) < 0)=false:=decide_eq_false c21
       clear c21
       have H':=Aside0.mk H
       clear H
       go_wp2_with (first|(go_at_call 158;(with_reducible refine(spec_l6Search.calls kj4 _ _ l0 a1 a2 t176 t177 _ ?side1 ?side2 A18.out).mono ?_);(case side1=>exact bC HR0.out);(case side2=>exact HC0.out);rintro e w24 ⟨v178,v180,rfl,ho0,ho1,hb⟩;have n0_:=Aside0.mk (Kd.R_lower ho0 (below_size (bB)));have n1_:=Aside0.mk (Kd.R_lower ho1 (below_size (bB)));have n2_:=Aside0.mk (below_step (bB) hb);clear HB;have HO179:=n0_;have HO181:=n1_;have HB:=n2_;clear n0_ n1_ n2_;(try clear hb);(try clear hb2);(try clear hk);(try clear hi);(try clear ho0);(try clear ho1);obtain⟨Ao25,co25,eo25⟩:=Kd.R_slice HO179.out;subst eo25;have p182:0≤(a3:Int):=of_decide_eq_true (bD);have q182:a3 < (t176.length:Int):=of_decide_eq_true (bD);obtain⟨ad182,e182,hx182_0⟩:=Kd.at_int (Kd.R_reads' HO179.out).2.2 a3 p182 q182;cases e182;replace p182:=eq_true p182;replace q182:=eq_true q182))
       repeat (go_quiet (first|(go_at_call 158;(with_reducible refine(spec_l6Search.calls kj4 _ _ l0 a1 a2 t176 t177 _ ?side1 ?side2 A18.out).mono ?_);(case side1=>exact bC HR0.out);(case side2=>exact HC0.out);rintro e w24 ⟨v178,v180,rfl,ho0,ho1,hb⟩;have n0_:=Aside0.mk (Kd.R_lower ho0 (below_size (bB)));have n1_:=Aside0.mk (Kd.R_lower ho1 (below_size (bB)));have n2_:=Aside0.mk (below_step (bB) hb);clear HB;have HO179:=n0_;have HO181:=n1_;have HB:=n2_;clear n0_ n1_ n2_;(try clear hb);(try clear hb2);(try clear hk);(try clear hi);(try clear ho0);(try clear ho1);obtain⟨Ao25,co25,eo25⟩:=Kd.R_slice HO179.out;subst eo25;have p182:0≤(a3:Int):=of_decide_eq_true (bD);have q182:a3 < (t176.length:Int):=of_decide_eq_true (bD);obtain⟨ad182,e182,hx182_0⟩:=Kd.at_int (Kd.R_reads' HO179.out).2.2 a3 p182 q182;cases e182;replace p182:=eq_true p182;replace q182:=eq_true q182));try go_wp2_with (first|(go_at_call 158;(with_reducible refine(spec_l6Search.calls kj4 _ _ l0 a1 a2 t176 t177 _ ?side1 ?side2 A18.out).mono ?_);(case side1=>exact bC HR0.out);(case side2=>exact HC0.out);rintro e w24 ⟨v178,v180,rfl,ho0,ho1,hb⟩;have n0_:=Aside0.mk (Kd.R_lower ho0 (below_size (bB)));have n1_:=Aside0.mk (Kd.R_lower ho1 (below_size (bB)));have n2_:=Aside0.mk (below_step (bB) hb);clear HB;have HO179:=n0_;have HO181:=n1_;have HB:=n2_;clear n0_ n1_ n2_;(try clear hb);(try clear hb2);(try clear hk);(try clear hi);(try clear ho0);(try clear ho1);obtain⟨Ao25,co25,eo25⟩:=Kd.R_slice HO179.out;subst eo25;have p182:0≤(a3:Int):=of_decide_eq_true (bD);have q182:a3 < (t176.length:Int):=of_decide_eq_true (bD);obtain⟨ad182,e182,hx182_0⟩:=Kd.at_int (Kd.R_reads' HO179.out).2.2 a3 p182 q182;cases e182;replace p182:=eq_true p182;replace q182:=eq_true q182)))
       go_loopg [13,14] kj4 (fun kq v13 v14 w' => ∃ (x13_2:List Int) (x14_2:Int),v14=.int .i64 x14_2∧Aside0 (spec_RouteTo.l0 kq l0 a1 a3 t176 t177 x13_2 x14_2=some (r1,r2,r3))∧Aside0 (kq≤kj4)∧Aside0 (Kd.R (Kd.int .i64) 3 w' w.heap.size (fun k_=>some k_≠(v180:Value).ownBlock∧some k_≠(v13:Value).ownBlock) (.slice (some ad182) t176.length co25) t176)∧Aside0 (Kd.R (Kd.int .i64) 3 w' w.heap.size (fun k_=>some k_≠((.slice (some ad182) t176.length co25):Value).ownBlock∧some k_≠(v13:Value).ownBlock) v180 t177)∧Aside0 (Kd.R (Kd.int .i64) 3 w' w.heap.size (fun k_=>some k_≠((.slice (some ad182) t176.length co25):Value).ownBlock∧some k_≠(v180:Value).ownBlock) v13 x13_2)∧Aside0 (Below w.heap.size w w'))
       case atStart=>exact⟨(([]:List Int)),(a3),(bR),H',⟨Nat.le_refl _⟩,⟨by(with_reducible repeat (first|apply Kd.R_alloc|apply Kd.R_drewN|apply Kd.R_drew));exact Kd.R_mono HO179.out (fun _ hk=>⟨hk,(by simp[Value.ownBlock])⟩)⟩,⟨by(with_reducible repeat (first|apply Kd.R_alloc|apply Kd.R_drewN|apply Kd.R_drew));exact Kd.R_mono HO181.out (fun _ hk=>⟨hk,(by simp[Value.ownBlock])⟩)⟩,⟨by first|exact Kd.R_nil _ _ _ _ _|exact Kd.N_nil _ _ _ _ _|exact Kd.V_nil _ _ _ _ _|exact Kd.Q_nil _ _ _ _ _|exact Kd.S_nil _ _ _ _ _⟩,⟨by repeat (first|(with_reducible first|exact HB.out|apply below_alloc|apply pw_below_drewN|apply below_drew1)|exact HB.out)⟩⟩
       case round =>
        clear H'
        try clear c1
        try clear p1
        try clear q1
        try clear hx1
        try clear c2
        try clear p2
        try clear c7
        try clear c9
        try clear c11
        try clear c17
        try clear p18
        try clear q18
        try clear hx18
        try clear c19
        try clear c19b0
        try clear c20
        try clear c20b0
        try clear c21
        try clear c21b0
        try clear hx182_0
        try clear p182
        try clear p2
        try clear q182
        obtain⟨x13_2,x14_2,rfl,HA,HK2,HO_11,HO_12,HO_13,HB⟩:=hrel
        cases gk with
        | zero=>exact absurd HA.out (by simp[spec_RouteTo.l0])
        | succ k2 =>
         have H:=HA.out
         clear HA
         simp only[spec_RouteTo.l0] at H
         by_cases c26:x14_2=a1
         ·rw[if_pos c26] at H
          have c26b0:(x14_2 == a1)=true:=beq_iff_eq.mpr c26
          have c26b1:(x14_2 != a1)=false:=bne_eq_false_iff_eq.mpr c26
          clear c26
          by_cases c27:0≤a3
          ·rw[if_pos c27] at H
           have c27b0:decide (0≤a3)=true:=decide_eq_true c27
           clear c27
           by_cases c28:a3 < (t176.length:Int)
           ·rw[if_pos c28] at H
            have c28b0:decide (a3 < (t176.length:Int))=true:=decide_eq_true c28
            clear c28
            simp only[Option.some.injEq,Prod.mk.injEq] at H
            obtain⟨rfl,rfl,rfl⟩:=H
            have p183:0≤(a3:Int):=of_decide_eq_true (bD)
            have q183:a3 < (t176.length:Int):=of_decide_eq_true (bD)
            obtain⟨ad183,e183,hx183_0⟩:=Kd.at_int (Kd.R_reads' HO_11.out).2.2 a3 p183 q183
            obtain rfl:ad182=ad183:=(by injection e183)
            replace p183:=eq_true p183
            replace q183:=eq_true q183
            go_wp2
            repeat (go_quiet (fail);try go_wp2)
            go_ret3
            exact⟨_,by first|rfl|(simp[errW_none,errW_some]<;>rfl)|(simp[*,errW_none,errW_some]<;>rfl),by(with_reducible repeat (first|apply Kd.R_alloc|apply Kd.R_drewN|apply Kd.R_drew));exact Kd.R_mono HO_13.out (fun _ hk=>trivial),bB⟩
           ·rw[if_neg c28] at H
            exact absurd H (by simp)
          ·rw[if_neg c27] at H
           exact absurd H (by simp)
         ·rw[if_neg c26] at H
          have c26b0:(x14_2 == a1)=false:=beq_eq_false_iff_ne.mpr c26
          have c26b1:(x14_2 != a1)=true:=bne_iff_ne.mpr c26
          by_cases c29:0≤x14_2
          ·rw[if_pos c29] at H
           have c29b0:decide (0≤x14_2)=true:=decide_eq_true c29
           clear c29
           by_cases c30:x14_2 < (t177.length:Int)
           ·rw[if_pos c30] at H
            have c30b0:decide (x14_2 < (t177.length:Int))=true:=decide_eq_true c30
            clear c30
            obtain⟨y185,hy185⟩ : ∃ y_:List Int,y_=(([rd t177 x14_2]:List Int)):=⟨_,rfl⟩
            replace H:(if y185.length+x13_2.length < 17592186044416 then (if 0≤(rd t177 x14_2) then (if (rd t177 x14_2) < (l0.length:Int) then (spec_RouteTo.l0 k2 l0 a1 a3 t176 t177 (y185++x13_2) ((rd_T104 l0 (rd t177 x14_2)).f0)) else (none)) else (none)) else (none))=some (r1,r2,r3):=by first|(rw[hy185];with_reducible exact H)|(have H2_:=(Option.bind_some _ _).symm.trans H;rw[hy185];with_reducible exact H2_)|(have H2_:=(Option.bind_some _ _).symm.trans H;with_reducible exact H2_)|with_reducible exact H|(rw[hy185];exact H)|exact H
            have Ny185:=Aside0.mk hy185
            clear hy185
            by_cases c31:y185.length+x13_2.length < 17592186044416
            ·rw[if_pos c31] at H
             have LMc31:=Aside0.mk c31
             clear c31
             obtain⟨y188,hy188⟩ : ∃ y_:List Int,y_=(y185++x13_2):=⟨_,rfl⟩
             replace H:(if 0≤(rd t177 x14_2) then (if (rd t177 x14_2) < (l0.length:Int) then (spec_RouteTo.l0 k2 l0 a1 a3 t176 t177 y188 ((rd_T104 l0 (rd t177 x14_2)).f0)) else (none)) else (none))=some (r1,r2,r3):=by first|(rw[hy188];with_reducible exact H)|(have H2_:=(Option.bind_some _ _).symm.trans H;rw[hy188];with_reducible exact H2_)|(have H2_:=(Option.bind_some _ _).symm.trans H;with_reducible exact H2_)|with_reducible exact H|(rw[hy188];exact H)|exact H
             have Ny188:=Aside0.mk hy188
             clear hy188
             by_cases c32:0≤(rd t177 x14_2)
             ·rw[if_pos c32] at H
              have c32b0:decide (0≤(rd t177 x14_2))=true:=decide_eq_true c32
              clear c32
              by_cases c33:(rd t177 x14_2) < (l0.length:Int)
              ·rw[if_pos c33] at H
               have c33b0:decide ((rd t177 x14_2) < (l0.length:Int))=true:=decide_eq_true c33
               clear c33
               have H':=Aside0.mk H
               clear H
               obtain⟨Ao34,co34,eo34⟩:=Kd.R_slice HO_12.out
               subst eo34
               have p184:0≤(x14_2:Int):=of_decide_eq_true (bD)
               have q184:x14_2 < (t177.length:Int):=of_decide_eq_true (bD)
               obtain⟨ad184,e184,hx184_0⟩:=Kd.at_int (Kd.R_reads' HO_12.out).2.2 x14_2 p184 q184
               cases e184
               replace p184:=eq_true p184
               replace q184:=eq_true q184
               go_wp2_with (first|((with_reducible refine gate_dst (N:=61) rfl ?_);refine Kd.R_lit (Kd.int .i64) _ 3 ?hg (N:=61) ?hd (xs:=([rd t177 x14_2]:List Int)) (inner:=[.int .i64 (rd t177 x14_2)]) (ok:=fun _=>True) (okp:=fun _=>True) ?hr ?hp (fun _ hk=>hk) trivial (Below.refl _ _) (Nat.le_refl _) (by simp) ?_;(case hd=>rfl);(case hg=>rfl);(case hr=>first|(go_simp;done)|(go_simp;rfl));(case hp=>exact(Reps.one (show Kd.M (Kd.int .i64) _ _ _ (rd t177 x14_2) [.int .i64 (rd t177 x14_2)] from rfl) (Reps.none _ _)));intro v186 w35 ho36 hb hg_ hnew_;clear hg_ hnew_;(first|rw[← Ny185.out] at ho36|(simp only[Int.reduceToNat] at ho36;rw[← Ny185.out] at ho36));have n0_:=Aside0.mk (Kd.R_elder' (bK HO_11.out) (Kd.R_base ho36) hb);have n1_:=Aside0.mk (Kd.R_elder' (bK HO_12.out) (Kd.R_base ho36) hb);have n2_:=Aside0.mk (Kd.R_elder' (bK HO_13.out) (Kd.R_base ho36) hb);have n3_:=Aside0.mk (Kd.R_lower (Kd.R_new' (Kd.R_new' (Kd.R_new' ho36 (Kd.R_lt (bK HO_11.out))) (Kd.R_lt (bK HO_12.out))) (Kd.R_lt (bK HO_13.out))) (below_size (bB)));have n4_:=Aside0.mk (below_step (bB) hb);clear HO_11 HO_12 HO_13 HB;have HO_11:=n0_;have HO_12:=n1_;have HO_13:=n2_;have HO187:=n3_;have HB:=n4_;clear n0_ n1_ n2_ n3_ n4_;clear hb ho36;obtain⟨Ao38,co38,eo38⟩:=Kd.R_slice HO_13.out;subst eo38)|((with_reducible refine gate_builtin (b:=.append) (xs:=#[.tmp 61,.tmp 62]) rfl ?_);at_builtin;refine Kd.R_append_rows (Kd.int .i64) (w0:=w) w.heap.size rfl (.tmp 61) (.tmp 62) 37 3 (.int .i64 0) 8 rfl Try.underlying37 info3 rfl (by decide) (by omega) v186 y185 x13_2 _ _ _ (fun k_=>some k_≠(.slice (some ad182) t176.length co25:Value).ownBlock∧some k_≠(.slice (some ad184) t177.length co34:Value).ownBlock∧some k_≠(.slice Ao38 x13_2.length co38:Value).ownBlock) (fun _=>False) rfl rfl ?aO ?aR (fun _ _ h=>h) (fun _ h=>h.elim) ?aF ?aB ?aS ?aL ?_;(case aR=>exact bT HO_13.out);(case aB=>exact(bB));(case aF=>exact(fun k_ hk=>⟨Kd.fresh' (Kd.R_lt (bK HO_11.out)) k_ hk,Kd.fresh' (Kd.R_lt (bK HO_12.out)) k_ hk,Kd.fresh' (Kd.R_lt (bK HO_13.out)) k_ hk⟩));(case aO=>exact(by(with_reducible repeat (first|apply Kd.R_alloc|apply Kd.R_drewN|apply Kd.R_drew));exact Kd.R_mono HO187.out (fun _ hk=>⟨hk.1.1.2,⟨hk.1.2,hk.2⟩⟩)));(case aS=>exact(below_size (bB)));(case aL=>have:=LMc31.out;omega);intro v189 w37 ho hb hg hat;rw[← Ny188.out] at ho;have n0_:=Aside0.mk (Kd.R_after (ok:=(fun k_=>some k_≠(.slice (some ad184) t177.length co34:Value).ownBlock∧some k_≠(.slice Ao38 x13_2.length co38:Value).ownBlock)) (bK HO_11.out) hg hat);have n1_:=Aside0.mk (Kd.R_after (ok:=(fun k_=>some k_≠(.slice (some ad182) t176.length co25:Value).ownBlock∧some k_≠(.slice Ao38 x13_2.length co38:Value).ownBlock)) (bK HO_12.out) hg hat);have n2_:=Aside0.mk (Kd.R_after (ok:=(fun k_=>some k_≠(.slice (some ad182) t176.length co25:Value).ownBlock∧some k_≠(.slice (some ad184) t177.length co34:Value).ownBlock)) (bK HO_13.out) hg hat);have n3_:=Aside0.mk (hb);have n4_:=Aside0.mk (ho);clear HO_11 HO_12 HO_13 HB HO187;have HO_11:=n0_;have HO_12:=n1_;have HO_13:=n2_;have HB:=n3_;have HO190:=n4_;clear n0_ n1_ n2_ n3_ n4_;clear ho hb hg hat;have p191:0≤(x14_2:Int):=of_decide_eq_true (bD);have q191:x14_2 < (t177.length:Int):=of_decide_eq_true (bD);obtain⟨ad191,e191,hx191_0⟩:=Kd.at_int (Kd.R_reads' HO_12.out).2.2 x14_2 p191 q191;obtain rfl:ad184=ad191:=(by injection e191);replace p191:=eq_true p191;replace q191:=eq_true q191;have p192:0≤((rd t177 x14_2):Int):=of_decide_eq_true (bD);have q192:(rd t177 x14_2) < (l0.length:Int):=of_decide_eq_true (bD);obtain⟨ad192,e192,hx192_0,hx192_1,hx192_2,hx192_3,hx192_4⟩:=at_T104 HR0.out (rd t177 x14_2) p192 q192;cases e192;replace hx192_0:=(HB.out.cell (World.block_lt_of_cell? w _ hx192_0)).trans hx192_0;replace hx192_1:=(HB.out.cell (World.block_lt_of_cell? w _ hx192_1)).trans hx192_1;replace hx192_2:=(HB.out.cell (World.block_lt_of_cell? w _ hx192_2)).trans hx192_2;replace hx192_3:=(HB.out.cell (World.block_lt_of_cell? w _ hx192_3)).trans hx192_3;replace hx192_4:=(HB.out.cell (World.block_lt_of_cell? w _ hx192_4)).trans hx192_4;replace p192:=eq_true p192;replace q192:=eq_true q192))
               repeat (go_quiet (first|((with_reducible refine gate_dst (N:=61) rfl ?_);refine Kd.R_lit (Kd.int .i64) _ 3 ?hg (N:=61) ?hd (xs:=([rd t177 x14_2]:List Int)) (inner:=[.int .i64 (rd t177 x14_2)]) (ok:=fun _=>True) (okp:=fun _=>True) ?hr ?hp (fun _ hk=>hk) trivial (Below.refl _ _) (Nat.le_refl _) (by simp) ?_;(case hd=>rfl);(case hg=>rfl);(case hr=>first|(go_simp;done)|(go_simp;rfl));(case hp=>exact(Reps.one (show Kd.M (Kd.int .i64) _ _ _ (rd t177 x14_2) [.int .i64 (rd t177 x14_2)] from rfl) (Reps.none _ _)));intro v186 w35 ho36 hb hg_ hnew_;clear hg_ hnew_;(first|rw[← Ny185.out] at ho36|(simp only[Int.reduceToNat] at ho36;rw[← Ny185.out] at ho36));have n0_:=Aside0.mk (Kd.R_elder' (bK HO_11.out) (Kd.R_base ho36) hb);have n1_:=Aside0.mk (Kd.R_elder' (bK HO_12.out) (Kd.R_base ho36) hb);have n2_:=Aside0.mk (Kd.R_elder' (bK HO_13.out) (Kd.R_base ho36) hb);have n3_:=Aside0.mk (Kd.R_lower (Kd.R_new' (Kd.R_new' (Kd.R_new' ho36 (Kd.R_lt (bK HO_11.out))) (Kd.R_lt (bK HO_12.out))) (Kd.R_lt (bK HO_13.out))) (below_size (bB)));have n4_:=Aside0.mk (below_step (bB) hb);clear HO_11 HO_12 HO_13 HB;have HO_11:=n0_;have HO_12:=n1_;have HO_13:=n2_;have HO187:=n3_;have HB:=n4_;clear n0_ n1_ n2_ n3_ n4_;clear hb ho36;obtain⟨Ao38,co38,eo38⟩:=Kd.R_slice HO_13.out;subst eo38)|((with_reducible refine gate_builtin (b:=.append) (xs:=#[.tmp 61,.tmp 62]) rfl ?_);at_builtin;refine Kd.R_append_rows (Kd.int .i64) (w0:=w) w.heap.size rfl (.tmp 61) (.tmp 62) 37 3 (.int .i64 0) 8 rfl Try.underlying37 info3 rfl (by decide) (by omega) v186 y185 x13_2 _ _ _ (fun k_=>some k_≠(.slice (some ad182) t176.length co25:Value).ownBlock∧some k_≠(.slice (some ad184) t177.length co34:Value).ownBlock∧some k_≠(.slice Ao38 x13_2.length co38:Value).ownBlock) (fun _=>False) rfl rfl ?aO ?aR (fun _ _ h=>h) (fun _ h=>h.elim) ?aF ?aB ?aS ?aL ?_;(case aR=>exact bT HO_13.out);(case aB=>exact(bB));(case aF=>exact(fun k_ hk=>⟨Kd.fresh' (Kd.R_lt (bK HO_11.out)) k_ hk,Kd.fresh' (Kd.R_lt (bK HO_12.out)) k_ hk,Kd.fresh' (Kd.R_lt (bK HO_13.out)) k_ hk⟩));(case aO=>exact(by(with_reducible repeat (first|apply Kd.R_alloc|apply Kd.R_drewN|apply Kd.R_drew));exact Kd.R_mono HO187.out (fun _ hk=>⟨hk.1.1.2,⟨hk.1.2,hk.2⟩⟩)));(case aS=>exact(below_size (bB)));(case aL=>have:=LMc31.out;omega);intro v189 w37 ho hb hg hat;rw[← Ny188.out] at ho;have n0_:=Aside0.mk (Kd.R_after (ok:=(fun k_=>some k_≠(.slice (some ad184) t177.length co34:Value).ownBlock∧some k_≠(.slice Ao38 x13_2.length co38:Value).ownBlock)) (bK HO_11.out) hg hat);have n1_:=Aside0.mk (Kd.R_after (ok:=(fun k_=>some k_≠(.slice (some ad182) t176.length co25:Value).ownBlock∧some k_≠(.slice Ao38 x13_2.length co38:Value).ownBlock)) (bK HO_12.out) hg hat);have n2_:=Aside0.mk (Kd.R_after (ok:=(fun k_=>some k_≠(.slice (some ad182) t176.length co25:Value).ownBlock∧some k_≠(.slice (some ad184) t177.length co34:Value).ownBlock)) (bK HO_13.out) hg hat);have n3_:=Aside0.mk (hb);have n4_:=Aside0.mk (ho);clear HO_11 HO_12 HO_13 HB HO187;have HO_11:=n0_;have HO_12:=n1_;have HO_13:=n2_;have HB:=n3_;have HO190:=n4_;clear n0_ n1_ n2_ n3_ n4_;clear ho hb hg hat;have p191:0≤(x14_2:Int):=of_decide_eq_true (bD);have q191:x14_2 < (t177.length:Int):=of_decide_eq_true (bD);obtain⟨ad191,e191,hx191_0⟩:=Kd.at_int (Kd.R_reads' HO_12.out).2.2 x14_2 p191 q191;obtain rfl:ad184=ad191:=(by injection e191);replace p191:=eq_true p191;replace q191:=eq_true q191;have p192:0≤((rd t177 x14_2):Int):=of_decide_eq_true (bD);have q192:(rd t177 x14_2) < (l0.length:Int):=of_decide_eq_true (bD);obtain⟨ad192,e192,hx192_0,hx192_1,hx192_2,hx192_3,hx192_4⟩:=at_T104 HR0.out (rd t177 x14_2) p192 q192;cases e192;replace hx192_0:=(HB.out.cell (World.block_lt_of_cell? w _ hx192_0)).trans hx192_0;replace hx192_1:=(HB.out.cell (World.block_lt_of_cell? w _ hx192_1)).trans hx192_1;replace hx192_2:=(HB.out.cell (World.block_lt_of_cell? w _ hx192_2)).trans hx192_2;replace hx192_3:=(HB.out.cell (World.block_lt_of_cell? w _ hx192_3)).trans hx192_3;replace hx192_4:=(HB.out.cell (World.block_lt_of_cell? w _ hx192_4)).trans hx192_4;replace p192:=eq_true p192;replace q192:=eq_true q192));try go_wp2_with (first|((with_reducible refine gate_dst (N:=61) rfl ?_);refine Kd.R_lit (Kd.int .i64) _ 3 ?hg (N:=61) ?hd (xs:=([rd t177 x14_2]:List Int)) (inner:=[.int .i64 (rd t177 x14_2)]) (ok:=fun _=>True) (okp:=fun _=>True) ?hr ?hp (fun _ hk=>hk) trivial (Below.refl _ _) (Nat.le_refl _) (by simp) ?_;(case hd=>rfl);(case hg=>rfl);(case hr=>first|(go_simp;done)|(go_simp;rfl));(case hp=>exact(Reps.one (show Kd.M (Kd.int .i64) _ _ _ (rd t177 x14_2) [.int .i64 (rd t177 x14_2)] from rfl) (Reps.none _ _)));intro v186 w35 ho36 hb hg_ hnew_;clear hg_ hnew_;(first|rw[← Ny185.out] at ho36|(simp only[Int.reduceToNat] at ho36;rw[← Ny185.out] at ho36));have n0_:=Aside0.mk (Kd.R_elder' (bK HO_11.out) (Kd.R_base ho36) hb);have n1_:=Aside0.mk (Kd.R_elder' (bK HO_12.out) (Kd.R_base ho36) hb);have n2_:=Aside0.mk (Kd.R_elder' (bK HO_13.out) (Kd.R_base ho36) hb);have n3_:=Aside0.mk (Kd.R_lower (Kd.R_new' (Kd.R_new' (Kd.R_new' ho36 (Kd.R_lt (bK HO_11.out))) (Kd.R_lt (bK HO_12.out))) (Kd.R_lt (bK HO_13.out))) (below_size (bB)));have n4_:=Aside0.mk (below_step (bB) hb);clear HO_11 HO_12 HO_13 HB;have HO_11:=n0_;have HO_12:=n1_;have HO_13:=n2_;have HO187:=n3_;have HB:=n4_;clear n0_ n1_ n2_ n3_ n4_;clear hb ho36;obtain⟨Ao38,co38,eo38⟩:=Kd.R_slice HO_13.out;subst eo38)|((with_reducible refine gate_builtin (b:=.append) (xs:=#[.tmp 61,.tmp 62]) rfl ?_);at_builtin;refine Kd.R_append_rows (Kd.int .i64) (w0:=w) w.heap.size rfl (.tmp 61) (.tmp 62) 37 3 (.int .i64 0) 8 rfl Try.underlying37 info3 rfl (by decide) (by omega) v186 y185 x13_2 _ _ _ (fun k_=>some k_≠(.slice (some ad182) t176.length co25:Value).ownBlock∧some k_≠(.slice (some ad184) t177.length co34:Value).ownBlock∧some k_≠(.slice Ao38 x13_2.length co38:Value).ownBlock) (fun _=>False) rfl rfl ?aO ?aR (fun _ _ h=>h) (fun _ h=>h.elim) ?aF ?aB ?aS ?aL ?_;(case aR=>exact bT HO_13.out);(case aB=>exact(bB));(case aF=>exact(fun k_ hk=>⟨Kd.fresh' (Kd.R_lt (bK HO_11.out)) k_ hk,Kd.fresh' (Kd.R_lt (bK HO_12.out)) k_ hk,Kd.fresh' (Kd.R_lt (bK HO_13.out)) k_ hk⟩));(case aO=>exact(by(with_reducible repeat (first|apply Kd.R_alloc|apply Kd.R_drewN|apply Kd.R_drew));exact Kd.R_mono HO187.out (fun _ hk=>⟨hk.1.1.2,⟨hk.1.2,hk.2⟩⟩)));(case aS=>exact(below_size (bB)));(case aL=>have:=LMc31.out;omega);intro v189 w37 ho hb hg hat;rw[← Ny188.out] at ho;have n0_:=Aside0.mk (Kd.R_after (ok:=(fun k_=>some k_≠(.slice (some ad184) t177.length co34:Value).ownBlock∧some k_≠(.slice Ao38 x13_2.length co38:Value).ownBlock)) (bK HO_11.out) hg hat);have n1_:=Aside0.mk (Kd.R_after (ok:=(fun k_=>some k_≠(.slice (some ad182) t176.length co25:Value).ownBlock∧some k_≠(.slice Ao38 x13_2.length co38:Value).ownBlock)) (bK HO_12.out) hg hat);have n2_:=Aside0.mk (Kd.R_after (ok:=(fun k_=>some k_≠(.slice (some ad182) t176.length co25:Value).ownBlock∧some k_≠(.slice (some ad184) t177.length co34:Value).ownBlock)) (bK HO_13.out) hg hat);have n3_:=Aside0.mk (hb);have n4_:=Aside0.mk (ho);clear HO_11 HO_12 HO_13 HB HO187;have HO_11:=n0_;have HO_12:=n1_;have HO_13:=n2_;have HB:=n3_;have HO190:=n4_;clear n0_ n1_ n2_ n3_ n4_;clear ho hb hg hat;have p191:0≤(x14_2:Int):=of_decide_eq_true (bD);have q191:x14_2 < (t177.length:Int):=of_decide_eq_true (bD);obtain⟨ad191,e191,hx191_0⟩:=Kd.at_int (Kd.R_reads' HO_12.out).2.2 x14_2 p191 q191;obtain rfl:ad184=ad191:=(by injection e191);replace p191:=eq_true p191;replace q191:=eq_true q191;have p192:0≤((rd t177 x14_2):Int):=of_decide_eq_true (bD);have q192:(rd t177 x14_2) < (l0.length:Int):=of_decide_eq_true (bD);obtain⟨ad192,e192,hx192_0,hx192_1,hx192_2,hx192_3,hx192_4⟩:=at_T104 HR0.out (rd t177 x14_2) p192 q192;cases e192;replace hx192_0:=(HB.out.cell (World.block_lt_of_cell? w _ hx192_0)).trans hx192_0;replace hx192_1:=(HB.out.cell (World.block_lt_of_cell? w _ hx192_1)).trans hx192_1;replace hx192_2:=(HB.out.cell (World.block_lt_of_cell? w _ hx192_2)).trans hx192_2;replace hx192_3:=(HB.out.cell (World.block_lt_of_cell? w _ hx192_3)).trans hx192_3;replace hx192_4:=(HB.out.cell (World.block_lt_of_cell? w _ hx192_4)).trans hx192_4;replace p192:=eq_true p192;replace q192:=eq_true q192)))
               go_roundg k2
               case measure=>have:=HJ4.out;have:=HK2.out;omega
               case rel=>exact⟨(y188),((rd_T104 l0 (rd t177 x14_2)).f0),(bR),H',⟨by have:=HJ4.out;have:=HK2.out;omega⟩,⟨by(with_reducible repeat (first|apply Kd.R_alloc|apply Kd.R_drewN|apply Kd.R_drew));exact Kd.R_mono HO_11.out (fun _ hk=>⟨hk.1.1,hk.2⟩)⟩,⟨by(with_reducible repeat (first|apply Kd.R_alloc|apply Kd.R_drewN|apply Kd.R_drew));exact Kd.R_mono HO_12.out (fun _ hk=>⟨hk.1.1,hk.2⟩)⟩,⟨by(with_reducible repeat (first|apply Kd.R_alloc|apply Kd.R_drewN|apply Kd.R_drew));exact Kd.R_mono HO190.out (fun _ hk=>⟨hk.1,hk.2.1⟩)⟩,⟨by repeat (first|(with_reducible first|exact HB.out|apply below_alloc|apply pw_below_drewN|apply below_drew1)|exact HB.out)⟩⟩
              ·rw[if_neg c33] at H
               exact absurd H (by simp)
             ·rw[if_neg c32] at H
              exact absurd H (by simp)
            ·rw[if_neg c31] at H
             exact absurd H (by simp)
           ·rw[if_neg c30] at H
            exact absurd H (by simp)
          ·rw[if_neg c29] at H
           exact absurd H (by simp)
     ·rw[if_neg c20] at H
      exact absurd H (by simp)
    ·rw[if_neg c19] at H
     exact absurd H (by simp)

/-! ### spec_ForwardStep: function 52 -/
def spec_ForwardStep.j0:Nat→List (S104)→Int→List Int→Bool→Int→Int→Bool→Int→Int→Int→Int→Int→Int→ByteArray→Option (Int × Int × Bool)
 | 0,_,_,_,_,_,_,_,_,_,_,_,_,_,_=>none
 | k+1,x0,x3,x13,x36,x194000,x194001,x194002,x194003,x194004,x194005,x194006,x194007,x194008,x194009=>if x36=true then (some (0,0,false)) else (if 0 < (x13.length:Int) then (if 0≤(rd x13 0) then (if (rd x13 0) < (x0.length:Int) then ((spec_l6Over.f ((rd_T104 x0 (rd x13 0)).f0) ((rd_T104 x0 (rd x13 0)).f1) ((rd_T104 x0 (rd x13 0)).f2) ((rd_T104 x0 (rd x13 0)).f3) ((rd_T104 x0 (rd x13 0)).f4) x3).bind fun t202=>(if t202 > (wrap64 (x194003+x194005)) then (some (0,0,false)) else (some (rd x13 0,t202,true)))) else (none)) else (none)) else (none))
def spec_ForwardStep.f (k:Nat) (l0:List (S104)) (a1_0:Int) (a1_1:Int) (a1_2:Bool) (a1_3:Int) (a1_4:Int) (a1_5:Int) (a1_6:Int) (a1_7:Int) (a1_8:Int) (a1_9:ByteArray) (a2:Int) (a3:Int) (a4:Int):Option (Int × Int × Bool):=(spec_l17Fits.f k l0 a1_0 a1_1 a1_2 a1_3 a1_4 a1_5 a1_6 a1_7 a1_8 a1_9).bind fun t194=>(if t194=true then ((spec_RouteTo.f k l0 a2 a3 a4).bind fun bt195=>(if bt195.2.2=true then (spec_ForwardStep.j0 k l0 a3 bt195.1 ((bt195.1.length:Int) == 0) a1_0 a1_1 a1_2 a1_3 a1_4 a1_5 a1_6 a1_7 a1_8 a1_9) else (spec_ForwardStep.j0 k l0 a3 bt195.1 true a1_0 a1_1 a1_2 a1_3 a1_4 a1_5 a1_6 a1_7 a1_8 a1_9))) else (some (0,0,false)))
theorem spec_ForwardStep.mono_l : ∀ k,(∀ y0 y1 y2 y3 y4 y5 y6 y7 y8 y9 y10 y11 y12 y13,LeO (spec_ForwardStep.j0 k y0 y1 y2 y3 y4 y5 y6 y7 y8 y9 y10 y11 y12 y13) (spec_ForwardStep.j0 (k+1) y0 y1 y2 y3 y4 y5 y6 y7 y8 y9 y10 y11 y12 y13))
 | 0=>fun _ _ _ _ _ _ _ _ _ _ _ _ _ _ r h=>by simp[spec_ForwardStep.j0] at h
 | k+1=>by
  have ih0:=spec_ForwardStep.mono_l k
  ·intro y0 y1 y2 y3 y4 y5 y6 y7 y8 y9 y10 y11 y12 y13
   unfold spec_ForwardStep.j0
   repeat' first
   | (with_reducible exact ih0 _ _ _ _ _ _ _ _ _ _ _ _ _ _)
   | (with_reducible exact spec_RouteTo.mono _ _ _ _ _)
   | (with_reducible exact spec_l17Fits.mono _ _ _ _ _ _ _ _ _ _ _ _)
   | (with_reducible exact LeO.refl _)
   | (with_reducible exact LeO.none _)
   | (with_reducible refine LeO.ite ?_ ?_)
   | (with_reducible refine LeO.bind ?_ (fun _ => ?_))
   | exact ih0 _ _ _ _ _ _ _ _ _ _ _ _ _ _
   | exact spec_RouteTo.mono _ _ _ _ _
   | exact spec_l17Fits.mono _ _ _ _ _ _ _ _ _ _ _ _
   | exact LeO.none _
   | refine LeO.ite ?_ ?_
   | refine LeO.bind ?_ (fun _ => ?_)
theorem spec_ForwardStep.mono : ∀ a0 a1 a2 a3 a4 a5 a6 a7 a8 a9 a10 a11 a12 a13 k,LeO (spec_ForwardStep.f k a0 a1 a2 a3 a4 a5 a6 a7 a8 a9 a10 a11 a12 a13) (spec_ForwardStep.f (k+1) a0 a1 a2 a3 a4 a5 a6 a7 a8 a9 a10 a11 a12 a13):=by
 intro a0 a1 a2 a3 a4 a5 a6 a7 a8 a9 a10 a11 a12 a13 k
 have ih0:=spec_ForwardStep.mono_l k
 unfold spec_ForwardStep.f
 repeat' first
  | (with_reducible exact ih0 _ _ _ _ _ _ _ _ _ _ _ _ _ _)
  | (with_reducible exact spec_RouteTo.mono _ _ _ _ _)
  | (with_reducible exact spec_l17Fits.mono _ _ _ _ _ _ _ _ _ _ _ _)
  | (with_reducible exact LeO.refl _)
  | (with_reducible exact LeO.none _)
  | (with_reducible refine LeO.ite ?_ ?_)
  | (with_reducible refine LeO.bind ?_ (fun _ => ?_))
  | exact ih0 _ _ _ _ _ _ _ _ _ _ _ _ _ _
  | exact spec_RouteTo.mono _ _ _ _ _
  | exact spec_l17Fits.mono _ _ _ _ _ _ _ _ _ _ _ _
  | exact LeO.none _
  | refine LeO.ite ?_ ?_
  | refine LeO.bind ?_ (fun _ => ?_)
set_option maxHeartbeats 8000000 in
set_option maxRecDepth 100000 in
theorem spec_ForwardStep.calls (k:Nat) (A0:Option Addr) (c0:Nat) (l0:List (S104)) (a1_0:Int) (a1_1:Int) (a1_2:Bool) (a1_3:Int) (a1_4:Int) (a1_5:Int) (a1_6:Int) (a1_7:Int) (a1_8:Int) (a1_9:ByteArray) (a2:Int) (a3:Int) (a4:Int) (r1:Int) (r2:Int) (r3:Bool) (w:World) (hr0:Kd.C k104 w A0 l0.length l0) (hc0:l0.length≤c0) (h:spec_ForwardStep.f k l0 a1_0 a1_1 a1_2 a1_3 a1_4 a1_5 a1_6 a1_7 a1_8 a1_9 a2 a3 a4=some (r1,r2,r3)) :
  Calls Try.prog 52 #[.slice A0 l0.length c0,.agg #[.int .i64 a1_0,.int .i64 a1_1,.bool a1_2,.int .i64 a1_3,.int .i64 a1_4,.int .i64 a1_5,.int .i64 a1_6,.int .i64 a1_7,.int .i64 a1_8,.string a1_9],.int .i64 a2,.int .i64 a3,.int .i64 a4] w fun e w'=>e=.returned (.tuple #[.int .i64 r1,.int .i64 r2,.bool r3])∧Below w.heap.size w w':=by
 have hu86:=Try.underlying86
 have hu104:=Try.underlying104
 have HR0:=Aside0.mk hr0
 have HC0:=Aside0.mk hc0
 clear hr0 hc0
 have HB:=Aside0.mk (Below.refl w.heap.size w)
 have H:((spec_l17Fits.f k l0 a1_0 a1_1 a1_2 a1_3 a1_4 a1_5 a1_6 a1_7 a1_8 a1_9).bind fun t194=>(if t194=true then ((spec_RouteTo.f k l0 a2 a3 a4).bind fun bt195=>(if bt195.2.2=true then (spec_ForwardStep.j0 k l0 a3 bt195.1 ((bt195.1.length:Int) == 0) a1_0 a1_1 a1_2 a1_3 a1_4 a1_5 a1_6 a1_7 a1_8 a1_9) else (spec_ForwardStep.j0 k l0 a3 bt195.1 true a1_0 a1_1 a1_2 a1_3 a1_4 a1_5 a1_6 a1_7 a1_8 a1_9))) else (some (0,0,false))))=some (r1,r2,r3):=h
 clear h
 replace H:=Option.bind_eq_some_iff.mp H
 obtain⟨t194,A60,H⟩:=H
 replace H:(if t194=true then ((spec_RouteTo.f k l0 a2 a3 a4).bind fun bt195=>(if bt195.2.2=true then (spec_ForwardStep.j0 k l0 a3 bt195.1 ((bt195.1.length:Int) == 0) a1_0 a1_1 a1_2 a1_3 a1_4 a1_5 a1_6 a1_7 a1_8 a1_9) else (spec_ForwardStep.j0 k l0 a3 bt195.1 true a1_0 a1_1 a1_2 a1_3 a1_4 a1_5 a1_6 a1_7 a1_8 a1_9))) else (some (0,0,false)))=some (r1,r2,r3):=H
 have A6:=Aside0.mk A60
 clear A60
 by_cases c7:t194=true
 ·subst c7
  have H1:((spec_RouteTo.f k l0 a2 a3 a4).bind fun bt195=>(if bt195.2.2=true then (spec_ForwardStep.j0 k l0 a3 bt195.1 ((bt195.1.length:Int) == 0) a1_0 a1_1 a1_2 a1_3 a1_4 a1_5 a1_6 a1_7 a1_8 a1_9) else (spec_ForwardStep.j0 k l0 a3 bt195.1 true a1_0 a1_1 a1_2 a1_3 a1_4 a1_5 a1_6 a1_7 a1_8 a1_9)))=some (r1,r2,r3):=by rw[if_pos rfl] at H;exact H
  clear H
  have H:=H1
  clear H1
  replace H:=Option.bind_eq_some_iff.mp H
  obtain⟨⟨t195,t196,t197⟩,A80,H⟩:=H
  replace H:(if t197=true then (spec_ForwardStep.j0 k l0 a3 t195 ((t195.length:Int) == 0) a1_0 a1_1 a1_2 a1_3 a1_4 a1_5 a1_6 a1_7 a1_8 a1_9) else (spec_ForwardStep.j0 k l0 a3 t195 true a1_0 a1_1 a1_2 a1_3 a1_4 a1_5 a1_6 a1_7 a1_8 a1_9))=some (r1,r2,r3):=H
  have A8:=Aside0.mk A80
  clear A80
  have HC9:=Aside0.mk H
  clear H
  go_enter Try.func52,Try.ntmps52
  go_upto_region 4 with (first|((with_reducible refine gate_dst (N:=6) rfl ?_);(try (refine gate_guard (by rfl) ?_;dsimp only));refine box_event ?hg (N:=6) ?hd (cs:=#[.int .i64 a1_0,.int .i64 a1_1,.bool a1_2,.int .i64 a1_3,.int .i64 a1_4,.int .i64 a1_5,.int .i64 a1_6,.int .i64 a1_7,.int .i64 a1_8,.string a1_9]) (t:=86) ?hr ?_;(case hd=>rfl);(case hg=>rfl);(case hr=>first|(go_simp;done)|(go_simp;rfl));intro gb193 hg w10 hbox hb;have n0_:=Aside0.mk (below_step (bB) hb);have n1_:=Aside0.mk (hbox);have n2_:=Aside0.mk ((bG:w.heap.size≤gb193));have n3_:=Aside0.mk ((bG:w.heap.size≤gb193));clear HB;have HB:=n0_;have BK193:=n1_;have GW193:=n2_;have GE193:=n3_;clear n0_ n1_ n2_ n3_;clear hb hbox hg;have hcz11_0:w10.cell? ⟨gb193,0,none⟩=some (.int .i64 a1_0):=(blk_cell BK193.out 0).trans rfl;have hcz11_1:w10.cell? ⟨gb193,1,none⟩=some (.int .i64 a1_1):=(blk_cell BK193.out 1).trans rfl;have hcz11_2:w10.cell? ⟨gb193,2,none⟩=some (.bool a1_2):=(blk_cell BK193.out 2).trans rfl;have hcz11_3:w10.cell? ⟨gb193,3,none⟩=some (.int .i64 a1_3):=(blk_cell BK193.out 3).trans rfl;have hcz11_4:w10.cell? ⟨gb193,4,none⟩=some (.int .i64 a1_4):=(blk_cell BK193.out 4).trans rfl;have hcz11_5:w10.cell? ⟨gb193,5,none⟩=some (.int .i64 a1_5):=(blk_cell BK193.out 5).trans rfl;have hcz11_6:w10.cell? ⟨gb193,6,none⟩=some (.int .i64 a1_6):=(blk_cell BK193.out 6).trans rfl;have hcz11_7:w10.cell? ⟨gb193,7,none⟩=some (.int .i64 a1_7):=(blk_cell BK193.out 7).trans rfl;have hcz11_8:w10.cell? ⟨gb193,8,none⟩=some (.int .i64 a1_8):=(blk_cell BK193.out 8).trans rfl;have hcz11_9:w10.cell? ⟨gb193,9,none⟩=some (.string a1_9):=(blk_cell BK193.out 9).trans rfl;have hfz11_0:=blk_frozen BK193.out 0;have hfz11_1:=blk_frozen BK193.out 1;have hfz11_2:=blk_frozen BK193.out 2;have hfz11_3:=blk_frozen BK193.out 3;have hfz11_4:=blk_frozen BK193.out 4;have hfz11_5:=blk_frozen BK193.out 5;have hfz11_6:=blk_frozen BK193.out 6;have hfz11_7:=blk_frozen BK193.out 7;have hfz11_8:=blk_frozen BK193.out 8;have hfz11_9:=blk_frozen BK193.out 9)|((with_reducible refine gate_callee (f:=118) rfl ?_);refine goesA (some 19) rfl rfl Try.func118 #[.slice A0 l0.length c0,.agg #[.int .i64 a1_0,.int .i64 a1_1,.bool a1_2,.int .i64 a1_3,.int .i64 a1_4,.int .i64 a1_5,.int .i64 a1_6,.int .i64 a1_7,.int .i64 a1_8,.string a1_9]] rfl ?_;(with_reducible refine(spec_l17Fits.calls k _ _ l0 a1_0 a1_1 a1_2 a1_3 a1_4 a1_5 a1_6 a1_7 a1_8 a1_9 true _ ?side1 ?side2 A6.out).mono ?_);(case side1=>exact bC HR0.out);(case side2=>exact HC0.out);rintro e w12 ⟨rfl,hb⟩;refine⟨_,rfl,?_⟩;have n0_:=Aside0.mk (blk_below (g:=gb193) (o:=.cells #[.int .i64 a1_0,.int .i64 a1_1,.bool a1_2,.int .i64 a1_3,.int .i64 a1_4,.int .i64 a1_5,.int .i64 a1_6,.int .i64 a1_7,.int .i64 a1_8,.string a1_9] 86 (0,0)) (bL BK193.out) hb);have n1_:=Aside0.mk (below_step (bS GE193.out) hb);clear BK193 HB;have BK193:=n0_;have HB:=n1_;clear n0_ n1_;(try clear hb);(try clear hb2);(try clear hk);(try clear hi))|((with_reducible refine gate_callee (f:=119) rfl ?_);refine goesA (some 26) rfl rfl Try.func119 #[.slice A0 l0.length c0,.int .i64 a2,.int .i64 a3,.int .i64 a4] rfl ?_;(with_reducible refine(spec_RouteTo.calls k _ _ l0 a2 a3 a4 t195 t196 t197 _ ?side1 ?side2 A8.out).mono ?_);(case side1=>exact bC HR0.out);(case side2=>exact HC0.out);rintro e w13 ⟨v198,rfl,ho0,hb⟩;refine⟨_,rfl,?_⟩;have n0_:=Aside0.mk (Kd.R_lower ho0 (below_size (bS GE193.out)));have n1_:=Aside0.mk (blk_below (g:=gb193) (o:=.cells #[.int .i64 a1_0,.int .i64 a1_1,.bool a1_2,.int .i64 a1_3,.int .i64 a1_4,.int .i64 a1_5,.int .i64 a1_6,.int .i64 a1_7,.int .i64 a1_8,.string a1_9] 86 (0,0)) (bL BK193.out) hb);have n2_:=Aside0.mk (below_step (bS GE193.out) hb);clear BK193 HB;have HO199:=n0_;have BK193:=n1_;have HB:=n2_;clear n0_ n1_ n2_;(try clear hb);(try clear hb2);(try clear hk);(try clear hi);(try clear ho0)))
  (try simp only[Act.put,List.setIfInBounds_toArray,List.set_cons_zero,List.set_cons_succ])
  go_cut [36] (fun v36 wc => ∃ (kq:Nat) (x36_8:Bool),v36=.bool x36_8∧Aside0 (spec_ForwardStep.j0 kq l0 a3 t195 x36_8 a1_0 a1_1 a1_2 a1_3 a1_4 a1_5 a1_6 a1_7 a1_8 a1_9=some (r1,r2,r3))∧Aside0 (kq≤k)∧Aside0 (Kd.R (Kd.int .i64) 3 wc w.heap.size (fun _=>True) v198 t195)∧Aside0 (wc.heap[gb193]?=some (.cells #[.int .i64 a1_0,.int .i64 a1_1,.bool a1_2,.int .i64 a1_3,.int .i64 a1_4,.int .i64 a1_5,.int .i64 a1_6,.int .i64 a1_7,.int .i64 a1_8,.string a1_9] 86 (0,0)))∧Aside0 (Below w.heap.size w wc))
  case first =>
   have H:=HC9.out
   clear HC9
   by_cases c14:t197=true
   ·subst c14
    have H1:(spec_ForwardStep.j0 k l0 a3 t195 ((t195.length:Int) == 0) a1_0 a1_1 a1_2 a1_3 a1_4 a1_5 a1_6 a1_7 a1_8 a1_9)=some (r1,r2,r3):=by rw[if_pos rfl] at H;exact H
    clear H
    have H:=H1
    clear H1
    have H':=Aside0.mk H
    clear H
    obtain⟨Ao15,co15,eo15⟩:=Kd.R_slice HO199.out
    subst eo15
    go_wp2
    go_meet
    case rel=>exact⟨_,(((t195.length:Int) == 0)),(bR),H',⟨by first|omega|exact Nat.le_refl _⟩,⟨by(with_reducible repeat (first|apply Kd.R_alloc|apply Kd.R_drewN|apply Kd.R_drew));exact HO199.out⟩,⟨by(with_reducible repeat (first|refine blk_drewN ?_ _|refine blk_drew ?_|refine blk_alloc ?_ _));exact BK193.out⟩,⟨bS GE193.out⟩⟩
   ·replace c14:=Bool.eq_false_iff.mpr c14
    subst c14
    have H1:(spec_ForwardStep.j0 k l0 a3 t195 true a1_0 a1_1 a1_2 a1_3 a1_4 a1_5 a1_6 a1_7 a1_8 a1_9)=some (r1,r2,r3):=by rw[if_neg (show ¬ (false=true) by decide)] at H;exact H
    clear H
    have H:=H1
    clear H1
    have H':=Aside0.mk H
    clear H
    go_wp2
    go_meet
    case rel=>exact⟨_,(true),(bR),H',⟨by first|omega|exact Nat.le_refl _⟩,⟨by(with_reducible repeat (first|apply Kd.R_alloc|apply Kd.R_drewN|apply Kd.R_drew));exact HO199.out⟩,⟨by(with_reducible repeat (first|refine blk_drewN ?_ _|refine blk_drew ?_|refine blk_alloc ?_ _));exact BK193.out⟩,⟨bS GE193.out⟩⟩
  case rest =>
   clear HC9
   try clear c1
   try clear p2
   try clear c5
   try clear c7
   try clear c11
   try clear c14
   try clear hcz11_0
   try clear hcz11_1
   try clear hcz11_2
   try clear hcz11_3
   try clear hcz11_4
   try clear hcz11_5
   try clear hcz11_6
   try clear hcz11_7
   try clear hcz11_8
   try clear hcz11_9
   try clear hfz11_0
   try clear hfz11_1
   try clear hfz11_2
   try clear hfz11_3
   try clear hfz11_4
   try clear hfz11_5
   try clear hfz11_6
   try clear hfz11_7
   try clear hfz11_8
   try clear hfz11_9
   obtain⟨kq,x36_8,rfl,HA,HJ8,HO_13,BK193,HB⟩:=hcut
   cases kq with
   | zero=>exact absurd HA.out (by simp[spec_ForwardStep.j0])
   | succ kj8 =>
    have H:=HA.out
    clear HA
    simp only[spec_ForwardStep.j0] at H
    by_cases c16:x36_8=true
    ·subst c16
     have H1:(some (0,0,false))=some (r1,r2,r3):=by rw[if_pos rfl] at H;exact H
     clear H
     have H:=H1
     clear H1
     simp only[Option.some.injEq,Prod.mk.injEq] at H
     obtain⟨rfl,rfl,rfl⟩:=H
     go_wp2
     go_ret3
     exact⟨bE,bS GE193.out⟩
    ·replace c16:=Bool.eq_false_iff.mpr c16
     subst c16
     have H1:(if 0 < (t195.length:Int) then (if 0≤(rd t195 0) then (if (rd t195 0) < (l0.length:Int) then ((spec_l6Over.f ((rd_T104 l0 (rd t195 0)).f0) ((rd_T104 l0 (rd t195 0)).f1) ((rd_T104 l0 (rd t195 0)).f2) ((rd_T104 l0 (rd t195 0)).f3) ((rd_T104 l0 (rd t195 0)).f4) a3).bind fun t202=>(if t202 > (wrap64 (a1_3+a1_5)) then (some (0,0,false)) else (some (rd t195 0,t202,true)))) else (none)) else (none)) else (none))=some (r1,r2,r3):=by rw[if_neg (show ¬ (false=true) by decide)] at H;exact H
     clear H
     have H:=H1
     clear H1
     by_cases c17:0 < (t195.length:Int)
     ·rw[if_pos c17] at H
      have c17b0:decide (0 < (t195.length:Int))=true:=decide_eq_true c17
      have c17b1:decide (0 < t195.length)=true:=decide_eq_true (by omega)
      clear c17
      by_cases c18:0≤(rd t195 0)
      ·rw[if_pos c18] at H
       have c18b0:decide (0≤(rd t195 0))=true:=decide_eq_true c18
       clear c18
       by_cases c19:(rd t195 0) < (l0.length:Int)
       ·rw[if_pos c19] at H
        have c19b0:decide ((rd t195 0) < (l0.length:Int))=true:=decide_eq_true c19
        clear c19
        replace H:=Option.bind_eq_some_iff.mp H
        obtain⟨t202,A200,H⟩:=H
        replace H:(if t202 > (wrap64 (a1_3+a1_5)) then (some (0,0,false)) else (some (rd t195 0,t202,true)))=some (r1,r2,r3):=H
        have A20:=Aside0.mk A200
        clear A200
        by_cases c21:t202 > (wrap64 (a1_3+a1_5))
        ·rw[if_pos c21] at H
         have c21b0:decide ((wrap64 (a1_3+a1_5)) < t202)=true:=decide_eq_true c21
         clear c21
         simp only[Option.some.injEq,Prod.mk.injEq] at H
         obtain⟨rfl,rfl,rfl⟩:=H
         obtain⟨Ao22,co22,eo22⟩:=Kd.R_slice HO_13.out
         subst eo22
         have p200:0≤(0:Int):=(by omega)
         have q200:0 < (t195.length:Int):=of_decide_eq_true (bD)
         obtain⟨ad200,e200,hx200_0⟩:=Kd.at_int (Kd.R_reads' HO_13.out).2.2 0 p200 q200
         cases e200
         have qi200:(0 < t195.length)=True:=eq_true (by omega)
         (try rw[show((0:Int)).toNat=0 from rfl] at hx200_0)
         (try rw[Addr.add_zero'] at hx200_0)
         replace p200:=eq_true p200
         replace q200:=eq_true q200
         have p201:0≤((rd t195 0):Int):=of_decide_eq_true (bD)
         have q201:(rd t195 0) < (l0.length:Int):=of_decide_eq_true (bD)
         obtain⟨ad201,e201,hx201_0,hx201_1,hx201_2,hx201_3,hx201_4⟩:=at_T104 HR0.out (rd t195 0) p201 q201
         cases e201
         replace hx201_0:=(HB.out.cell (World.block_lt_of_cell? w _ hx201_0)).trans hx201_0
         replace hx201_1:=(HB.out.cell (World.block_lt_of_cell? w _ hx201_1)).trans hx201_1
         replace hx201_2:=(HB.out.cell (World.block_lt_of_cell? w _ hx201_2)).trans hx201_2
         replace hx201_3:=(HB.out.cell (World.block_lt_of_cell? w _ hx201_3)).trans hx201_3
         replace hx201_4:=(HB.out.cell (World.block_lt_of_cell? w _ hx201_4)).trans hx201_4
         replace p201:=eq_true p201
         replace q201:=eq_true q201
         go_wp2_with (first|((with_reducible refine gate_callee (f:=120) rfl ?_);refine goesA (some 44) rfl rfl Try.func120 #[.agg #[.int .i64 ((rd_T104 l0 (rd t195 0)).f0),.int .i64 ((rd_T104 l0 (rd t195 0)).f1),.int .i64 ((rd_T104 l0 (rd t195 0)).f2),.int .i64 ((rd_T104 l0 (rd t195 0)).f3),.int .i64 ((rd_T104 l0 (rd t195 0)).f4)],.int .i64 a3] rfl ?_;(with_reducible refine(spec_l6Over.calls ((rd_T104 l0 (rd t195 0)).f0) ((rd_T104 l0 (rd t195 0)).f1) ((rd_T104 l0 (rd t195 0)).f2) ((rd_T104 l0 (rd t195 0)).f3) ((rd_T104 l0 (rd t195 0)).f4) a3 t202 _ A20.out).mono ?_);rintro e w23 ⟨rfl,hb⟩;refine⟨_,rfl,?_⟩;have n0_:=Aside0.mk (Kd.R_below (bK HO_13.out) hb);have n1_:=Aside0.mk (blk_below (g:=gb193) (o:=.cells #[.int .i64 a1_0,.int .i64 a1_1,.bool a1_2,.int .i64 a1_3,.int .i64 a1_4,.int .i64 a1_5,.int .i64 a1_6,.int .i64 a1_7,.int .i64 a1_8,.string a1_9] 86 (0,0)) (bL BK193.out) hb);have n2_:=Aside0.mk (below_step (bS GE193.out) hb);clear HO_13 BK193 HB;have HO_13:=n0_;have BK193:=n1_;have HB:=n2_;clear n0_ n1_ n2_;(try clear hb);(try clear hb2);(try clear hk);(try clear hi);have hcz24_0:w23.cell? ⟨gb193,0,none⟩=some (.int .i64 a1_0):=(blk_cell BK193.out 0).trans rfl;have hcz24_1:w23.cell? ⟨gb193,1,none⟩=some (.int .i64 a1_1):=(blk_cell BK193.out 1).trans rfl;have hcz24_2:w23.cell? ⟨gb193,2,none⟩=some (.bool a1_2):=(blk_cell BK193.out 2).trans rfl;have hcz24_3:w23.cell? ⟨gb193,3,none⟩=some (.int .i64 a1_3):=(blk_cell BK193.out 3).trans rfl;have hcz24_4:w23.cell? ⟨gb193,4,none⟩=some (.int .i64 a1_4):=(blk_cell BK193.out 4).trans rfl;have hcz24_5:w23.cell? ⟨gb193,5,none⟩=some (.int .i64 a1_5):=(blk_cell BK193.out 5).trans rfl;have hcz24_6:w23.cell? ⟨gb193,6,none⟩=some (.int .i64 a1_6):=(blk_cell BK193.out 6).trans rfl;have hcz24_7:w23.cell? ⟨gb193,7,none⟩=some (.int .i64 a1_7):=(blk_cell BK193.out 7).trans rfl;have hcz24_8:w23.cell? ⟨gb193,8,none⟩=some (.int .i64 a1_8):=(blk_cell BK193.out 8).trans rfl;have hcz24_9:w23.cell? ⟨gb193,9,none⟩=some (.string a1_9):=(blk_cell BK193.out 9).trans rfl;have hfz24_0:=blk_frozen BK193.out 0;have hfz24_1:=blk_frozen BK193.out 1;have hfz24_2:=blk_frozen BK193.out 2;have hfz24_3:=blk_frozen BK193.out 3;have hfz24_4:=blk_frozen BK193.out 4;have hfz24_5:=blk_frozen BK193.out 5;have hfz24_6:=blk_frozen BK193.out 6;have hfz24_7:=blk_frozen BK193.out 7;have hfz24_8:=blk_frozen BK193.out 8;have hfz24_9:=blk_frozen BK193.out 9))
         go_ret3
         exact⟨bE,bS GE193.out⟩
        ·rw[if_neg c21] at H
         have c21b0:decide ((wrap64 (a1_3+a1_5)) < t202)=false:=decide_eq_false c21
         clear c21
         simp only[Option.some.injEq,Prod.mk.injEq] at H
         obtain⟨rfl,rfl,rfl⟩:=H
         obtain⟨Ao25,co25,eo25⟩:=Kd.R_slice HO_13.out
         subst eo25
         have p200:0≤(0:Int):=(by omega)
         have q200:0 < (t195.length:Int):=of_decide_eq_true (bD)
         obtain⟨ad200,e200,hx200_0⟩:=Kd.at_int (Kd.R_reads' HO_13.out).2.2 0 p200 q200
         cases e200
         have qi200:(0 < t195.length)=True:=eq_true (by omega)
         (try rw[show((0:Int)).toNat=0 from rfl] at hx200_0)
         (try rw[Addr.add_zero'] at hx200_0)
         replace p200:=eq_true p200
         replace q200:=eq_true q200
         have p201:0≤((rd t195 0):Int):=of_decide_eq_true (bD)
         have q201:(rd t195 0) < (l0.length:Int):=of_decide_eq_true (bD)
         obtain⟨ad201,e201,hx201_0,hx201_1,hx201_2,hx201_3,hx201_4⟩:=at_T104 HR0.out (rd t195 0) p201 q201
         cases e201
         replace hx201_0:=(HB.out.cell (World.block_lt_of_cell? w _ hx201_0)).trans hx201_0
         replace hx201_1:=(HB.out.cell (World.block_lt_of_cell? w _ hx201_1)).trans hx201_1
         replace hx201_2:=(HB.out.cell (World.block_lt_of_cell? w _ hx201_2)).trans hx201_2
         replace hx201_3:=(HB.out.cell (World.block_lt_of_cell? w _ hx201_3)).trans hx201_3
         replace hx201_4:=(HB.out.cell (World.block_lt_of_cell? w _ hx201_4)).trans hx201_4
         replace p201:=eq_true p201
         replace q201:=eq_true q201
         go_wp2_with (first|((with_reducible refine gate_callee (f:=120) rfl ?_);refine goesA (some 44) rfl rfl Try.func120 #[.agg #[.int .i64 ((rd_T104 l0 (rd t195 0)).f0),.int .i64 ((rd_T104 l0 (rd t195 0)).f1),.int .i64 ((rd_T104 l0 (rd t195 0)).f2),.int .i64 ((rd_T104 l0 (rd t195 0)).f3),.int .i64 ((rd_T104 l0 (rd t195 0)).f4)],.int .i64 a3] rfl ?_;(with_reducible refine(spec_l6Over.calls ((rd_T104 l0 (rd t195 0)).f0) ((rd_T104 l0 (rd t195 0)).f1) ((rd_T104 l0 (rd t195 0)).f2) ((rd_T104 l0 (rd t195 0)).f3) ((rd_T104 l0 (rd t195 0)).f4) a3 t202 _ A20.out).mono ?_);rintro e w26 ⟨rfl,hb⟩;refine⟨_,rfl,?_⟩;have n0_:=Aside0.mk (Kd.R_below (bK HO_13.out) hb);have n1_:=Aside0.mk (blk_below (g:=gb193) (o:=.cells #[.int .i64 a1_0,.int .i64 a1_1,.bool a1_2,.int .i64 a1_3,.int .i64 a1_4,.int .i64 a1_5,.int .i64 a1_6,.int .i64 a1_7,.int .i64 a1_8,.string a1_9] 86 (0,0)) (bL BK193.out) hb);have n2_:=Aside0.mk (below_step (bS GE193.out) hb);clear HO_13 BK193 HB;have HO_13:=n0_;have BK193:=n1_;have HB:=n2_;clear n0_ n1_ n2_;(try clear hb);(try clear hb2);(try clear hk);(try clear hi);have hcz27_0:w26.cell? ⟨gb193,0,none⟩=some (.int .i64 a1_0):=(blk_cell BK193.out 0).trans rfl;have hcz27_1:w26.cell? ⟨gb193,1,none⟩=some (.int .i64 a1_1):=(blk_cell BK193.out 1).trans rfl;have hcz27_2:w26.cell? ⟨gb193,2,none⟩=some (.bool a1_2):=(blk_cell BK193.out 2).trans rfl;have hcz27_3:w26.cell? ⟨gb193,3,none⟩=some (.int .i64 a1_3):=(blk_cell BK193.out 3).trans rfl;have hcz27_4:w26.cell? ⟨gb193,4,none⟩=some (.int .i64 a1_4):=(blk_cell BK193.out 4).trans rfl;have hcz27_5:w26.cell? ⟨gb193,5,none⟩=some (.int .i64 a1_5):=(blk_cell BK193.out 5).trans rfl;have hcz27_6:w26.cell? ⟨gb193,6,none⟩=some (.int .i64 a1_6):=(blk_cell BK193.out 6).trans rfl;have hcz27_7:w26.cell? ⟨gb193,7,none⟩=some (.int .i64 a1_7):=(blk_cell BK193.out 7).trans rfl;have hcz27_8:w26.cell? ⟨gb193,8,none⟩=some (.int .i64 a1_8):=(blk_cell BK193.out 8).trans rfl;have hcz27_9:w26.cell? ⟨gb193,9,none⟩=some (.string a1_9):=(blk_cell BK193.out 9).trans rfl;have hfz27_0:=blk_frozen BK193.out 0;have hfz27_1:=blk_frozen BK193.out 1;have hfz27_2:=blk_frozen BK193.out 2;have hfz27_3:=blk_frozen BK193.out 3;have hfz27_4:=blk_frozen BK193.out 4;have hfz27_5:=blk_frozen BK193.out 5;have hfz27_6:=blk_frozen BK193.out 6;have hfz27_7:=blk_frozen BK193.out 7;have hfz27_8:=blk_frozen BK193.out 8;have hfz27_9:=blk_frozen BK193.out 9;have p203:0≤(0:Int):=(by omega);have q203:0 < (t195.length:Int):=of_decide_eq_true (bD);obtain⟨ad203,e203,hx203_0⟩:=Kd.at_int (Kd.R_reads' HO_13.out).2.2 0 p203 q203;obtain rfl:ad200=ad203:=(by injection e203);have qi203:(0 < t195.length)=True:=eq_true (by omega);(try rw[show((0:Int)).toNat=0 from rfl] at hx203_0);(try rw[Addr.add_zero'] at hx203_0);replace p203:=eq_true p203;replace q203:=eq_true q203))
         go_ret3
         exact⟨bE,bS GE193.out⟩
       ·rw[if_neg c19] at H
        exact absurd H (by simp)
      ·rw[if_neg c18] at H
       exact absurd H (by simp)
     ·rw[if_neg c17] at H
      exact absurd H (by simp)
 ·replace c7:=Bool.eq_false_iff.mpr c7
  subst c7
  have H1:(some (0,0,false))=some (r1,r2,r3):=by rw[if_neg (show ¬ (false=true) by decide)] at H;exact H
  clear H
  have H:=H1
  clear H1
  simp only[Option.some.injEq,Prod.mk.injEq] at H
  obtain⟨rfl,rfl,rfl⟩:=H
  go_enter Try.func52,Try.ntmps52
  go_wp2_with (first|((with_reducible refine gate_dst (N:=6) rfl ?_);(try (refine gate_guard (by rfl) ?_;dsimp only));refine box_event ?hg (N:=6) ?hd (cs:=#[.int .i64 a1_0,.int .i64 a1_1,.bool a1_2,.int .i64 a1_3,.int .i64 a1_4,.int .i64 a1_5,.int .i64 a1_6,.int .i64 a1_7,.int .i64 a1_8,.string a1_9]) (t:=86) ?hr ?_;(case hd=>rfl);(case hg=>rfl);(case hr=>first|(go_simp;done)|(go_simp;rfl));intro gb193 hg w28 hbox hb;have n0_:=Aside0.mk (below_step (bB) hb);have n1_:=Aside0.mk (hbox);have n2_:=Aside0.mk ((bG:w.heap.size≤gb193));have n3_:=Aside0.mk ((bG:w.heap.size≤gb193));clear HB;have HB:=n0_;have BK193:=n1_;have GW193:=n2_;have GE193:=n3_;clear n0_ n1_ n2_ n3_;clear hb hbox hg;have hcz29_0:w28.cell? ⟨gb193,0,none⟩=some (.int .i64 a1_0):=(blk_cell BK193.out 0).trans rfl;have hcz29_1:w28.cell? ⟨gb193,1,none⟩=some (.int .i64 a1_1):=(blk_cell BK193.out 1).trans rfl;have hcz29_2:w28.cell? ⟨gb193,2,none⟩=some (.bool a1_2):=(blk_cell BK193.out 2).trans rfl;have hcz29_3:w28.cell? ⟨gb193,3,none⟩=some (.int .i64 a1_3):=(blk_cell BK193.out 3).trans rfl;have hcz29_4:w28.cell? ⟨gb193,4,none⟩=some (.int .i64 a1_4):=(blk_cell BK193.out 4).trans rfl;have hcz29_5:w28.cell? ⟨gb193,5,none⟩=some (.int .i64 a1_5):=(blk_cell BK193.out 5).trans rfl;have hcz29_6:w28.cell? ⟨gb193,6,none⟩=some (.int .i64 a1_6):=(blk_cell BK193.out 6).trans rfl;have hcz29_7:w28.cell? ⟨gb193,7,none⟩=some (.int .i64 a1_7):=(blk_cell BK193.out 7).trans rfl;have hcz29_8:w28.cell? ⟨gb193,8,none⟩=some (.int .i64 a1_8):=(blk_cell BK193.out 8).trans rfl;have hcz29_9:w28.cell? ⟨gb193,9,none⟩=some (.string a1_9):=(blk_cell BK193.out 9).trans rfl;have hfz29_0:=blk_frozen BK193.out 0;have hfz29_1:=blk_frozen BK193.out 1;have hfz29_2:=blk_frozen BK193.out 2;have hfz29_3:=blk_frozen BK193.out 3;have hfz29_4:=blk_frozen BK193.out 4;have hfz29_5:=blk_frozen BK193.out 5;have hfz29_6:=blk_frozen BK193.out 6;have hfz29_7:=blk_frozen BK193.out 7;have hfz29_8:=blk_frozen BK193.out 8;have hfz29_9:=blk_frozen BK193.out 9)|((with_reducible refine gate_callee (f:=118) rfl ?_);refine goesA (some 19) rfl rfl Try.func118 #[.slice A0 l0.length c0,.agg #[.int .i64 a1_0,.int .i64 a1_1,.bool a1_2,.int .i64 a1_3,.int .i64 a1_4,.int .i64 a1_5,.int .i64 a1_6,.int .i64 a1_7,.int .i64 a1_8,.string a1_9]] rfl ?_;(with_reducible refine(spec_l17Fits.calls k _ _ l0 a1_0 a1_1 a1_2 a1_3 a1_4 a1_5 a1_6 a1_7 a1_8 a1_9 false _ ?side1 ?side2 A6.out).mono ?_);(case side1=>exact bC HR0.out);(case side2=>exact HC0.out);rintro e w30 ⟨rfl,hb⟩;refine⟨_,rfl,?_⟩;have n0_:=Aside0.mk (blk_below (g:=gb193) (o:=.cells #[.int .i64 a1_0,.int .i64 a1_1,.bool a1_2,.int .i64 a1_3,.int .i64 a1_4,.int .i64 a1_5,.int .i64 a1_6,.int .i64 a1_7,.int .i64 a1_8,.string a1_9] 86 (0,0)) (bL BK193.out) hb);have n1_:=Aside0.mk (below_step (bS GE193.out) hb);clear BK193 HB;have BK193:=n0_;have HB:=n1_;clear n0_ n1_;(try clear hb);(try clear hb2);(try clear hk);(try clear hi)))
  go_ret3
  exact⟨bE,bS GE193.out⟩

end Go.Proofs.Yteneeohaoplpbaa.XFnExactFollowPlan
