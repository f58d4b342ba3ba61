-- Written by this session's own program (wip/xprint.py) out of the translation; Lean checks it.
import Derived.Test.YteneeohaoplpbaaXFnExactDeliveredByx0
import Derived.Test.YteneeohaoplpbaaXFnExactDeliveredByx2
import Derived.Test.YteneeohaoplpbaaXFnExactDeliveredByx3
import Derived.Test.YteneeohaoplpbaaXFnExactDeliveredByx4
namespace Go.Proofs.Yteneeohaoplpbaa.XFnExactDeliveredBy
open Go.RowKit Go.Proofs.YteneeohaoplpbaaW.PrintWords Go.Proofs.YteneeohaoplpbaaW.PrintLast Go.Proofs.YteneeohaoplpbaaW.PrintMore
attribute [local go_sem] max2_int min2_int max_two min_two max_three min_three max_four min_four   -- for this text's walks alone
set_option linter.unusedVariables false
set_option linter.unusedSimpArgs false

/-! ### spec_RouteTo: function 119 -/
mutual
def spec_RouteTo.j0:Nat→List (S104)→Int→Int→Int→Bool→Option (List Int × Int × Bool)
 | 0,_,_,_,_,_=>none
 | k+1,x0,x1,x2,x3,x32=>if x32=true then (some (([]:List Int),0,false)) else ((spec_l6Search.f k x0 x1 x2).bind fun bt186=>(if 0≤x3 then (if x3 < (bt186.1.length:Int) then (if (rd bt186.1 x3) < 0 then (some (([]:List Int),0,false)) else (spec_RouteTo.l0 k x0 x1 x3 bt186.1 bt186.2 ([]:List Int) x3)) else (none)) else (none)))
def spec_RouteTo.l0:Nat→List (S104)→Int→Int→List Int→List Int→List Int→Int→Option (List Int × Int × Bool)
 | 0,_,_,_,_,_,_,_=>none
 | k+1,x0,x1,x3,x11,x12,x13,x14=>if x14=x1 then (if 0≤x3 then (if x3 < (x11.length:Int) then (some (x13,rd x11 x3,true)) else (none)) else (none)) else (if 0≤x14 then (if x14 < (x12.length:Int) then ((some (([rd x12 x14]:List Int):List Int)).bind fun y195=>(if y195.length+x13.length < 17592186044416 then (if 0≤(rd x12 x14) then (if (rd x12 x14) < (x0.length:Int) then (spec_RouteTo.l0 k x0 x1 x3 x11 x12 (y195++x13) ((rd_T104 x0 (rd x12 x14)).f0)) else (none)) else (none)) else (none))) else (none)) else (none))
end
def spec_RouteTo.f (k:Nat) (l0:List (S104)) (a1:Int) (a2:Int) (a3:Int):Option (List Int × Int × Bool):=(spec_GoodPlan.f k l0).bind fun t182=>(if t182=true then ((spec_l6Node.f a1).bind fun t183=>(if t183=true then ((spec_l6When.f a2).bind fun t184=>(if t184=true then ((spec_l6Node.f a3).bind fun t185=>(spec_RouteTo.j0 k l0 a1 a2 a3 (!t185))) else (spec_RouteTo.j0 k l0 a1 a2 a3 true))) else (spec_RouteTo.j0 k l0 a1 a2 a3 true))) else (spec_RouteTo.j0 k l0 a1 a2 a3 true))
theorem spec_RouteTo.mono_l : ∀ k,(∀ y0 y1 y2 y3 y4,LeO (spec_RouteTo.j0 k y0 y1 y2 y3 y4) (spec_RouteTo.j0 (k+1) y0 y1 y2 y3 y4))∧(∀ y0 y1 y2 y3 y4 y5 y6,LeO (spec_RouteTo.l0 k y0 y1 y2 y3 y4 y5 y6) (spec_RouteTo.l0 (k+1) y0 y1 y2 y3 y4 y5 y6))
 | 0=>⟨fun _ _ _ _ _ r h=>by simp[spec_RouteTo.j0] at h,fun _ _ _ _ _ _ _ r h=>by simp[spec_RouteTo.l0] at h⟩
 | k+1=>by
  obtain⟨ih0,ih1⟩:=spec_RouteTo.mono_l k
  refine⟨?_,?_⟩
  ·intro y0 y1 y2 y3 y4
   unfold spec_RouteTo.j0
   repeat' first
   | (with_reducible exact ih0 _ _ _ _ _)
   | (with_reducible exact ih1 _ _ _ _ _ _ _)
   | (with_reducible exact spec_GoodPlan.mono _ _)
   | (with_reducible exact spec_l6Search.mono _ _ _ _)
   | (with_reducible exact LeO.refl _)
   | (with_reducible exact LeO.none _)
   | (with_reducible refine LeO.ite ?_ ?_)
   | (with_reducible refine LeO.bind ?_ (fun _ => ?_))
   | exact ih0 _ _ _ _ _
   | exact ih1 _ _ _ _ _ _ _
   | exact spec_GoodPlan.mono _ _
   | exact spec_l6Search.mono _ _ _ _
   | exact LeO.none _
   | refine LeO.ite ?_ ?_
   | refine LeO.bind ?_ (fun _ => ?_)
  ·intro y0 y1 y2 y3 y4 y5 y6
   unfold spec_RouteTo.l0
   repeat' first
   | (with_reducible exact ih0 _ _ _ _ _)
   | (with_reducible exact ih1 _ _ _ _ _ _ _)
   | (with_reducible exact spec_GoodPlan.mono _ _)
   | (with_reducible exact spec_l6Search.mono _ _ _ _)
   | (with_reducible exact LeO.refl _)
   | (with_reducible exact LeO.none _)
   | (with_reducible refine LeO.ite ?_ ?_)
   | (with_reducible refine LeO.bind ?_ (fun _ => ?_))
   | exact ih0 _ _ _ _ _
   | exact ih1 _ _ _ _ _ _ _
   | exact spec_GoodPlan.mono _ _
   | exact spec_l6Search.mono _ _ _ _
   | exact LeO.none _
   | refine LeO.ite ?_ ?_
   | refine LeO.bind ?_ (fun _ => ?_)
theorem spec_RouteTo.mono : ∀ a0 a1 a2 a3 k,LeO (spec_RouteTo.f k a0 a1 a2 a3) (spec_RouteTo.f (k+1) a0 a1 a2 a3):=by
 intro a0 a1 a2 a3 k
 obtain⟨ih0,ih1⟩:=spec_RouteTo.mono_l k
 unfold spec_RouteTo.f
 repeat' first
  | (with_reducible exact ih0 _ _ _ _ _)
  | (with_reducible exact ih1 _ _ _ _ _ _ _)
  | (with_reducible exact spec_GoodPlan.mono _ _)
  | (with_reducible exact spec_l6Search.mono _ _ _ _)
  | (with_reducible exact LeO.refl _)
  | (with_reducible exact LeO.none _)
  | (with_reducible refine LeO.ite ?_ ?_)
  | (with_reducible refine LeO.bind ?_ (fun _ => ?_))
  | exact ih0 _ _ _ _ _
  | exact ih1 _ _ _ _ _ _ _
  | exact spec_GoodPlan.mono _ _
  | exact spec_l6Search.mono _ _ _ _
  | exact LeO.none _
  | refine LeO.ite ?_ ?_
  | refine LeO.bind ?_ (fun _ => ?_)
set_option maxHeartbeats 8000000 in
set_option maxRecDepth 100000 in
theorem spec_RouteTo.calls (k:Nat) (A0:Option Addr) (c0:Nat) (l0:List (S104)) (a1:Int) (a2:Int) (a3:Int) (r1:List Int) (r2:Int) (r3:Bool) (w:World) (hr0:Kd.C k104 w A0 l0.length l0) (hc0:l0.length≤c0) (h:spec_RouteTo.f k l0 a1 a2 a3=some (r1,r2,r3)) :
  Calls Try.prog 119 #[.slice A0 l0.length c0,.int .i64 a1,.int .i64 a2,.int .i64 a3] w fun e w' => ∃ v0_:Value,e=.returned (.tuple #[v0_,.int .i64 r2,.bool r3])∧Kd.R (Kd.int .i64) 3 w' w.heap.size (fun _=>True) v0_ r1∧Below w.heap.size w w':=by
 have HR0:=Aside0.mk hr0
 have HC0:=Aside0.mk hc0
 clear hr0 hc0
 have HB:=Aside0.mk (Below.refl w.heap.size w)
 have H:((spec_GoodPlan.f k l0).bind fun t182=>(if t182=true then ((spec_l6Node.f a1).bind fun t183=>(if t183=true then ((spec_l6When.f a2).bind fun t184=>(if t184=true then ((spec_l6Node.f a3).bind fun t185=>(spec_RouteTo.j0 k l0 a1 a2 a3 (!t185))) else (spec_RouteTo.j0 k l0 a1 a2 a3 true))) else (spec_RouteTo.j0 k l0 a1 a2 a3 true))) else (spec_RouteTo.j0 k l0 a1 a2 a3 true)))=some (r1,r2,r3):=h
 clear h
 have HC5:=Aside0.mk H
 clear H
 go_enter Try.func119,Try.ntmps119
 go_upto_region 1 with (fail)
 repeat (go_quiet (fail);go_upto_region 1 with (fail))
 go_cut [32] (fun v32 wc => ∃ (kq:Nat) (x32_4:Bool),v32=.bool x32_4∧Aside0 (spec_RouteTo.j0 kq l0 a1 a2 a3 x32_4=some (r1,r2,r3))∧Aside0 (kq≤k)∧Aside0 (Below w.heap.size w wc))
 case first =>
  have H:=HC5.out
  clear HC5
  replace H:=Option.bind_eq_some_iff.mp H
  obtain⟨t182,A60,H⟩:=H
  replace H:(if t182=true then ((spec_l6Node.f a1).bind fun t183=>(if t183=true then ((spec_l6When.f a2).bind fun t184=>(if t184=true then ((spec_l6Node.f a3).bind fun t185=>(spec_RouteTo.j0 k l0 a1 a2 a3 (!t185))) else (spec_RouteTo.j0 k l0 a1 a2 a3 true))) else (spec_RouteTo.j0 k l0 a1 a2 a3 true))) else (spec_RouteTo.j0 k l0 a1 a2 a3 true))=some (r1,r2,r3):=H
  have A6:=Aside0.mk A60
  clear A60
  by_cases c7:t182=true
  ·subst c7
   have H1:((spec_l6Node.f a1).bind fun t183=>(if t183=true then ((spec_l6When.f a2).bind fun t184=>(if t184=true then ((spec_l6Node.f a3).bind fun t185=>(spec_RouteTo.j0 k l0 a1 a2 a3 (!t185))) else (spec_RouteTo.j0 k l0 a1 a2 a3 true))) else (spec_RouteTo.j0 k l0 a1 a2 a3 true)))=some (r1,r2,r3):=by rw[if_pos rfl] at H;exact H
   clear H
   have H:=H1
   clear H1
   replace H:=Option.bind_eq_some_iff.mp H
   obtain⟨t183,A80,H⟩:=H
   replace H:(if t183=true then ((spec_l6When.f a2).bind fun t184=>(if t184=true then ((spec_l6Node.f a3).bind fun t185=>(spec_RouteTo.j0 k l0 a1 a2 a3 (!t185))) else (spec_RouteTo.j0 k l0 a1 a2 a3 true))) else (spec_RouteTo.j0 k l0 a1 a2 a3 true))=some (r1,r2,r3):=H
   have A8:=Aside0.mk A80
   clear A80
   by_cases c9:t183=true
   ·subst c9
    have H1:((spec_l6When.f a2).bind fun t184=>(if t184=true then ((spec_l6Node.f a3).bind fun t185=>(spec_RouteTo.j0 k l0 a1 a2 a3 (!t185))) else (spec_RouteTo.j0 k l0 a1 a2 a3 true)))=some (r1,r2,r3):=by rw[if_pos rfl] at H;exact H
    clear H
    have H:=H1
    clear H1
    replace H:=Option.bind_eq_some_iff.mp H
    obtain⟨t184,A100,H⟩:=H
    replace H:(if t184=true then ((spec_l6Node.f a3).bind fun t185=>(spec_RouteTo.j0 k l0 a1 a2 a3 (!t185))) else (spec_RouteTo.j0 k l0 a1 a2 a3 true))=some (r1,r2,r3):=H
    have A10:=Aside0.mk A100
    clear A100
    by_cases c11:t184=true
    ·subst c11
     have H1:((spec_l6Node.f a3).bind fun t185=>(spec_RouteTo.j0 k l0 a1 a2 a3 (!t185)))=some (r1,r2,r3):=by rw[if_pos rfl] at H;exact H
     clear H
     have H:=H1
     clear H1
     replace H:=Option.bind_eq_some_iff.mp H
     obtain⟨t185,A120,H⟩:=H
     replace H:(spec_RouteTo.j0 k l0 a1 a2 a3 (!t185))=some (r1,r2,r3):=H
     have A12:=Aside0.mk A120
     clear A120
     have H':=Aside0.mk H
     clear H
     go_wp2_with (first|(go_at_call 84;(with_reducible refine(spec_GoodPlan.calls k _ _ l0 true _ ?side1 ?side2 A6.out).mono ?_);(case side1=>exact bC HR0.out);(case side2=>exact HC0.out);rintro e w13 ⟨rfl,hb⟩;have n0_:=Aside0.mk (below_step (bB) hb);clear HB;have HB:=n0_;clear n0_;(try clear hb);(try clear hb2);(try clear hk);(try clear hi))|(go_at_call 85;(with_reducible refine(spec_l6Node.calls a1 true _ A8.out).mono ?_);rintro e w' ⟨rfl,⟨nd,rfl⟩⟩;(try first|exact⟨rfl,_,World.drewN_drewN _ _ _⟩|exact⟨rfl,_,Eq.trans (World.drewN_drewN _ _ _) (congrArg (World.drewN _) (Nat.add_assoc _ _ _))⟩))|(go_at_call 86;(with_reducible refine(spec_l6When.calls a2 true _ A10.out).mono ?_);rintro e w' ⟨rfl,⟨nd,rfl⟩⟩;(try first|exact⟨rfl,_,World.drewN_drewN _ _ _⟩|exact⟨rfl,_,Eq.trans (World.drewN_drewN _ _ _) (congrArg (World.drewN _) (Nat.add_assoc _ _ _))⟩))|(go_at_call 85;(with_reducible refine(spec_l6Node.calls a3 t185 _ A12.out).mono ?_);rintro e w' ⟨rfl,⟨nd,rfl⟩⟩;(try first|exact⟨rfl,_,World.drewN_drewN _ _ _⟩|exact⟨rfl,_,Eq.trans (World.drewN_drewN _ _ _) (congrArg (World.drewN _) (Nat.add_assoc _ _ _))⟩)))
     repeat (go_quiet (first|(go_at_call 84;(with_reducible refine(spec_GoodPlan.calls k _ _ l0 true _ ?side1 ?side2 A6.out).mono ?_);(case side1=>exact bC HR0.out);(case side2=>exact HC0.out);rintro e w13 ⟨rfl,hb⟩;have n0_:=Aside0.mk (below_step (bB) hb);clear HB;have HB:=n0_;clear n0_;(try clear hb);(try clear hb2);(try clear hk);(try clear hi))|(go_at_call 85;(with_reducible refine(spec_l6Node.calls a1 true _ A8.out).mono ?_);rintro e w' ⟨rfl,⟨nd,rfl⟩⟩;(try first|exact⟨rfl,_,World.drewN_drewN _ _ _⟩|exact⟨rfl,_,Eq.trans (World.drewN_drewN _ _ _) (congrArg (World.drewN _) (Nat.add_assoc _ _ _))⟩))|(go_at_call 86;(with_reducible refine(spec_l6When.calls a2 true _ A10.out).mono ?_);rintro e w' ⟨rfl,⟨nd,rfl⟩⟩;(try first|exact⟨rfl,_,World.drewN_drewN _ _ _⟩|exact⟨rfl,_,Eq.trans (World.drewN_drewN _ _ _) (congrArg (World.drewN _) (Nat.add_assoc _ _ _))⟩))|(go_at_call 85;(with_reducible refine(spec_l6Node.calls a3 t185 _ A12.out).mono ?_);rintro e w' ⟨rfl,⟨nd,rfl⟩⟩;(try first|exact⟨rfl,_,World.drewN_drewN _ _ _⟩|exact⟨rfl,_,Eq.trans (World.drewN_drewN _ _ _) (congrArg (World.drewN _) (Nat.add_assoc _ _ _))⟩)));try go_wp2_with (first|(go_at_call 84;(with_reducible refine(spec_GoodPlan.calls k _ _ l0 true _ ?side1 ?side2 A6.out).mono ?_);(case side1=>exact bC HR0.out);(case side2=>exact HC0.out);rintro e w13 ⟨rfl,hb⟩;have n0_:=Aside0.mk (below_step (bB) hb);clear HB;have HB:=n0_;clear n0_;(try clear hb);(try clear hb2);(try clear hk);(try clear hi))|(go_at_call 85;(with_reducible refine(spec_l6Node.calls a1 true _ A8.out).mono ?_);rintro e w' ⟨rfl,⟨nd,rfl⟩⟩;(try first|exact⟨rfl,_,World.drewN_drewN _ _ _⟩|exact⟨rfl,_,Eq.trans (World.drewN_drewN _ _ _) (congrArg (World.drewN _) (Nat.add_assoc _ _ _))⟩))|(go_at_call 86;(with_reducible refine(spec_l6When.calls a2 true _ A10.out).mono ?_);rintro e w' ⟨rfl,⟨nd,rfl⟩⟩;(try first|exact⟨rfl,_,World.drewN_drewN _ _ _⟩|exact⟨rfl,_,Eq.trans (World.drewN_drewN _ _ _) (congrArg (World.drewN _) (Nat.add_assoc _ _ _))⟩))|(go_at_call 85;(with_reducible refine(spec_l6Node.calls a3 t185 _ A12.out).mono ?_);rintro e w' ⟨rfl,⟨nd,rfl⟩⟩;(try first|exact⟨rfl,_,World.drewN_drewN _ _ _⟩|exact⟨rfl,_,Eq.trans (World.drewN_drewN _ _ _) (congrArg (World.drewN _) (Nat.add_assoc _ _ _))⟩))))
     go_meet
     case rel=>exact⟨_,(!t185),(bR),H',⟨by first|omega|exact Nat.le_refl _⟩,⟨by repeat (first|(with_reducible first|exact HB.out|apply below_alloc|apply pw_below_drewN|apply below_drew1)|exact HB.out)⟩⟩
    ·replace c11:=Bool.eq_false_iff.mpr c11
     subst c11
     have H1:(spec_RouteTo.j0 k l0 a1 a2 a3 true)=some (r1,r2,r3):=by rw[if_neg (show ¬ (false=true) by decide)] at H;exact H
     clear H
     have H:=H1
     clear H1
     have H':=Aside0.mk H
     clear H
     go_wp2_with (first|(go_at_call 84;(with_reducible refine(spec_GoodPlan.calls k _ _ l0 true _ ?side1 ?side2 A6.out).mono ?_);(case side1=>exact bC HR0.out);(case side2=>exact HC0.out);rintro e w14 ⟨rfl,hb⟩;have n0_:=Aside0.mk (below_step (bB) hb);clear HB;have HB:=n0_;clear n0_;(try clear hb);(try clear hb2);(try clear hk);(try clear hi))|(go_at_call 85;(with_reducible refine(spec_l6Node.calls a1 true _ A8.out).mono ?_);rintro e w' ⟨rfl,⟨nd,rfl⟩⟩;(try first|exact⟨rfl,_,World.drewN_drewN _ _ _⟩|exact⟨rfl,_,Eq.trans (World.drewN_drewN _ _ _) (congrArg (World.drewN _) (Nat.add_assoc _ _ _))⟩))|(go_at_call 86;(with_reducible refine(spec_l6When.calls a2 false _ A10.out).mono ?_);rintro e w' ⟨rfl,⟨nd,rfl⟩⟩;(try first|exact⟨rfl,_,World.drewN_drewN _ _ _⟩|exact⟨rfl,_,Eq.trans (World.drewN_drewN _ _ _) (congrArg (World.drewN _) (Nat.add_assoc _ _ _))⟩)))
     repeat (go_quiet (first|(go_at_call 84;(with_reducible refine(spec_GoodPlan.calls k _ _ l0 true _ ?side1 ?side2 A6.out).mono ?_);(case side1=>exact bC HR0.out);(case side2=>exact HC0.out);rintro e w14 ⟨rfl,hb⟩;have n0_:=Aside0.mk (below_step (bB) hb);clear HB;have HB:=n0_;clear n0_;(try clear hb);(try clear hb2);(try clear hk);(try clear hi))|(go_at_call 85;(with_reducible refine(spec_l6Node.calls a1 true _ A8.out).mono ?_);rintro e w' ⟨rfl,⟨nd,rfl⟩⟩;(try first|exact⟨rfl,_,World.drewN_drewN _ _ _⟩|exact⟨rfl,_,Eq.trans (World.drewN_drewN _ _ _) (congrArg (World.drewN _) (Nat.add_assoc _ _ _))⟩))|(go_at_call 86;(with_reducible refine(spec_l6When.calls a2 false _ A10.out).mono ?_);rintro e w' ⟨rfl,⟨nd,rfl⟩⟩;(try first|exact⟨rfl,_,World.drewN_drewN _ _ _⟩|exact⟨rfl,_,Eq.trans (World.drewN_drewN _ _ _) (congrArg (World.drewN _) (Nat.add_assoc _ _ _))⟩)));try go_wp2_with (first|(go_at_call 84;(with_reducible refine(spec_GoodPlan.calls k _ _ l0 true _ ?side1 ?side2 A6.out).mono ?_);(case side1=>exact bC HR0.out);(case side2=>exact HC0.out);rintro e w14 ⟨rfl,hb⟩;have n0_:=Aside0.mk (below_step (bB) hb);clear HB;have HB:=n0_;clear n0_;(try clear hb);(try clear hb2);(try clear hk);(try clear hi))|(go_at_call 85;(with_reducible refine(spec_l6Node.calls a1 true _ A8.out).mono ?_);rintro e w' ⟨rfl,⟨nd,rfl⟩⟩;(try first|exact⟨rfl,_,World.drewN_drewN _ _ _⟩|exact⟨rfl,_,Eq.trans (World.drewN_drewN _ _ _) (congrArg (World.drewN _) (Nat.add_assoc _ _ _))⟩))|(go_at_call 86;(with_reducible refine(spec_l6When.calls a2 false _ A10.out).mono ?_);rintro e w' ⟨rfl,⟨nd,rfl⟩⟩;(try first|exact⟨rfl,_,World.drewN_drewN _ _ _⟩|exact⟨rfl,_,Eq.trans (World.drewN_drewN _ _ _) (congrArg (World.drewN _) (Nat.add_assoc _ _ _))⟩))))
     go_meet
     case rel=>exact⟨_,(true),(bR),H',⟨by first|omega|exact Nat.le_refl _⟩,⟨by repeat (first|(with_reducible first|exact HB.out|apply below_alloc|apply pw_below_drewN|apply below_drew1)|exact HB.out)⟩⟩
   ·replace c9:=Bool.eq_false_iff.mpr c9
    subst c9
    have H1:(spec_RouteTo.j0 k l0 a1 a2 a3 true)=some (r1,r2,r3):=by rw[if_neg (show ¬ (false=true) by decide)] at H;exact H
    clear H
    have H:=H1
    clear H1
    have H':=Aside0.mk H
    clear H
    go_wp2_with (first|(go_at_call 84;(with_reducible refine(spec_GoodPlan.calls k _ _ l0 true _ ?side1 ?side2 A6.out).mono ?_);(case side1=>exact bC HR0.out);(case side2=>exact HC0.out);rintro e w15 ⟨rfl,hb⟩;have n0_:=Aside0.mk (below_step (bB) hb);clear HB;have HB:=n0_;clear n0_;(try clear hb);(try clear hb2);(try clear hk);(try clear hi))|(go_at_call 85;(with_reducible refine(spec_l6Node.calls a1 false _ A8.out).mono ?_);rintro e w' ⟨rfl,⟨nd,rfl⟩⟩;(try first|exact⟨rfl,_,World.drewN_drewN _ _ _⟩|exact⟨rfl,_,Eq.trans (World.drewN_drewN _ _ _) (congrArg (World.drewN _) (Nat.add_assoc _ _ _))⟩)))
    repeat (go_quiet (first|(go_at_call 84;(with_reducible refine(spec_GoodPlan.calls k _ _ l0 true _ ?side1 ?side2 A6.out).mono ?_);(case side1=>exact bC HR0.out);(case side2=>exact HC0.out);rintro e w15 ⟨rfl,hb⟩;have n0_:=Aside0.mk (below_step (bB) hb);clear HB;have HB:=n0_;clear n0_;(try clear hb);(try clear hb2);(try clear hk);(try clear hi))|(go_at_call 85;(with_reducible refine(spec_l6Node.calls a1 false _ A8.out).mono ?_);rintro e w' ⟨rfl,⟨nd,rfl⟩⟩;(try first|exact⟨rfl,_,World.drewN_drewN _ _ _⟩|exact⟨rfl,_,Eq.trans (World.drewN_drewN _ _ _) (congrArg (World.drewN _) (Nat.add_assoc _ _ _))⟩)));try go_wp2_with (first|(go_at_call 84;(with_reducible refine(spec_GoodPlan.calls k _ _ l0 true _ ?side1 ?side2 A6.out).mono ?_);(case side1=>exact bC HR0.out);(case side2=>exact HC0.out);rintro e w15 ⟨rfl,hb⟩;have n0_:=Aside0.mk (below_step (bB) hb);clear HB;have HB:=n0_;clear n0_;(try clear hb);(try clear hb2);(try clear hk);(try clear hi))|(go_at_call 85;(with_reducible refine(spec_l6Node.calls a1 false _ A8.out).mono ?_);rintro e w' ⟨rfl,⟨nd,rfl⟩⟩;(try first|exact⟨rfl,_,World.drewN_drewN _ _ _⟩|exact⟨rfl,_,Eq.trans (World.drewN_drewN _ _ _) (congrArg (World.drewN _) (Nat.add_assoc _ _ _))⟩))))
    go_meet
    case rel=>exact⟨_,(true),(bR),H',⟨by first|omega|exact Nat.le_refl _⟩,⟨by repeat (first|(with_reducible first|exact HB.out|apply below_alloc|apply pw_below_drewN|apply below_drew1)|exact HB.out)⟩⟩
  ·replace c7:=Bool.eq_false_iff.mpr c7
   subst c7
   have H1:(spec_RouteTo.j0 k l0 a1 a2 a3 true)=some (r1,r2,r3):=by rw[if_neg (show ¬ (false=true) by decide)] at H;exact H
   clear H
   have H:=H1
   clear H1
   have H':=Aside0.mk H
   clear H
   go_wp2_with (first|(go_at_call 84;(with_reducible refine(spec_GoodPlan.calls k _ _ l0 false _ ?side1 ?side2 A6.out).mono ?_);(case side1=>exact bC HR0.out);(case side2=>exact HC0.out);rintro e w16 ⟨rfl,hb⟩;have n0_:=Aside0.mk (below_step (bB) hb);clear HB;have HB:=n0_;clear n0_;(try clear hb);(try clear hb2);(try clear hk);(try clear hi)))
   repeat (go_quiet (first|(go_at_call 84;(with_reducible refine(spec_GoodPlan.calls k _ _ l0 false _ ?side1 ?side2 A6.out).mono ?_);(case side1=>exact bC HR0.out);(case side2=>exact HC0.out);rintro e w16 ⟨rfl,hb⟩;have n0_:=Aside0.mk (below_step (bB) hb);clear HB;have HB:=n0_;clear n0_;(try clear hb);(try clear hb2);(try clear hk);(try clear hi)));try go_wp2_with (first|(go_at_call 84;(with_reducible refine(spec_GoodPlan.calls k _ _ l0 false _ ?side1 ?side2 A6.out).mono ?_);(case side1=>exact bC HR0.out);(case side2=>exact HC0.out);rintro e w16 ⟨rfl,hb⟩;have n0_:=Aside0.mk (below_step (bB) hb);clear HB;have HB:=n0_;clear n0_;(try clear hb);(try clear hb2);(try clear hk);(try clear hi))))
   go_meet
   case rel=>exact⟨_,(true),(bR),H',⟨by first|omega|exact Nat.le_refl _⟩,⟨by repeat (first|(with_reducible first|exact HB.out|apply below_alloc|apply pw_below_drewN|apply below_drew1)|exact HB.out)⟩⟩
 case rest =>
  clear HC5
  try clear c1
  try clear p2
  try clear c7
  try clear c9
  try clear c11
  obtain⟨kq,x32_4,rfl,HA,HJ4,HB⟩:=hcut
  cases kq with
  | zero=>exact absurd HA.out (by simp[spec_RouteTo.j0])
  | succ kj4 =>
   have H:=HA.out
   clear HA
   simp only[spec_RouteTo.j0] at H
   by_cases c17:x32_4=true
   ·subst c17
    have H1:(some (([]:List Int),0,false))=some (r1,r2,r3):=by rw[if_pos rfl] at H;exact H
    clear H
    have H:=H1
    clear H1
    simp only[Option.some.injEq,Prod.mk.injEq] at H
    obtain⟨rfl,rfl,rfl⟩:=H
    go_wp2
    repeat (go_quiet (fail);try go_wp2)
    go_ret3
    exact⟨_,by first|rfl|(simp[errW_none,errW_some]<;>rfl)|(simp[*,errW_none,errW_some]<;>rfl),by first|exact Kd.R_nil _ _ _ _ _|exact Kd.N_nil _ _ _ _ _|exact Kd.V_nil _ _ _ _ _|exact Kd.Q_nil _ _ _ _ _|exact Kd.S_nil _ _ _ _ _,bB⟩
   ·replace c17:=Bool.eq_false_iff.mpr c17
    subst c17
    have H1:((spec_l6Search.f kj4 l0 a1 a2).bind fun bt186=>(if 0≤a3 then (if a3 < (bt186.1.length:Int) then (if (rd bt186.1 a3) < 0 then (some (([]:List Int),0,false)) else (spec_RouteTo.l0 kj4 l0 a1 a3 bt186.1 bt186.2 ([]:List Int) a3)) else (none)) else (none)))=some (r1,r2,r3):=by rw[if_neg (show ¬ (false=true) by decide)] at H;exact H
    clear H
    have H:=H1
    clear H1
    replace H:=Option.bind_eq_some_iff.mp H
    obtain⟨⟨t186,t187⟩,A180,H⟩:=H
    replace H:(if 0≤a3 then (if a3 < (t186.length:Int) then (if (rd t186 a3) < 0 then (some (([]:List Int),0,false)) else (spec_RouteTo.l0 kj4 l0 a1 a3 t186 t187 ([]:List Int) a3)) else (none)) else (none))=some (r1,r2,r3):=H
    have A18:=Aside0.mk A180
    clear A180
    by_cases c19:0≤a3
    ·rw[if_pos c19] at H
     have c19b0:decide (0≤a3)=true:=decide_eq_true c19
     clear c19
     by_cases c20:a3 < (t186.length:Int)
     ·rw[if_pos c20] at H
      have c20b0:decide (a3 < (t186.length:Int))=true:=decide_eq_true c20
      clear c20
      by_cases c21:(rd t186 a3) < 0
      ·rw[if_pos c21] at H
       have c21b0:decide ((rd t186 a3) < 0)=true:=decide_eq_true c21
       clear c21
       simp only[Option.some.injEq,Prod.mk.injEq] at H
       obtain⟨rfl,rfl,rfl⟩:=H
       go_wp2_with (first|(go_at_call 158;(with_reducible refine(spec_l6Search.calls kj4 _ _ l0 a1 a2 t186 t187 _ ?side1 ?side2 A18.out).mono ?_);(case side1=>exact bC HR0.out);(case side2=>exact HC0.out);rintro e w22 ⟨v188,v190,rfl,ho0,ho1,hb⟩;have n0_:=Aside0.mk (Kd.R_lower ho0 (below_size (bB)));have n1_:=Aside0.mk (Kd.R_lower ho1 (below_size (bB)));have n2_:=Aside0.mk (below_step (bB) hb);clear HB;have HO189:=n0_;have HO191:=n1_;have HB:=n2_;clear n0_ n1_ n2_;(try clear hb);(try clear hb2);(try clear hk);(try clear hi);(try clear ho0);(try clear ho1);obtain⟨Ao23,co23,eo23⟩:=Kd.R_slice HO189.out;subst eo23;have p192:0≤(a3:Int):=of_decide_eq_true (bD);have q192:a3 < (t186.length:Int):=of_decide_eq_true (bD);obtain⟨ad192,e192,hx192_0⟩:=Kd.at_int (Kd.R_reads' HO189.out).2.2 a3 p192 q192;cases e192;replace p192:=eq_true p192;replace q192:=eq_true q192))
       repeat (go_quiet (first|(go_at_call 158;(with_reducible refine(spec_l6Search.calls kj4 _ _ l0 a1 a2 t186 t187 _ ?side1 ?side2 A18.out).mono ?_);(case side1=>exact bC HR0.out);(case side2=>exact HC0.out);rintro e w22 ⟨v188,v190,rfl,ho0,ho1,hb⟩;have n0_:=Aside0.mk (Kd.R_lower ho0 (below_size (bB)));have n1_:=Aside0.mk (Kd.R_lower ho1 (below_size (bB)));have n2_:=Aside0.mk (below_step (bB) hb);clear HB;have HO189:=n0_;have HO191:=n1_;have HB:=n2_;clear n0_ n1_ n2_;(try clear hb);(try clear hb2);(try clear hk);(try clear hi);(try clear ho0);(try clear ho1);obtain⟨Ao23,co23,eo23⟩:=Kd.R_slice HO189.out;subst eo23;have p192:0≤(a3:Int):=of_decide_eq_true (bD);have q192:a3 < (t186.length:Int):=of_decide_eq_true (bD);obtain⟨ad192,e192,hx192_0⟩:=Kd.at_int (Kd.R_reads' HO189.out).2.2 a3 p192 q192;cases e192;replace p192:=eq_true p192;replace q192:=eq_true q192));try go_wp2_with (first|(go_at_call 158;(with_reducible refine(spec_l6Search.calls kj4 _ _ l0 a1 a2 t186 t187 _ ?side1 ?side2 A18.out).mono ?_);(case side1=>exact bC HR0.out);(case side2=>exact HC0.out);rintro e w22 ⟨v188,v190,rfl,ho0,ho1,hb⟩;have n0_:=Aside0.mk (Kd.R_lower ho0 (below_size (bB)));have n1_:=Aside0.mk (Kd.R_lower ho1 (below_size (bB)));have n2_:=Aside0.mk (below_step (bB) hb);clear HB;have HO189:=n0_;have HO191:=n1_;have HB:=n2_;clear n0_ n1_ n2_;(try clear hb);(try clear hb2);(try clear hk);(try clear hi);(try clear ho0);(try clear ho1);obtain⟨Ao23,co23,eo23⟩:=Kd.R_slice HO189.out;subst eo23;have p192:0≤(a3:Int):=of_decide_eq_true (bD);have q192:a3 < (t186.length:Int):=of_decide_eq_true (bD);obtain⟨ad192,e192,hx192_0⟩:=Kd.at_int (Kd.R_reads' HO189.out).2.2 a3 p192 q192;cases e192;replace p192:=eq_true p192;replace q192:=eq_true q192)))
       go_ret3
       exact⟨_,by first|rfl|(simp[errW_none,errW_some]<;>rfl)|(simp[*,errW_none,errW_some]<;>rfl),by first|exact Kd.R_nil _ _ _ _ _|exact Kd.N_nil _ _ _ _ _|exact Kd.V_nil _ _ _ _ _|exact Kd.Q_nil _ _ _ _ _|exact Kd.S_nil _ _ _ _ _,bB⟩
      ·rw[if_neg c21] at H
       have c21b0:decide ((rd t186 a3) < 0)=false:=decide_eq_false c21
       clear c21
       have H':=Aside0.mk H
       clear H
       go_wp2_with (first|(go_at_call 158;(with_reducible refine(spec_l6Search.calls kj4 _ _ l0 a1 a2 t186 t187 _ ?side1 ?side2 A18.out).mono ?_);(case side1=>exact bC HR0.out);(case side2=>exact HC0.out);rintro e w24 ⟨v188,v190,rfl,ho0,ho1,hb⟩;have n0_:=Aside0.mk (Kd.R_lower ho0 (below_size (bB)));have n1_:=Aside0.mk (Kd.R_lower ho1 (below_size (bB)));have n2_:=Aside0.mk (below_step (bB) hb);clear HB;have HO189:=n0_;have HO191:=n1_;have HB:=n2_;clear n0_ n1_ n2_;(try clear hb);(try clear hb2);(try clear hk);(try clear hi);(try clear ho0);(try clear ho1);obtain⟨Ao25,co25,eo25⟩:=Kd.R_slice HO189.out;subst eo25;have p192:0≤(a3:Int):=of_decide_eq_true (bD);have q192:a3 < (t186.length:Int):=of_decide_eq_true (bD);obtain⟨ad192,e192,hx192_0⟩:=Kd.at_int (Kd.R_reads' HO189.out).2.2 a3 p192 q192;cases e192;replace p192:=eq_true p192;replace q192:=eq_true q192))
       repeat (go_quiet (first|(go_at_call 158;(with_reducible refine(spec_l6Search.calls kj4 _ _ l0 a1 a2 t186 t187 _ ?side1 ?side2 A18.out).mono ?_);(case side1=>exact bC HR0.out);(case side2=>exact HC0.out);rintro e w24 ⟨v188,v190,rfl,ho0,ho1,hb⟩;have n0_:=Aside0.mk (Kd.R_lower ho0 (below_size (bB)));have n1_:=Aside0.mk (Kd.R_lower ho1 (below_size (bB)));have n2_:=Aside0.mk (below_step (bB) hb);clear HB;have HO189:=n0_;have HO191:=n1_;have HB:=n2_;clear n0_ n1_ n2_;(try clear hb);(try clear hb2);(try clear hk);(try clear hi);(try clear ho0);(try clear ho1);obtain⟨Ao25,co25,eo25⟩:=Kd.R_slice HO189.out;subst eo25;have p192:0≤(a3:Int):=of_decide_eq_true (bD);have q192:a3 < (t186.length:Int):=of_decide_eq_true (bD);obtain⟨ad192,e192,hx192_0⟩:=Kd.at_int (Kd.R_reads' HO189.out).2.2 a3 p192 q192;cases e192;replace p192:=eq_true p192;replace q192:=eq_true q192));try go_wp2_with (first|(go_at_call 158;(with_reducible refine(spec_l6Search.calls kj4 _ _ l0 a1 a2 t186 t187 _ ?side1 ?side2 A18.out).mono ?_);(case side1=>exact bC HR0.out);(case side2=>exact HC0.out);rintro e w24 ⟨v188,v190,rfl,ho0,ho1,hb⟩;have n0_:=Aside0.mk (Kd.R_lower ho0 (below_size (bB)));have n1_:=Aside0.mk (Kd.R_lower ho1 (below_size (bB)));have n2_:=Aside0.mk (below_step (bB) hb);clear HB;have HO189:=n0_;have HO191:=n1_;have HB:=n2_;clear n0_ n1_ n2_;(try clear hb);(try clear hb2);(try clear hk);(try clear hi);(try clear ho0);(try clear ho1);obtain⟨Ao25,co25,eo25⟩:=Kd.R_slice HO189.out;subst eo25;have p192:0≤(a3:Int):=of_decide_eq_true (bD);have q192:a3 < (t186.length:Int):=of_decide_eq_true (bD);obtain⟨ad192,e192,hx192_0⟩:=Kd.at_int (Kd.R_reads' HO189.out).2.2 a3 p192 q192;cases e192;replace p192:=eq_true p192;replace q192:=eq_true q192)))
       go_loopg [13,14] kj4 (fun kq v13 v14 w' => ∃ (x13_2:List Int) (x14_2:Int),v14=.int .i64 x14_2∧Aside0 (spec_RouteTo.l0 kq l0 a1 a3 t186 t187 x13_2 x14_2=some (r1,r2,r3))∧Aside0 (kq≤kj4)∧Aside0 (Kd.R (Kd.int .i64) 3 w' w.heap.size (fun k_=>some k_≠(v190:Value).ownBlock∧some k_≠(v13:Value).ownBlock) (.slice (some ad192) t186.length co25) t186)∧Aside0 (Kd.R (Kd.int .i64) 3 w' w.heap.size (fun k_=>some k_≠((.slice (some ad192) t186.length co25):Value).ownBlock∧some k_≠(v13:Value).ownBlock) v190 t187)∧Aside0 (Kd.R (Kd.int .i64) 3 w' w.heap.size (fun k_=>some k_≠((.slice (some ad192) t186.length co25):Value).ownBlock∧some k_≠(v190:Value).ownBlock) v13 x13_2)∧Aside0 (Below w.heap.size w w'))
       case atStart=>exact⟨(([]:List Int)),(a3),(bR),H',⟨Nat.le_refl _⟩,⟨by(with_reducible repeat (first|apply Kd.R_alloc|apply Kd.R_drewN|apply Kd.R_drew));exact Kd.R_mono HO189.out (fun _ hk=>⟨hk,(by simp[Value.ownBlock])⟩)⟩,⟨by(with_reducible repeat (first|apply Kd.R_alloc|apply Kd.R_drewN|apply Kd.R_drew));exact Kd.R_mono HO191.out (fun _ hk=>⟨hk,(by simp[Value.ownBlock])⟩)⟩,⟨by first|exact Kd.R_nil _ _ _ _ _|exact Kd.N_nil _ _ _ _ _|exact Kd.V_nil _ _ _ _ _|exact Kd.Q_nil _ _ _ _ _|exact Kd.S_nil _ _ _ _ _⟩,⟨by repeat (first|(with_reducible first|exact HB.out|apply below_alloc|apply pw_below_drewN|apply below_drew1)|exact HB.out)⟩⟩
       case round =>
        clear H'
        try clear c1
        try clear p1
        try clear q1
        try clear hx1
        try clear c2
        try clear p2
        try clear c7
        try clear c9
        try clear c11
        try clear c17
        try clear c19
        try clear c19b0
        try clear p19
        try clear q19
        try clear hx19
        try clear c20
        try clear c20b0
        try clear c21
        try clear c21b0
        try clear hx192_0
        try clear p192
        try clear p2
        try clear q192
        obtain⟨x13_2,x14_2,rfl,HA,HK2,HO_11,HO_12,HO_13,HB⟩:=hrel
        cases gk with
        | zero=>exact absurd HA.out (by simp[spec_RouteTo.l0])
        | succ k2 =>
         have H:=HA.out
         clear HA
         simp only[spec_RouteTo.l0] at H
         by_cases c26:x14_2=a1
         ·rw[if_pos c26] at H
          have c26b0:(x14_2 == a1)=true:=beq_iff_eq.mpr c26
          have c26b1:(x14_2 != a1)=false:=bne_eq_false_iff_eq.mpr c26
          clear c26
          by_cases c27:0≤a3
          ·rw[if_pos c27] at H
           have c27b0:decide (0≤a3)=true:=decide_eq_true c27
           clear c27
           by_cases c28:a3 < (t186.length:Int)
           ·rw[if_pos c28] at H
            have c28b0:decide (a3 < (t186.length:Int))=true:=decide_eq_true c28
            clear c28
            simp only[Option.some.injEq,Prod.mk.injEq] at H
            obtain⟨rfl,rfl,rfl⟩:=H
            have p193:0≤(a3:Int):=of_decide_eq_true (bD)
            have q193:a3 < (t186.length:Int):=of_decide_eq_true (bD)
            obtain⟨ad193,e193,hx193_0⟩:=Kd.at_int (Kd.R_reads' HO_11.out).2.2 a3 p193 q193
            obtain rfl:ad192=ad193:=(by injection e193)
            replace p193:=eq_true p193
            replace q193:=eq_true q193
            go_wp2
            repeat (go_quiet (fail);try go_wp2)
            go_ret3
            exact⟨_,by first|rfl|(simp[errW_none,errW_some]<;>rfl)|(simp[*,errW_none,errW_some]<;>rfl),by(with_reducible repeat (first|apply Kd.R_alloc|apply Kd.R_drewN|apply Kd.R_drew));exact Kd.R_mono HO_13.out (fun _ hk=>trivial),bB⟩
           ·rw[if_neg c28] at H
            exact absurd H (by simp)
          ·rw[if_neg c27] at H
           exact absurd H (by simp)
         ·rw[if_neg c26] at H
          have c26b0:(x14_2 == a1)=false:=beq_eq_false_iff_ne.mpr c26
          have c26b1:(x14_2 != a1)=true:=bne_iff_ne.mpr c26
          by_cases c29:0≤x14_2
          ·rw[if_pos c29] at H
           have c29b0:decide (0≤x14_2)=true:=decide_eq_true c29
           clear c29
           by_cases c30:x14_2 < (t187.length:Int)
           ·rw[if_pos c30] at H
            have c30b0:decide (x14_2 < (t187.length:Int))=true:=decide_eq_true c30
            clear c30
            obtain⟨y195,hy195⟩ : ∃ y_:List Int,y_=(([rd t187 x14_2]:List Int)):=⟨_,rfl⟩
            replace H:(if y195.length+x13_2.length < 17592186044416 then (if 0≤(rd t187 x14_2) then (if (rd t187 x14_2) < (l0.length:Int) then (spec_RouteTo.l0 k2 l0 a1 a3 t186 t187 (y195++x13_2) ((rd_T104 l0 (rd t187 x14_2)).f0)) else (none)) else (none)) else (none))=some (r1,r2,r3):=by first|(rw[hy195];with_reducible exact H)|(have H2_:=(Option.bind_some _ _).symm.trans H;rw[hy195];with_reducible exact H2_)|(have H2_:=(Option.bind_some _ _).symm.trans H;with_reducible exact H2_)|with_reducible exact H|(rw[hy195];exact H)|exact H
            have Ny195:=Aside0.mk hy195
            clear hy195
            by_cases c31:y195.length+x13_2.length < 17592186044416
            ·rw[if_pos c31] at H
             have LMc31:=Aside0.mk c31
             clear c31
             obtain⟨y198,hy198⟩ : ∃ y_:List Int,y_=(y195++x13_2):=⟨_,rfl⟩
             replace H:(if 0≤(rd t187 x14_2) then (if (rd t187 x14_2) < (l0.length:Int) then (spec_RouteTo.l0 k2 l0 a1 a3 t186 t187 y198 ((rd_T104 l0 (rd t187 x14_2)).f0)) else (none)) else (none))=some (r1,r2,r3):=by first|(rw[hy198];with_reducible exact H)|(have H2_:=(Option.bind_some _ _).symm.trans H;rw[hy198];with_reducible exact H2_)|(have H2_:=(Option.bind_some _ _).symm.trans H;with_reducible exact H2_)|with_reducible exact H|(rw[hy198];exact H)|exact H
             have Ny198:=Aside0.mk hy198
             clear hy198
             by_cases c32:0≤(rd t187 x14_2)
             ·rw[if_pos c32] at H
              have c32b0:decide (0≤(rd t187 x14_2))=true:=decide_eq_true c32
              clear c32
              by_cases c33:(rd t187 x14_2) < (l0.length:Int)
              ·rw[if_pos c33] at H
               have c33b0:decide ((rd t187 x14_2) < (l0.length:Int))=true:=decide_eq_true c33
               clear c33
               have H':=Aside0.mk H
               clear H
               obtain⟨Ao34,co34,eo34⟩:=Kd.R_slice HO_12.out
               subst eo34
               have p194:0≤(x14_2:Int):=of_decide_eq_true (bD)
               have q194:x14_2 < (t187.length:Int):=of_decide_eq_true (bD)
               obtain⟨ad194,e194,hx194_0⟩:=Kd.at_int (Kd.R_reads' HO_12.out).2.2 x14_2 p194 q194
               cases e194
               replace p194:=eq_true p194
               replace q194:=eq_true q194
               go_wp2_with (first|((with_reducible refine gate_dst (N:=61) rfl ?_);refine Kd.R_lit (Kd.int .i64) _ 3 ?hg (N:=61) ?hd (xs:=([rd t187 x14_2]:List Int)) (inner:=[.int .i64 (rd t187 x14_2)]) (ok:=fun _=>True) (okp:=fun _=>True) ?hr ?hp (fun _ hk=>hk) trivial (Below.refl _ _) (Nat.le_refl _) (by simp) ?_;(case hd=>rfl);(case hg=>rfl);(case hr=>first|(go_simp;done)|(go_simp;rfl));(case hp=>exact(Reps.one (show Kd.M (Kd.int .i64) _ _ _ (rd t187 x14_2) [.int .i64 (rd t187 x14_2)] from rfl) (Reps.none _ _)));intro v196 w35 ho36 hb hg_ hnew_;clear hg_ hnew_;(first|rw[← Ny195.out] at ho36|(simp only[Int.reduceToNat] at ho36;rw[← Ny195.out] at ho36));have n0_:=Aside0.mk (Kd.R_elder' (bK HO_11.out) (Kd.R_base ho36) hb);have n1_:=Aside0.mk (Kd.R_elder' (bK HO_12.out) (Kd.R_base ho36) hb);have n2_:=Aside0.mk (Kd.R_elder' (bK HO_13.out) (Kd.R_base ho36) hb);have n3_:=Aside0.mk (Kd.R_lower (Kd.R_new' (Kd.R_new' (Kd.R_new' ho36 (Kd.R_lt (bK HO_11.out))) (Kd.R_lt (bK HO_12.out))) (Kd.R_lt (bK HO_13.out))) (below_size (bB)));have n4_:=Aside0.mk (below_step (bB) hb);clear HO_11 HO_12 HO_13 HB;have HO_11:=n0_;have HO_12:=n1_;have HO_13:=n2_;have HO197:=n3_;have HB:=n4_;clear n0_ n1_ n2_ n3_ n4_;clear hb ho36;obtain⟨Ao38,co38,eo38⟩:=Kd.R_slice HO_13.out;subst eo38)|((with_reducible refine gate_builtin (b:=.append) (xs:=#[.tmp 61,.tmp 62]) rfl ?_);at_builtin;refine Kd.R_append_rows (Kd.int .i64) (w0:=w) w.heap.size rfl (.tmp 61) (.tmp 62) 37 3 (.int .i64 0) 8 rfl Try.underlying37 info3 rfl (by decide) (by omega) v196 y195 x13_2 _ _ _ (fun k_=>some k_≠(.slice (some ad192) t186.length co25:Value).ownBlock∧some k_≠(.slice (some ad194) t187.length co34:Value).ownBlock∧some k_≠(.slice Ao38 x13_2.length co38:Value).ownBlock) (fun _=>False) rfl rfl ?aO ?aR (fun _ _ h=>h) (fun _ h=>h.elim) ?aF ?aB ?aS ?aL ?_;(case aR=>exact bT HO_13.out);(case aB=>exact(bB));(case aF=>exact(fun k_ hk=>⟨Kd.fresh' (Kd.R_lt (bK HO_11.out)) k_ hk,Kd.fresh' (Kd.R_lt (bK HO_12.out)) k_ hk,Kd.fresh' (Kd.R_lt (bK HO_13.out)) k_ hk⟩));(case aO=>exact(by(with_reducible repeat (first|apply Kd.R_alloc|apply Kd.R_drewN|apply Kd.R_drew));exact Kd.R_mono HO197.out (fun _ hk=>⟨hk.1.1.2,⟨hk.1.2,hk.2⟩⟩)));(case aS=>exact(below_size (bB)));(case aL=>have:=LMc31.out;omega);intro v199 w37 ho hb hg hat;rw[← Ny198.out] at ho;have n0_:=Aside0.mk (Kd.R_after (ok:=(fun k_=>some k_≠(.slice (some ad194) t187.length co34:Value).ownBlock∧some k_≠(.slice Ao38 x13_2.length co38:Value).ownBlock)) (bK HO_11.out) hg hat);have n1_:=Aside0.mk (Kd.R_after (ok:=(fun k_=>some k_≠(.slice (some ad192) t186.length co25:Value).ownBlock∧some k_≠(.slice Ao38 x13_2.length co38:Value).ownBlock)) (bK HO_12.out) hg hat);have n2_:=Aside0.mk (Kd.R_after (ok:=(fun k_=>some k_≠(.slice (some ad192) t186.length co25:Value).ownBlock∧some k_≠(.slice (some ad194) t187.length co34:Value).ownBlock)) (bK HO_13.out) hg hat);have n3_:=Aside0.mk (hb);have n4_:=Aside0.mk (ho);clear HO_11 HO_12 HO_13 HB HO197;have HO_11:=n0_;have HO_12:=n1_;have HO_13:=n2_;have HB:=n3_;have HO200:=n4_;clear n0_ n1_ n2_ n3_ n4_;clear ho hb hg hat;have p201:0≤(x14_2:Int):=of_decide_eq_true (bD);have q201:x14_2 < (t187.length:Int):=of_decide_eq_true (bD);obtain⟨ad201,e201,hx201_0⟩:=Kd.at_int (Kd.R_reads' HO_12.out).2.2 x14_2 p201 q201;obtain rfl:ad194=ad201:=(by injection e201);replace p201:=eq_true p201;replace q201:=eq_true q201;have p202:0≤((rd t187 x14_2):Int):=of_decide_eq_true (bD);have q202:(rd t187 x14_2) < (l0.length:Int):=of_decide_eq_true (bD);obtain⟨ad202,e202,hx202_0,hx202_1,hx202_2,hx202_3,hx202_4⟩:=at_T104 HR0.out (rd t187 x14_2) p202 q202;cases e202;replace hx202_0:=(HB.out.cell (World.block_lt_of_cell? w _ hx202_0)).trans hx202_0;replace hx202_1:=(HB.out.cell (World.block_lt_of_cell? w _ hx202_1)).trans hx202_1;replace hx202_2:=(HB.out.cell (World.block_lt_of_cell? w _ hx202_2)).trans hx202_2;replace hx202_3:=(HB.out.cell (World.block_lt_of_cell? w _ hx202_3)).trans hx202_3;replace hx202_4:=(HB.out.cell (World.block_lt_of_cell? w _ hx202_4)).trans hx202_4;replace p202:=eq_true p202;replace q202:=eq_true q202))
               repeat (go_quiet (first|((with_reducible refine gate_dst (N:=61) rfl ?_);refine Kd.R_lit (Kd.int .i64) _ 3 ?hg (N:=61) ?hd (xs:=([rd t187 x14_2]:List Int)) (inner:=[.int .i64 (rd t187 x14_2)]) (ok:=fun _=>True) (okp:=fun _=>True) ?hr ?hp (fun _ hk=>hk) trivial (Below.refl _ _) (Nat.le_refl _) (by simp) ?_;(case hd=>rfl);(case hg=>rfl);(case hr=>first|(go_simp;done)|(go_simp;rfl));(case hp=>exact(Reps.one (show Kd.M (Kd.int .i64) _ _ _ (rd t187 x14_2) [.int .i64 (rd t187 x14_2)] from rfl) (Reps.none _ _)));intro v196 w35 ho36 hb hg_ hnew_;clear hg_ hnew_;(first|rw[← Ny195.out] at ho36|(simp only[Int.reduceToNat] at ho36;rw[← Ny195.out] at ho36));have n0_:=Aside0.mk (Kd.R_elder' (bK HO_11.out) (Kd.R_base ho36) hb);have n1_:=Aside0.mk (Kd.R_elder' (bK HO_12.out) (Kd.R_base ho36) hb);have n2_:=Aside0.mk (Kd.R_elder' (bK HO_13.out) (Kd.R_base ho36) hb);have n3_:=Aside0.mk (Kd.R_lower (Kd.R_new' (Kd.R_new' (Kd.R_new' ho36 (Kd.R_lt (bK HO_11.out))) (Kd.R_lt (bK HO_12.out))) (Kd.R_lt (bK HO_13.out))) (below_size (bB)));have n4_:=Aside0.mk (below_step (bB) hb);clear HO_11 HO_12 HO_13 HB;have HO_11:=n0_;have HO_12:=n1_;have HO_13:=n2_;have HO197:=n3_;have HB:=n4_;clear n0_ n1_ n2_ n3_ n4_;clear hb ho36;obtain⟨Ao38,co38,eo38⟩:=Kd.R_slice HO_13.out;subst eo38)|((with_reducible refine gate_builtin (b:=.append) (xs:=#[.tmp 61,.tmp 62]) rfl ?_);at_builtin;refine Kd.R_append_rows (Kd.int .i64) (w0:=w) w.heap.size rfl (.tmp 61) (.tmp 62) 37 3 (.int .i64 0) 8 rfl Try.underlying37 info3 rfl (by decide) (by omega) v196 y195 x13_2 _ _ _ (fun k_=>some k_≠(.slice (some ad192) t186.length co25:Value).ownBlock∧some k_≠(.slice (some ad194) t187.length co34:Value).ownBlock∧some k_≠(.slice Ao38 x13_2.length co38:Value).ownBlock) (fun _=>False) rfl rfl ?aO ?aR (fun _ _ h=>h) (fun _ h=>h.elim) ?aF ?aB ?aS ?aL ?_;(case aR=>exact bT HO_13.out);(case aB=>exact(bB));(case aF=>exact(fun k_ hk=>⟨Kd.fresh' (Kd.R_lt (bK HO_11.out)) k_ hk,Kd.fresh' (Kd.R_lt (bK HO_12.out)) k_ hk,Kd.fresh' (Kd.R_lt (bK HO_13.out)) k_ hk⟩));(case aO=>exact(by(with_reducible repeat (first|apply Kd.R_alloc|apply Kd.R_drewN|apply Kd.R_drew));exact Kd.R_mono HO197.out (fun _ hk=>⟨hk.1.1.2,⟨hk.1.2,hk.2⟩⟩)));(case aS=>exact(below_size (bB)));(case aL=>have:=LMc31.out;omega);intro v199 w37 ho hb hg hat;rw[← Ny198.out] at ho;have n0_:=Aside0.mk (Kd.R_after (ok:=(fun k_=>some k_≠(.slice (some ad194) t187.length co34:Value).ownBlock∧some k_≠(.slice Ao38 x13_2.length co38:Value).ownBlock)) (bK HO_11.out) hg hat);have n1_:=Aside0.mk (Kd.R_after (ok:=(fun k_=>some k_≠(.slice (some ad192) t186.length co25:Value).ownBlock∧some k_≠(.slice Ao38 x13_2.length co38:Value).ownBlock)) (bK HO_12.out) hg hat);have n2_:=Aside0.mk (Kd.R_after (ok:=(fun k_=>some k_≠(.slice (some ad192) t186.length co25:Value).ownBlock∧some k_≠(.slice (some ad194) t187.length co34:Value).ownBlock)) (bK HO_13.out) hg hat);have n3_:=Aside0.mk (hb);have n4_:=Aside0.mk (ho);clear HO_11 HO_12 HO_13 HB HO197;have HO_11:=n0_;have HO_12:=n1_;have HO_13:=n2_;have HB:=n3_;have HO200:=n4_;clear n0_ n1_ n2_ n3_ n4_;clear ho hb hg hat;have p201:0≤(x14_2:Int):=of_decide_eq_true (bD);have q201:x14_2 < (t187.length:Int):=of_decide_eq_true (bD);obtain⟨ad201,e201,hx201_0⟩:=Kd.at_int (Kd.R_reads' HO_12.out).2.2 x14_2 p201 q201;obtain rfl:ad194=ad201:=(by injection e201);replace p201:=eq_true p201;replace q201:=eq_true q201;have p202:0≤((rd t187 x14_2):Int):=of_decide_eq_true (bD);have q202:(rd t187 x14_2) < (l0.length:Int):=of_decide_eq_true (bD);obtain⟨ad202,e202,hx202_0,hx202_1,hx202_2,hx202_3,hx202_4⟩:=at_T104 HR0.out (rd t187 x14_2) p202 q202;cases e202;replace hx202_0:=(HB.out.cell (World.block_lt_of_cell? w _ hx202_0)).trans hx202_0;replace hx202_1:=(HB.out.cell (World.block_lt_of_cell? w _ hx202_1)).trans hx202_1;replace hx202_2:=(HB.out.cell (World.block_lt_of_cell? w _ hx202_2)).trans hx202_2;replace hx202_3:=(HB.out.cell (World.block_lt_of_cell? w _ hx202_3)).trans hx202_3;replace hx202_4:=(HB.out.cell (World.block_lt_of_cell? w _ hx202_4)).trans hx202_4;replace p202:=eq_true p202;replace q202:=eq_true q202));try go_wp2_with (first|((with_reducible refine gate_dst (N:=61) rfl ?_);refine Kd.R_lit (Kd.int .i64) _ 3 ?hg (N:=61) ?hd (xs:=([rd t187 x14_2]:List Int)) (inner:=[.int .i64 (rd t187 x14_2)]) (ok:=fun _=>True) (okp:=fun _=>True) ?hr ?hp (fun _ hk=>hk) trivial (Below.refl _ _) (Nat.le_refl _) (by simp) ?_;(case hd=>rfl);(case hg=>rfl);(case hr=>first|(go_simp;done)|(go_simp;rfl));(case hp=>exact(Reps.one (show Kd.M (Kd.int .i64) _ _ _ (rd t187 x14_2) [.int .i64 (rd t187 x14_2)] from rfl) (Reps.none _ _)));intro v196 w35 ho36 hb hg_ hnew_;clear hg_ hnew_;(first|rw[← Ny195.out] at ho36|(simp only[Int.reduceToNat] at ho36;rw[← Ny195.out] at ho36));have n0_:=Aside0.mk (Kd.R_elder' (bK HO_11.out) (Kd.R_base ho36) hb);have n1_:=Aside0.mk (Kd.R_elder' (bK HO_12.out) (Kd.R_base ho36) hb);have n2_:=Aside0.mk (Kd.R_elder' (bK HO_13.out) (Kd.R_base ho36) hb);have n3_:=Aside0.mk (Kd.R_lower (Kd.R_new' (Kd.R_new' (Kd.R_new' ho36 (Kd.R_lt (bK HO_11.out))) (Kd.R_lt (bK HO_12.out))) (Kd.R_lt (bK HO_13.out))) (below_size (bB)));have n4_:=Aside0.mk (below_step (bB) hb);clear HO_11 HO_12 HO_13 HB;have HO_11:=n0_;have HO_12:=n1_;have HO_13:=n2_;have HO197:=n3_;have HB:=n4_;clear n0_ n1_ n2_ n3_ n4_;clear hb ho36;obtain⟨Ao38,co38,eo38⟩:=Kd.R_slice HO_13.out;subst eo38)|((with_reducible refine gate_builtin (b:=.append) (xs:=#[.tmp 61,.tmp 62]) rfl ?_);at_builtin;refine Kd.R_append_rows (Kd.int .i64) (w0:=w) w.heap.size rfl (.tmp 61) (.tmp 62) 37 3 (.int .i64 0) 8 rfl Try.underlying37 info3 rfl (by decide) (by omega) v196 y195 x13_2 _ _ _ (fun k_=>some k_≠(.slice (some ad192) t186.length co25:Value).ownBlock∧some k_≠(.slice (some ad194) t187.length co34:Value).ownBlock∧some k_≠(.slice Ao38 x13_2.length co38:Value).ownBlock) (fun _=>False) rfl rfl ?aO ?aR (fun _ _ h=>h) (fun _ h=>h.elim) ?aF ?aB ?aS ?aL ?_;(case aR=>exact bT HO_13.out);(case aB=>exact(bB));(case aF=>exact(fun k_ hk=>⟨Kd.fresh' (Kd.R_lt (bK HO_11.out)) k_ hk,Kd.fresh' (Kd.R_lt (bK HO_12.out)) k_ hk,Kd.fresh' (Kd.R_lt (bK HO_13.out)) k_ hk⟩));(case aO=>exact(by(with_reducible repeat (first|apply Kd.R_alloc|apply Kd.R_drewN|apply Kd.R_drew));exact Kd.R_mono HO197.out (fun _ hk=>⟨hk.1.1.2,⟨hk.1.2,hk.2⟩⟩)));(case aS=>exact(below_size (bB)));(case aL=>have:=LMc31.out;omega);intro v199 w37 ho hb hg hat;rw[← Ny198.out] at ho;have n0_:=Aside0.mk (Kd.R_after (ok:=(fun k_=>some k_≠(.slice (some ad194) t187.length co34:Value).ownBlock∧some k_≠(.slice Ao38 x13_2.length co38:Value).ownBlock)) (bK HO_11.out) hg hat);have n1_:=Aside0.mk (Kd.R_after (ok:=(fun k_=>some k_≠(.slice (some ad192) t186.length co25:Value).ownBlock∧some k_≠(.slice Ao38 x13_2.length co38:Value).ownBlock)) (bK HO_12.out) hg hat);have n2_:=Aside0.mk (Kd.R_after (ok:=(fun k_=>some k_≠(.slice (some ad192) t186.length co25:Value).ownBlock∧some k_≠(.slice (some ad194) t187.length co34:Value).ownBlock)) (bK HO_13.out) hg hat);have n3_:=Aside0.mk (hb);have n4_:=Aside0.mk (ho);clear HO_11 HO_12 HO_13 HB HO197;have HO_11:=n0_;have HO_12:=n1_;have HO_13:=n2_;have HB:=n3_;have HO200:=n4_;clear n0_ n1_ n2_ n3_ n4_;clear ho hb hg hat;have p201:0≤(x14_2:Int):=of_decide_eq_true (bD);have q201:x14_2 < (t187.length:Int):=of_decide_eq_true (bD);obtain⟨ad201,e201,hx201_0⟩:=Kd.at_int (Kd.R_reads' HO_12.out).2.2 x14_2 p201 q201;obtain rfl:ad194=ad201:=(by injection e201);replace p201:=eq_true p201;replace q201:=eq_true q201;have p202:0≤((rd t187 x14_2):Int):=of_decide_eq_true (bD);have q202:(rd t187 x14_2) < (l0.length:Int):=of_decide_eq_true (bD);obtain⟨ad202,e202,hx202_0,hx202_1,hx202_2,hx202_3,hx202_4⟩:=at_T104 HR0.out (rd t187 x14_2) p202 q202;cases e202;replace hx202_0:=(HB.out.cell (World.block_lt_of_cell? w _ hx202_0)).trans hx202_0;replace hx202_1:=(HB.out.cell (World.block_lt_of_cell? w _ hx202_1)).trans hx202_1;replace hx202_2:=(HB.out.cell (World.block_lt_of_cell? w _ hx202_2)).trans hx202_2;replace hx202_3:=(HB.out.cell (World.block_lt_of_cell? w _ hx202_3)).trans hx202_3;replace hx202_4:=(HB.out.cell (World.block_lt_of_cell? w _ hx202_4)).trans hx202_4;replace p202:=eq_true p202;replace q202:=eq_true q202)))
               go_roundg k2
               case measure=>have:=HJ4.out;have:=HK2.out;omega
               case rel=>exact⟨(y198),((rd_T104 l0 (rd t187 x14_2)).f0),(bR),H',⟨by have:=HJ4.out;have:=HK2.out;omega⟩,⟨by(with_reducible repeat (first|apply Kd.R_alloc|apply Kd.R_drewN|apply Kd.R_drew));exact Kd.R_mono HO_11.out (fun _ hk=>⟨hk.1.1,hk.2⟩)⟩,⟨by(with_reducible repeat (first|apply Kd.R_alloc|apply Kd.R_drewN|apply Kd.R_drew));exact Kd.R_mono HO_12.out (fun _ hk=>⟨hk.1.1,hk.2⟩)⟩,⟨by(with_reducible repeat (first|apply Kd.R_alloc|apply Kd.R_drewN|apply Kd.R_drew));exact Kd.R_mono HO200.out (fun _ hk=>⟨hk.1,hk.2.1⟩)⟩,⟨by repeat (first|(with_reducible first|exact HB.out|apply below_alloc|apply pw_below_drewN|apply below_drew1)|exact HB.out)⟩⟩
              ·rw[if_neg c33] at H
               exact absurd H (by simp)
             ·rw[if_neg c32] at H
              exact absurd H (by simp)
            ·rw[if_neg c31] at H
             exact absurd H (by simp)
           ·rw[if_neg c30] at H
            exact absurd H (by simp)
          ·rw[if_neg c29] at H
           exact absurd H (by simp)
     ·rw[if_neg c20] at H
      exact absurd H (by simp)
    ·rw[if_neg c19] at H
     exact absurd H (by simp)

/-! ### spec_l17Reach: function 124 -/
def spec_l17Reach.l0:Nat→List (S104)→List (S157)→List Int→Int→Int→Int→Int→Bool→Int→Int→Int→Int→Int→Int→ByteArray→Option ((List (S157)))
 | 0,_,_,_,_,_,_,_,_,_,_,_,_,_,_,_=>none
 | k+1,x0,x7,x13,x14,x15,x204000,x204001,x204002,x204003,x204004,x204005,x204006,x204007,x204008,x204009=>if x15 < x14 then (if 0≤x15 then (if x15 < (x13.length:Int) then ((spec_RouteTo.f k x0 x204000 x204003 (rd x13 x15)).bind fun bt205=>(if bt205.2.2=true then (if bt205.2.1≤(wrap64 (x204003+x204005)) then (if (bt205.1.length:Int)≤x204006 then (if x7.length < 3518437208883 then (spec_l17Reach.l0 k x0 (x7++[(⟨rd x13 x15,bt205.2.1,bt205.1⟩:S157)]) x13 x14 (wrap64 (x15+1)) x204000 x204001 x204002 x204003 x204004 x204005 x204006 x204007 x204008 x204009) else (none)) else (spec_l17Reach.l0 k x0 x7 x13 x14 (wrap64 (x15+1)) x204000 x204001 x204002 x204003 x204004 x204005 x204006 x204007 x204008 x204009)) else (spec_l17Reach.l0 k x0 x7 x13 x14 (wrap64 (x15+1)) x204000 x204001 x204002 x204003 x204004 x204005 x204006 x204007 x204008 x204009)) else (spec_l17Reach.l0 k x0 x7 x13 x14 (wrap64 (x15+1)) x204000 x204001 x204002 x204003 x204004 x204005 x204006 x204007 x204008 x204009))) else (none)) else (none)) else (some x7)
def spec_l17Reach.f (k:Nat) (l0:List (S104)) (a1_0:Int) (a1_1:Int) (a1_2:Bool) (a1_3:Int) (a1_4:Int) (a1_5:Int) (a1_6:Int) (a1_7:Int) (a1_8:Int) (a1_9:ByteArray) (l2:List Int):Option ((List (S157))):=spec_l17Reach.l0 k l0 ([]:List (S157)) l2 (l2.length:Int) 0 a1_0 a1_1 a1_2 a1_3 a1_4 a1_5 a1_6 a1_7 a1_8 a1_9
theorem spec_l17Reach.mono_l : ∀ k,(∀ y0 y1 y2 y3 y4 y5 y6 y7 y8 y9 y10 y11 y12 y13 y14,LeO (spec_l17Reach.l0 k y0 y1 y2 y3 y4 y5 y6 y7 y8 y9 y10 y11 y12 y13 y14) (spec_l17Reach.l0 (k+1) y0 y1 y2 y3 y4 y5 y6 y7 y8 y9 y10 y11 y12 y13 y14))
 | 0=>fun _ _ _ _ _ _ _ _ _ _ _ _ _ _ _ r h=>by simp[spec_l17Reach.l0] at h
 | k+1=>by
  have ih0:=spec_l17Reach.mono_l k
  ·intro y0 y1 y2 y3 y4 y5 y6 y7 y8 y9 y10 y11 y12 y13 y14
   unfold spec_l17Reach.l0
   repeat' first
   | (with_reducible exact ih0 _ _ _ _ _ _ _ _ _ _ _ _ _ _ _)
   | (with_reducible exact spec_RouteTo.mono _ _ _ _ _)
   | (with_reducible exact LeO.refl _)
   | (with_reducible exact LeO.none _)
   | (with_reducible refine LeO.ite ?_ ?_)
   | (with_reducible refine LeO.bind ?_ (fun _ => ?_))
   | exact ih0 _ _ _ _ _ _ _ _ _ _ _ _ _ _ _
   | exact spec_RouteTo.mono _ _ _ _ _
   | exact LeO.none _
   | refine LeO.ite ?_ ?_
   | refine LeO.bind ?_ (fun _ => ?_)
theorem spec_l17Reach.mono : ∀ a0 a1 a2 a3 a4 a5 a6 a7 a8 a9 a10 a11 k,LeO (spec_l17Reach.f k a0 a1 a2 a3 a4 a5 a6 a7 a8 a9 a10 a11) (spec_l17Reach.f (k+1) a0 a1 a2 a3 a4 a5 a6 a7 a8 a9 a10 a11):=by
 intro a0 a1 a2 a3 a4 a5 a6 a7 a8 a9 a10 a11 k
 have ih0:=spec_l17Reach.mono_l k
 unfold spec_l17Reach.f
 repeat' first
  | (with_reducible exact ih0 _ _ _ _ _ _ _ _ _ _ _ _ _ _ _)
  | (with_reducible exact spec_RouteTo.mono _ _ _ _ _)
  | (with_reducible exact LeO.refl _)
  | (with_reducible exact LeO.none _)
  | (with_reducible refine LeO.ite ?_ ?_)
  | (with_reducible refine LeO.bind ?_ (fun _ => ?_))
  | exact ih0 _ _ _ _ _ _ _ _ _ _ _ _ _ _ _
  | exact spec_RouteTo.mono _ _ _ _ _
  | exact LeO.none _
  | refine LeO.ite ?_ ?_
  | refine LeO.bind ?_ (fun _ => ?_)
set_option maxHeartbeats 8000000 in
set_option maxRecDepth 100000 in
theorem spec_l17Reach.calls (k:Nat) (A0:Option Addr) (c0:Nat) (l0:List (S104)) (a1_0:Int) (a1_1:Int) (a1_2:Bool) (a1_3:Int) (a1_4:Int) (a1_5:Int) (a1_6:Int) (a1_7:Int) (a1_8:Int) (a1_9:ByteArray) (A2:Option Addr) (c2:Nat) (l2:List Int) (r:List (S157)) (w:World) (hr0:Kd.C k104 w A0 l0.length l0) (hc0:l0.length≤c0) (hr2:Kd.C (Kd.int .i64) w A2 l2.length l2) (hc2:l2.length≤c2) (h:spec_l17Reach.f k l0 a1_0 a1_1 a1_2 a1_3 a1_4 a1_5 a1_6 a1_7 a1_8 a1_9 l2=some r) :
  Calls Try.prog 124 #[.slice A0 l0.length c0,.agg #[.int .i64 a1_0,.int .i64 a1_1,.bool a1_2,.int .i64 a1_3,.int .i64 a1_4,.int .i64 a1_5,.int .i64 a1_6,.int .i64 a1_7,.int .i64 a1_8,.string a1_9],.slice A2 l2.length c2] w fun e w' => ∃ v0_:Value,e=.returned (v0_)∧Kd.S k157 157 w' w.heap.size (fun _=>True) v0_ r∧Below w.heap.size w w':=by
 have hu86:=Try.underlying86
 have hu157:=Try.underlying157
 have HR0:=Aside0.mk hr0
 have HC0:=Aside0.mk hc0
 clear hr0 hc0
 have HR2:=Aside0.mk hr2
 have HC2:=Aside0.mk hc2
 clear hr2 hc2
 have HB:=Aside0.mk (Below.refl w.heap.size w)
 have H:(spec_l17Reach.l0 k l0 ([]:List (S157)) l2 (l2.length:Int) 0 a1_0 a1_1 a1_2 a1_3 a1_4 a1_5 a1_6 a1_7 a1_8 a1_9)=some r:=h
 clear h
 have H':=Aside0.mk H
 clear H
 go_enter Try.func124,Try.ntmps124
 go_wp2_with (first|((with_reducible refine gate_dst (N:=4) rfl ?_);(try (refine gate_guard (by rfl) ?_;dsimp only));refine box_event ?hg (N:=4) ?hd (cs:=#[.int .i64 a1_0,.int .i64 a1_1,.bool a1_2,.int .i64 a1_3,.int .i64 a1_4,.int .i64 a1_5,.int .i64 a1_6,.int .i64 a1_7,.int .i64 a1_8,.string a1_9]) (t:=86) ?hr ?_;(case hd=>rfl);(case hg=>rfl);(case hr=>first|(go_simp;done)|(go_simp;rfl));intro gb203 hg w4 hbox hb;have n0_:=Aside0.mk (below_step (bB) hb);have n1_:=Aside0.mk (hbox);have n2_:=Aside0.mk ((bG:w.heap.size≤gb203));have n3_:=Aside0.mk ((bG:w.heap.size≤gb203));clear HB;have HB:=n0_;have BK203:=n1_;have GW203:=n2_;have GE203:=n3_;clear n0_ n1_ n2_ n3_;clear hb hbox hg))
 go_loopg [7,15] k (fun kq v7 v15 w' => ∃ (x7_1:List (S157)) (x15_1:Int),v15=.int .i64 x15_1∧Aside0 (spec_l17Reach.l0 kq l0 x7_1 l2 (l2.length:Int) x15_1 a1_0 a1_1 a1_2 a1_3 a1_4 a1_5 a1_6 a1_7 a1_8 a1_9=some r)∧Aside0 (kq≤k)∧Aside0 (Kd.S k157 157 w' w.heap.size (fun _=>True) v7 x7_1)∧Aside0 (w'.heap[gb203]?=some (.cells #[.int .i64 a1_0,.int .i64 a1_1,.bool a1_2,.int .i64 a1_3,.int .i64 a1_4,.int .i64 a1_5,.int .i64 a1_6,.int .i64 a1_7,.int .i64 a1_8,.string a1_9] 86 (0,0)))∧Aside0 (Below w.heap.size w w'))
 case atStart=>exact⟨(([]:List (S157))),(0),(bR),H',⟨Nat.le_refl _⟩,⟨by first|exact Kd.S_nil _ _ _ _ _|exact Kd.N_nil _ _ _ _ _|exact Kd.V_nil _ _ _ _ _|exact Kd.Q_nil _ _ _ _ _|exact Kd.R_nil _ _ _ _ _⟩,⟨by(with_reducible repeat (first|refine blk_drewN ?_ _|refine blk_drew ?_|refine blk_alloc ?_ _));exact BK203.out⟩,⟨bS GE203.out⟩⟩
 case round =>
  clear H'
  try clear c1
  try clear c2
  try clear p2
  obtain⟨x7_1,x15_1,rfl,HA,HK1,HO_7,BK203,HB⟩:=hrel
  cases gk with
  | zero=>exact absurd HA.out (by simp[spec_l17Reach.l0])
  | succ k1 =>
   have H:=HA.out
   clear HA
   simp only[spec_l17Reach.l0] at H
   by_cases c5:x15_1 < (l2.length:Int)
   ·rw[if_pos c5] at H
    have c5b0:decide (x15_1 < (l2.length:Int))=true:=decide_eq_true c5
    clear c5
    by_cases c6:0≤x15_1
    ·rw[if_pos c6] at H
     have c6b0:decide (0≤x15_1)=true:=decide_eq_true c6
     clear c6
     by_cases c7:x15_1 < (l2.length:Int)
     ·rw[if_pos c7] at H
      have c7b0:decide (x15_1 < (l2.length:Int))=true:=decide_eq_true c7
      clear c7
      replace H:=Option.bind_eq_some_iff.mp H
      obtain⟨⟨t205,t206,t207⟩,A80,H⟩:=H
      have A8:=Aside0.mk A80
      clear A80
      by_cases c9:t207=true
      ·subst c9
       have H1:(if t206≤(wrap64 (a1_3+a1_5)) then (if (t205.length:Int)≤a1_6 then (if x7_1.length < 3518437208883 then (spec_l17Reach.l0 k1 l0 (x7_1++[(⟨rd l2 x15_1,t206,t205⟩:S157)]) l2 (l2.length:Int) (wrap64 (x15_1+1)) a1_0 a1_1 a1_2 a1_3 a1_4 a1_5 a1_6 a1_7 a1_8 a1_9) else (none)) else (spec_l17Reach.l0 k1 l0 x7_1 l2 (l2.length:Int) (wrap64 (x15_1+1)) a1_0 a1_1 a1_2 a1_3 a1_4 a1_5 a1_6 a1_7 a1_8 a1_9)) else (spec_l17Reach.l0 k1 l0 x7_1 l2 (l2.length:Int) (wrap64 (x15_1+1)) a1_0 a1_1 a1_2 a1_3 a1_4 a1_5 a1_6 a1_7 a1_8 a1_9))=some r:=by rw[if_pos rfl] at H;exact H
       clear H
       have H:=H1
       clear H1
       by_cases c10:t206≤(wrap64 (a1_3+a1_5))
       ·rw[if_pos c10] at H
        have c10b0:decide (t206≤(wrap64 (a1_3+a1_5)))=true:=decide_eq_true c10
        clear c10
        by_cases c11:(t205.length:Int)≤a1_6
        ·rw[if_pos c11] at H
         have c11b0:decide ((t205.length:Int)≤a1_6)=true:=decide_eq_true c11
         clear c11
         by_cases c12:x7_1.length < 3518437208883
         ·rw[if_pos c12] at H
          have LMc12:=Aside0.mk c12
          clear c12
          obtain⟨y210,hy210⟩ : ∃ y_:List (S157),y_=(x7_1++[(⟨rd l2 x15_1,t206,t205⟩:S157)]):=⟨_,rfl⟩
          replace H:(spec_l17Reach.l0 k1 l0 y210 l2 (l2.length:Int) (wrap64 (x15_1+1)) a1_0 a1_1 a1_2 a1_3 a1_4 a1_5 a1_6 a1_7 a1_8 a1_9)=some r:=by first|(rw[hy210];with_reducible exact H)|(have H2_:=(Option.bind_some _ _).symm.trans H;rw[hy210];with_reducible exact H2_)|(have H2_:=(Option.bind_some _ _).symm.trans H;with_reducible exact H2_)|with_reducible exact H|(rw[hy210];exact H)|exact H
          have Ny210:=Aside0.mk hy210
          clear hy210
          have H':=Aside0.mk H
          clear H
          have p204:0≤(x15_1:Int):=of_decide_eq_true (bD)
          have q204:x15_1 < (l2.length:Int):=of_decide_eq_true (bD)
          obtain⟨ad204,e204,hx204_0⟩:=Kd.at_int HR2.out x15_1 p204 q204
          cases e204
          replace hx204_0:=(HB.out.cell (World.block_lt_of_cell? w _ hx204_0)).trans hx204_0
          replace p204:=eq_true p204
          replace q204:=eq_true q204
          have hcz13_0:wr.cell? ⟨gb203,0,none⟩=some (.int .i64 a1_0):=(blk_cell BK203.out 0).trans rfl
          have hcz13_1:wr.cell? ⟨gb203,1,none⟩=some (.int .i64 a1_1):=(blk_cell BK203.out 1).trans rfl
          have hcz13_2:wr.cell? ⟨gb203,2,none⟩=some (.bool a1_2):=(blk_cell BK203.out 2).trans rfl
          have hcz13_3:wr.cell? ⟨gb203,3,none⟩=some (.int .i64 a1_3):=(blk_cell BK203.out 3).trans rfl
          have hcz13_4:wr.cell? ⟨gb203,4,none⟩=some (.int .i64 a1_4):=(blk_cell BK203.out 4).trans rfl
          have hcz13_5:wr.cell? ⟨gb203,5,none⟩=some (.int .i64 a1_5):=(blk_cell BK203.out 5).trans rfl
          have hcz13_6:wr.cell? ⟨gb203,6,none⟩=some (.int .i64 a1_6):=(blk_cell BK203.out 6).trans rfl
          have hcz13_7:wr.cell? ⟨gb203,7,none⟩=some (.int .i64 a1_7):=(blk_cell BK203.out 7).trans rfl
          have hcz13_8:wr.cell? ⟨gb203,8,none⟩=some (.int .i64 a1_8):=(blk_cell BK203.out 8).trans rfl
          have hcz13_9:wr.cell? ⟨gb203,9,none⟩=some (.string a1_9):=(blk_cell BK203.out 9).trans rfl
          have hfz13_0:=blk_frozen BK203.out 0
          have hfz13_1:=blk_frozen BK203.out 1
          have hfz13_2:=blk_frozen BK203.out 2
          have hfz13_3:=blk_frozen BK203.out 3
          have hfz13_4:=blk_frozen BK203.out 4
          have hfz13_5:=blk_frozen BK203.out 5
          have hfz13_6:=blk_frozen BK203.out 6
          have hfz13_7:=blk_frozen BK203.out 7
          have hfz13_8:=blk_frozen BK203.out 8
          have hfz13_9:=blk_frozen BK203.out 9
          go_wp2_with (first|((with_reducible refine gate_callee (f:=119) rfl ?_);refine goesA (some 26) rfl rfl Try.func119 #[.slice A0 l0.length c0,.int .i64 a1_0,.int .i64 a1_3,.int .i64 (rd l2 x15_1)] rfl ?_;(with_reducible refine(spec_RouteTo.calls k1 _ _ l0 a1_0 a1_3 (rd l2 x15_1) t205 t206 true _ ?side1 ?side2 A8.out).mono ?_);(case side1=>exact bC HR0.out);(case side2=>exact HC0.out);rintro e w14 ⟨v208,rfl,ho0,hb⟩;refine⟨_,rfl,?_⟩;have n0_:=Aside0.mk (Kd.S_elder' (by(with_reducible repeat (first|apply Kd.S_alloc|apply Kd.S_drewN|apply Kd.S_drew));exact HO_7.out) (Kd.R_base ho0) hb);have n1_:=Aside0.mk (Kd.R_lower ho0 (below_size (bS GE203.out)));have n2_:=Aside0.mk (blk_below (g:=gb203) (o:=.cells #[.int .i64 a1_0,.int .i64 a1_1,.bool a1_2,.int .i64 a1_3,.int .i64 a1_4,.int .i64 a1_5,.int .i64 a1_6,.int .i64 a1_7,.int .i64 a1_8,.string a1_9] 86 (0,0)) (bL BK203.out) hb);have n3_:=Aside0.mk (below_step (bS GE203.out) hb);clear HO_7 BK203 HB;have HO_7:=n0_;have HO209:=n1_;have BK203:=n2_;have HB:=n3_;clear n0_ n1_ n2_ n3_;(try clear hb);(try clear hb2);(try clear hk);(try clear hi);(try clear ho0);have hcz15_0:w14.cell? ⟨gb203,0,none⟩=some (.int .i64 a1_0):=(blk_cell BK203.out 0).trans rfl;have hcz15_1:w14.cell? ⟨gb203,1,none⟩=some (.int .i64 a1_1):=(blk_cell BK203.out 1).trans rfl;have hcz15_2:w14.cell? ⟨gb203,2,none⟩=some (.bool a1_2):=(blk_cell BK203.out 2).trans rfl;have hcz15_3:w14.cell? ⟨gb203,3,none⟩=some (.int .i64 a1_3):=(blk_cell BK203.out 3).trans rfl;have hcz15_4:w14.cell? ⟨gb203,4,none⟩=some (.int .i64 a1_4):=(blk_cell BK203.out 4).trans rfl;have hcz15_5:w14.cell? ⟨gb203,5,none⟩=some (.int .i64 a1_5):=(blk_cell BK203.out 5).trans rfl;have hcz15_6:w14.cell? ⟨gb203,6,none⟩=some (.int .i64 a1_6):=(blk_cell BK203.out 6).trans rfl;have hcz15_7:w14.cell? ⟨gb203,7,none⟩=some (.int .i64 a1_7):=(blk_cell BK203.out 7).trans rfl;have hcz15_8:w14.cell? ⟨gb203,8,none⟩=some (.int .i64 a1_8):=(blk_cell BK203.out 8).trans rfl;have hcz15_9:w14.cell? ⟨gb203,9,none⟩=some (.string a1_9):=(blk_cell BK203.out 9).trans rfl;have hfz15_0:=blk_frozen BK203.out 0;have hfz15_1:=blk_frozen BK203.out 1;have hfz15_2:=blk_frozen BK203.out 2;have hfz15_3:=blk_frozen BK203.out 3;have hfz15_4:=blk_frozen BK203.out 4;have hfz15_5:=blk_frozen BK203.out 5;have hfz15_6:=blk_frozen BK203.out 6;have hfz15_7:=blk_frozen BK203.out 7;have hfz15_8:=blk_frozen BK203.out 8;have hfz15_9:=blk_frozen BK203.out 9;obtain⟨Ao16,co16,eo16⟩:=Kd.R_slice HO209.out;subst eo16)|((with_reducible refine gate_builtin (b:=.append) (xs:=#[.tmp 47,.tmp 52]) rfl ?_);(try (refine gate_guard (by rfl) ?_;dsimp only));at_builtin;refine Kd.S_append k157 (w0:=w) w.heap.size rfl (.tmp 47) (.tmp 52) 105 157 (.agg #[(.int .i64 0),(.int .i64 0),(.slice none 0 0)]) 40 rfl Try.underlying105 info157 rfl (by decide) (by omega) u7 x7_1 (⟨rd l2 x15_1,t206,t205⟩:S157) [.int .i64 (rd l2 x15_1),.int .i64 t206,.slice Ao16 t205.length co16] (fun _=>True) (fun k_=>some k_=(.slice Ao16 t205.length co16:Value).ownBlock) rfl rfl ?aP (fun k_ hk_=>((Kd.R_mono (ok':=fun k_=>((fun _=>True)) k_∧some k_≠(u7:Value).ownBlock) (Kd.R_apart' (HO209.out) (Kd.S_typed HO_7.out) (by decide)) (fun k_ hk=>⟨trivial,hk.2⟩))).1 k_ hk_.symm) ?aF ?aO ?aB ?aS ?aL ?_;(case aP=>exact k157_mkM _ _ _ (⟨rd l2 x15_1,t206,t205⟩:S157) (Kd.R_mono (Kd.R_tight rfl (Kd.R_mono (ok':=fun k_=>((fun _=>True)) k_∧some k_≠(u7:Value).ownBlock) (Kd.R_apart' (HO209.out) (Kd.S_typed HO_7.out) (by decide)) (fun k_ hk=>⟨trivial,hk.2⟩))) (fun _ h_=>h_)));(case aB=>exact(bS GE203.out));(case aF=>exact(fun _ _=>trivial));(case aO=>exact(by(with_reducible repeat (first|apply Kd.S_alloc|apply Kd.S_drewN|apply Kd.S_drew));exact Kd.S_mono HO_7.out (fun k_ hk=>⟨trivial,fun e_=>hk.2 e_⟩)));(case aS=>exact(below_size (bS GE203.out)));(case aL=>have:=LMc12.out;omega);intro v211 w17 ho hb hg hat;rw[← Ny210.out] at ho;have n0_:=Aside0.mk (blk_grown (g:=gb203) (o:=.cells #[.int .i64 a1_0,.int .i64 a1_1,.bool a1_2,.int .i64 a1_3,.int .i64 a1_4,.int .i64 a1_5,.int .i64 a1_6,.int .i64 a1_7,.int .i64 a1_8,.string a1_9] 86 (0,0)) (bL BK203.out) hg (Kd.S_ne HO_7.out BK203.out (by decide)));have n1_:=Aside0.mk (hb);have n2_:=Aside0.mk (ho);clear BK203 HB HO_7 HO209;have BK203:=n0_;have HB:=n1_;have HO212:=n2_;clear n0_ n1_ n2_;clear ho hb hg hat))
          go_roundg k1
          case measure=>have:=HK1.out;omega
          case rel=>exact⟨(y210),(wrap64 (x15_1+1)),(bR),H',⟨by have:=HK1.out;omega⟩,⟨by(with_reducible repeat (first|apply Kd.S_alloc|apply Kd.S_drewN|apply Kd.S_drew));exact HO212.out⟩,⟨by(with_reducible repeat (first|refine blk_drewN ?_ _|refine blk_drew ?_|refine blk_alloc ?_ _));exact BK203.out⟩,⟨bS GE203.out⟩⟩
         ·rw[if_neg c12] at H
          exact absurd H (by simp)
        ·rw[if_neg c11] at H
         have c11b0:decide ((t205.length:Int)≤a1_6)=false:=decide_eq_false c11
         clear c11
         have H':=Aside0.mk H
         clear H
         have p204:0≤(x15_1:Int):=of_decide_eq_true (bD)
         have q204:x15_1 < (l2.length:Int):=of_decide_eq_true (bD)
         obtain⟨ad204,e204,hx204_0⟩:=Kd.at_int HR2.out x15_1 p204 q204
         cases e204
         replace hx204_0:=(HB.out.cell (World.block_lt_of_cell? w _ hx204_0)).trans hx204_0
         replace p204:=eq_true p204
         replace q204:=eq_true q204
         have hcz18_0:wr.cell? ⟨gb203,0,none⟩=some (.int .i64 a1_0):=(blk_cell BK203.out 0).trans rfl
         have hcz18_1:wr.cell? ⟨gb203,1,none⟩=some (.int .i64 a1_1):=(blk_cell BK203.out 1).trans rfl
         have hcz18_2:wr.cell? ⟨gb203,2,none⟩=some (.bool a1_2):=(blk_cell BK203.out 2).trans rfl
         have hcz18_3:wr.cell? ⟨gb203,3,none⟩=some (.int .i64 a1_3):=(blk_cell BK203.out 3).trans rfl
         have hcz18_4:wr.cell? ⟨gb203,4,none⟩=some (.int .i64 a1_4):=(blk_cell BK203.out 4).trans rfl
         have hcz18_5:wr.cell? ⟨gb203,5,none⟩=some (.int .i64 a1_5):=(blk_cell BK203.out 5).trans rfl
         have hcz18_6:wr.cell? ⟨gb203,6,none⟩=some (.int .i64 a1_6):=(blk_cell BK203.out 6).trans rfl
         have hcz18_7:wr.cell? ⟨gb203,7,none⟩=some (.int .i64 a1_7):=(blk_cell BK203.out 7).trans rfl
         have hcz18_8:wr.cell? ⟨gb203,8,none⟩=some (.int .i64 a1_8):=(blk_cell BK203.out 8).trans rfl
         have hcz18_9:wr.cell? ⟨gb203,9,none⟩=some (.string a1_9):=(blk_cell BK203.out 9).trans rfl
         have hfz18_0:=blk_frozen BK203.out 0
         have hfz18_1:=blk_frozen BK203.out 1
         have hfz18_2:=blk_frozen BK203.out 2
         have hfz18_3:=blk_frozen BK203.out 3
         have hfz18_4:=blk_frozen BK203.out 4
         have hfz18_5:=blk_frozen BK203.out 5
         have hfz18_6:=blk_frozen BK203.out 6
         have hfz18_7:=blk_frozen BK203.out 7
         have hfz18_8:=blk_frozen BK203.out 8
         have hfz18_9:=blk_frozen BK203.out 9
         go_wp2_with (first|((with_reducible refine gate_callee (f:=119) rfl ?_);refine goesA (some 26) rfl rfl Try.func119 #[.slice A0 l0.length c0,.int .i64 a1_0,.int .i64 a1_3,.int .i64 (rd l2 x15_1)] rfl ?_;(with_reducible refine(spec_RouteTo.calls k1 _ _ l0 a1_0 a1_3 (rd l2 x15_1) t205 t206 true _ ?side1 ?side2 A8.out).mono ?_);(case side1=>exact bC HR0.out);(case side2=>exact HC0.out);rintro e w19 ⟨v208,rfl,ho0,hb⟩;refine⟨_,rfl,?_⟩;have n0_:=Aside0.mk (Kd.S_elder' (by(with_reducible repeat (first|apply Kd.S_alloc|apply Kd.S_drewN|apply Kd.S_drew));exact HO_7.out) (Kd.R_base ho0) hb);have n1_:=Aside0.mk (Kd.R_lower ho0 (below_size (bS GE203.out)));have n2_:=Aside0.mk (blk_below (g:=gb203) (o:=.cells #[.int .i64 a1_0,.int .i64 a1_1,.bool a1_2,.int .i64 a1_3,.int .i64 a1_4,.int .i64 a1_5,.int .i64 a1_6,.int .i64 a1_7,.int .i64 a1_8,.string a1_9] 86 (0,0)) (bL BK203.out) hb);have n3_:=Aside0.mk (below_step (bS GE203.out) hb);clear HO_7 BK203 HB;have HO_7:=n0_;have HO209:=n1_;have BK203:=n2_;have HB:=n3_;clear n0_ n1_ n2_ n3_;(try clear hb);(try clear hb2);(try clear hk);(try clear hi);(try clear ho0);have hcz20_0:w19.cell? ⟨gb203,0,none⟩=some (.int .i64 a1_0):=(blk_cell BK203.out 0).trans rfl;have hcz20_1:w19.cell? ⟨gb203,1,none⟩=some (.int .i64 a1_1):=(blk_cell BK203.out 1).trans rfl;have hcz20_2:w19.cell? ⟨gb203,2,none⟩=some (.bool a1_2):=(blk_cell BK203.out 2).trans rfl;have hcz20_3:w19.cell? ⟨gb203,3,none⟩=some (.int .i64 a1_3):=(blk_cell BK203.out 3).trans rfl;have hcz20_4:w19.cell? ⟨gb203,4,none⟩=some (.int .i64 a1_4):=(blk_cell BK203.out 4).trans rfl;have hcz20_5:w19.cell? ⟨gb203,5,none⟩=some (.int .i64 a1_5):=(blk_cell BK203.out 5).trans rfl;have hcz20_6:w19.cell? ⟨gb203,6,none⟩=some (.int .i64 a1_6):=(blk_cell BK203.out 6).trans rfl;have hcz20_7:w19.cell? ⟨gb203,7,none⟩=some (.int .i64 a1_7):=(blk_cell BK203.out 7).trans rfl;have hcz20_8:w19.cell? ⟨gb203,8,none⟩=some (.int .i64 a1_8):=(blk_cell BK203.out 8).trans rfl;have hcz20_9:w19.cell? ⟨gb203,9,none⟩=some (.string a1_9):=(blk_cell BK203.out 9).trans rfl;have hfz20_0:=blk_frozen BK203.out 0;have hfz20_1:=blk_frozen BK203.out 1;have hfz20_2:=blk_frozen BK203.out 2;have hfz20_3:=blk_frozen BK203.out 3;have hfz20_4:=blk_frozen BK203.out 4;have hfz20_5:=blk_frozen BK203.out 5;have hfz20_6:=blk_frozen BK203.out 6;have hfz20_7:=blk_frozen BK203.out 7;have hfz20_8:=blk_frozen BK203.out 8;have hfz20_9:=blk_frozen BK203.out 9;obtain⟨Ao21,co21,eo21⟩:=Kd.R_slice HO209.out;subst eo21))
         go_roundg k1
         case measure=>have:=HK1.out;omega
         case rel=>exact⟨(x7_1),(wrap64 (x15_1+1)),(bR),H',⟨by have:=HK1.out;omega⟩,⟨by(with_reducible repeat (first|apply Kd.S_alloc|apply Kd.S_drewN|apply Kd.S_drew));exact Kd.S_mono HO_7.out (fun _ hk=>trivial)⟩,⟨by(with_reducible repeat (first|refine blk_drewN ?_ _|refine blk_drew ?_|refine blk_alloc ?_ _));exact BK203.out⟩,⟨bS GE203.out⟩⟩
       ·rw[if_neg c10] at H
        have c10b0:decide (t206≤(wrap64 (a1_3+a1_5)))=false:=decide_eq_false c10
        clear c10
        have H':=Aside0.mk H
        clear H
        have p204:0≤(x15_1:Int):=of_decide_eq_true (bD)
        have q204:x15_1 < (l2.length:Int):=of_decide_eq_true (bD)
        obtain⟨ad204,e204,hx204_0⟩:=Kd.at_int HR2.out x15_1 p204 q204
        cases e204
        replace hx204_0:=(HB.out.cell (World.block_lt_of_cell? w _ hx204_0)).trans hx204_0
        replace p204:=eq_true p204
        replace q204:=eq_true q204
        have hcz22_0:wr.cell? ⟨gb203,0,none⟩=some (.int .i64 a1_0):=(blk_cell BK203.out 0).trans rfl
        have hcz22_1:wr.cell? ⟨gb203,1,none⟩=some (.int .i64 a1_1):=(blk_cell BK203.out 1).trans rfl
        have hcz22_2:wr.cell? ⟨gb203,2,none⟩=some (.bool a1_2):=(blk_cell BK203.out 2).trans rfl
        have hcz22_3:wr.cell? ⟨gb203,3,none⟩=some (.int .i64 a1_3):=(blk_cell BK203.out 3).trans rfl
        have hcz22_4:wr.cell? ⟨gb203,4,none⟩=some (.int .i64 a1_4):=(blk_cell BK203.out 4).trans rfl
        have hcz22_5:wr.cell? ⟨gb203,5,none⟩=some (.int .i64 a1_5):=(blk_cell BK203.out 5).trans rfl
        have hcz22_6:wr.cell? ⟨gb203,6,none⟩=some (.int .i64 a1_6):=(blk_cell BK203.out 6).trans rfl
        have hcz22_7:wr.cell? ⟨gb203,7,none⟩=some (.int .i64 a1_7):=(blk_cell BK203.out 7).trans rfl
        have hcz22_8:wr.cell? ⟨gb203,8,none⟩=some (.int .i64 a1_8):=(blk_cell BK203.out 8).trans rfl
        have hcz22_9:wr.cell? ⟨gb203,9,none⟩=some (.string a1_9):=(blk_cell BK203.out 9).trans rfl
        have hfz22_0:=blk_frozen BK203.out 0
        have hfz22_1:=blk_frozen BK203.out 1
        have hfz22_2:=blk_frozen BK203.out 2
        have hfz22_3:=blk_frozen BK203.out 3
        have hfz22_4:=blk_frozen BK203.out 4
        have hfz22_5:=blk_frozen BK203.out 5
        have hfz22_6:=blk_frozen BK203.out 6
        have hfz22_7:=blk_frozen BK203.out 7
        have hfz22_8:=blk_frozen BK203.out 8
        have hfz22_9:=blk_frozen BK203.out 9
        go_wp2_with (first|((with_reducible refine gate_callee (f:=119) rfl ?_);refine goesA (some 26) rfl rfl Try.func119 #[.slice A0 l0.length c0,.int .i64 a1_0,.int .i64 a1_3,.int .i64 (rd l2 x15_1)] rfl ?_;(with_reducible refine(spec_RouteTo.calls k1 _ _ l0 a1_0 a1_3 (rd l2 x15_1) t205 t206 true _ ?side1 ?side2 A8.out).mono ?_);(case side1=>exact bC HR0.out);(case side2=>exact HC0.out);rintro e w23 ⟨v208,rfl,ho0,hb⟩;refine⟨_,rfl,?_⟩;have n0_:=Aside0.mk (Kd.S_elder' (by(with_reducible repeat (first|apply Kd.S_alloc|apply Kd.S_drewN|apply Kd.S_drew));exact HO_7.out) (Kd.R_base ho0) hb);have n1_:=Aside0.mk (Kd.R_lower ho0 (below_size (bS GE203.out)));have n2_:=Aside0.mk (blk_below (g:=gb203) (o:=.cells #[.int .i64 a1_0,.int .i64 a1_1,.bool a1_2,.int .i64 a1_3,.int .i64 a1_4,.int .i64 a1_5,.int .i64 a1_6,.int .i64 a1_7,.int .i64 a1_8,.string a1_9] 86 (0,0)) (bL BK203.out) hb);have n3_:=Aside0.mk (below_step (bS GE203.out) hb);clear HO_7 BK203 HB;have HO_7:=n0_;have HO209:=n1_;have BK203:=n2_;have HB:=n3_;clear n0_ n1_ n2_ n3_;(try clear hb);(try clear hb2);(try clear hk);(try clear hi);(try clear ho0);have hcz24_0:w23.cell? ⟨gb203,0,none⟩=some (.int .i64 a1_0):=(blk_cell BK203.out 0).trans rfl;have hcz24_1:w23.cell? ⟨gb203,1,none⟩=some (.int .i64 a1_1):=(blk_cell BK203.out 1).trans rfl;have hcz24_2:w23.cell? ⟨gb203,2,none⟩=some (.bool a1_2):=(blk_cell BK203.out 2).trans rfl;have hcz24_3:w23.cell? ⟨gb203,3,none⟩=some (.int .i64 a1_3):=(blk_cell BK203.out 3).trans rfl;have hcz24_4:w23.cell? ⟨gb203,4,none⟩=some (.int .i64 a1_4):=(blk_cell BK203.out 4).trans rfl;have hcz24_5:w23.cell? ⟨gb203,5,none⟩=some (.int .i64 a1_5):=(blk_cell BK203.out 5).trans rfl;have hcz24_6:w23.cell? ⟨gb203,6,none⟩=some (.int .i64 a1_6):=(blk_cell BK203.out 6).trans rfl;have hcz24_7:w23.cell? ⟨gb203,7,none⟩=some (.int .i64 a1_7):=(blk_cell BK203.out 7).trans rfl;have hcz24_8:w23.cell? ⟨gb203,8,none⟩=some (.int .i64 a1_8):=(blk_cell BK203.out 8).trans rfl;have hcz24_9:w23.cell? ⟨gb203,9,none⟩=some (.string a1_9):=(blk_cell BK203.out 9).trans rfl;have hfz24_0:=blk_frozen BK203.out 0;have hfz24_1:=blk_frozen BK203.out 1;have hfz24_2:=blk_frozen BK203.out 2;have hfz24_3:=blk_frozen BK203.out 3;have hfz24_4:=blk_frozen BK203.out 4;have hfz24_5:=blk_frozen BK203.out 5;have hfz24_6:=blk_frozen BK203.out 6;have hfz24_7:=blk_frozen BK203.out 7;have hfz24_8:=blk_frozen BK203.out 8;have hfz24_9:=blk_frozen BK203.out 9))
        go_roundg k1
        case measure=>have:=HK1.out;omega
        case rel=>exact⟨(x7_1),(wrap64 (x15_1+1)),(bR),H',⟨by have:=HK1.out;omega⟩,⟨by(with_reducible repeat (first|apply Kd.S_alloc|apply Kd.S_drewN|apply Kd.S_drew));exact Kd.S_mono HO_7.out (fun _ hk=>trivial)⟩,⟨by(with_reducible repeat (first|refine blk_drewN ?_ _|refine blk_drew ?_|refine blk_alloc ?_ _));exact BK203.out⟩,⟨bS GE203.out⟩⟩
      ·replace c9:=Bool.eq_false_iff.mpr c9
       subst c9
       have H1:(spec_l17Reach.l0 k1 l0 x7_1 l2 (l2.length:Int) (wrap64 (x15_1+1)) a1_0 a1_1 a1_2 a1_3 a1_4 a1_5 a1_6 a1_7 a1_8 a1_9)=some r:=by rw[if_neg (show ¬ (false=true) by decide)] at H;exact H
       clear H
       have H:=H1
       clear H1
       have H':=Aside0.mk H
       clear H
       have p204:0≤(x15_1:Int):=of_decide_eq_true (bD)
       have q204:x15_1 < (l2.length:Int):=of_decide_eq_true (bD)
       obtain⟨ad204,e204,hx204_0⟩:=Kd.at_int HR2.out x15_1 p204 q204
       cases e204
       replace hx204_0:=(HB.out.cell (World.block_lt_of_cell? w _ hx204_0)).trans hx204_0
       replace p204:=eq_true p204
       replace q204:=eq_true q204
       have hcz25_0:wr.cell? ⟨gb203,0,none⟩=some (.int .i64 a1_0):=(blk_cell BK203.out 0).trans rfl
       have hcz25_1:wr.cell? ⟨gb203,1,none⟩=some (.int .i64 a1_1):=(blk_cell BK203.out 1).trans rfl
       have hcz25_2:wr.cell? ⟨gb203,2,none⟩=some (.bool a1_2):=(blk_cell BK203.out 2).trans rfl
       have hcz25_3:wr.cell? ⟨gb203,3,none⟩=some (.int .i64 a1_3):=(blk_cell BK203.out 3).trans rfl
       have hcz25_4:wr.cell? ⟨gb203,4,none⟩=some (.int .i64 a1_4):=(blk_cell BK203.out 4).trans rfl
       have hcz25_5:wr.cell? ⟨gb203,5,none⟩=some (.int .i64 a1_5):=(blk_cell BK203.out 5).trans rfl
       have hcz25_6:wr.cell? ⟨gb203,6,none⟩=some (.int .i64 a1_6):=(blk_cell BK203.out 6).trans rfl
       have hcz25_7:wr.cell? ⟨gb203,7,none⟩=some (.int .i64 a1_7):=(blk_cell BK203.out 7).trans rfl
       have hcz25_8:wr.cell? ⟨gb203,8,none⟩=some (.int .i64 a1_8):=(blk_cell BK203.out 8).trans rfl
       have hcz25_9:wr.cell? ⟨gb203,9,none⟩=some (.string a1_9):=(blk_cell BK203.out 9).trans rfl
       have hfz25_0:=blk_frozen BK203.out 0
       have hfz25_1:=blk_frozen BK203.out 1
       have hfz25_2:=blk_frozen BK203.out 2
       have hfz25_3:=blk_frozen BK203.out 3
       have hfz25_4:=blk_frozen BK203.out 4
       have hfz25_5:=blk_frozen BK203.out 5
       have hfz25_6:=blk_frozen BK203.out 6
       have hfz25_7:=blk_frozen BK203.out 7
       have hfz25_8:=blk_frozen BK203.out 8
       have hfz25_9:=blk_frozen BK203.out 9
       go_wp2_with (first|((with_reducible refine gate_callee (f:=119) rfl ?_);refine goesA (some 26) rfl rfl Try.func119 #[.slice A0 l0.length c0,.int .i64 a1_0,.int .i64 a1_3,.int .i64 (rd l2 x15_1)] rfl ?_;(with_reducible refine(spec_RouteTo.calls k1 _ _ l0 a1_0 a1_3 (rd l2 x15_1) t205 t206 false _ ?side1 ?side2 A8.out).mono ?_);(case side1=>exact bC HR0.out);(case side2=>exact HC0.out);rintro e w26 ⟨v208,rfl,ho0,hb⟩;refine⟨_,rfl,?_⟩;have n0_:=Aside0.mk (Kd.S_elder' (by(with_reducible repeat (first|apply Kd.S_alloc|apply Kd.S_drewN|apply Kd.S_drew));exact HO_7.out) (Kd.R_base ho0) hb);have n1_:=Aside0.mk (Kd.R_lower ho0 (below_size (bS GE203.out)));have n2_:=Aside0.mk (blk_below (g:=gb203) (o:=.cells #[.int .i64 a1_0,.int .i64 a1_1,.bool a1_2,.int .i64 a1_3,.int .i64 a1_4,.int .i64 a1_5,.int .i64 a1_6,.int .i64 a1_7,.int .i64 a1_8,.string a1_9] 86 (0,0)) (bL BK203.out) hb);have n3_:=Aside0.mk (below_step (bS GE203.out) hb);clear HO_7 BK203 HB;have HO_7:=n0_;have HO209:=n1_;have BK203:=n2_;have HB:=n3_;clear n0_ n1_ n2_ n3_;(try clear hb);(try clear hb2);(try clear hk);(try clear hi);(try clear ho0)))
       go_roundg k1
       case measure=>have:=HK1.out;omega
       case rel=>exact⟨(x7_1),(wrap64 (x15_1+1)),(bR),H',⟨by have:=HK1.out;omega⟩,⟨by(with_reducible repeat (first|apply Kd.S_alloc|apply Kd.S_drewN|apply Kd.S_drew));exact Kd.S_mono HO_7.out (fun _ hk=>trivial)⟩,⟨by(with_reducible repeat (first|refine blk_drewN ?_ _|refine blk_drew ?_|refine blk_alloc ?_ _));exact BK203.out⟩,⟨bS GE203.out⟩⟩
     ·rw[if_neg c7] at H
      exact absurd H (by simp)
    ·rw[if_neg c6] at H
     exact absurd H (by simp)
   ·rw[if_neg c5] at H
    have c5b0:decide (x15_1 < (l2.length:Int))=false:=decide_eq_false c5
    clear c5
    obtain rfl:=Option.some.inj H
    go_wp2
    go_ret
    exact⟨_,by first|rfl|(simp[errW_none,errW_some]<;>rfl)|(simp[*,errW_none,errW_some]<;>rfl),by(with_reducible repeat (first|apply Kd.S_alloc|apply Kd.S_drewN|apply Kd.S_drew));exact HO_7.out,bS GE203.out⟩

end Go.Proofs.Yteneeohaoplpbaa.XFnExactDeliveredBy
