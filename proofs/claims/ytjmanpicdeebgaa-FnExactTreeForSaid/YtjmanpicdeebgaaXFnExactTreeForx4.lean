-- Written by this session's own program (wip/xprint.py) out of the translation; Lean checks it.
import Derived.Test.YtjmanpicdeebgaaXFnExactTreeForx0
import Derived.Test.YtjmanpicdeebgaaXFnExactTreeForx1
import Derived.Test.YtjmanpicdeebgaaXFnExactTreeForx3
namespace Go.Proofs.Ytjmanpicdeebgaa.XFnExactTreeFor
open Go.RowKit Go.Proofs.YtjmanpicdeebgaaW.PrintWords Go.Proofs.YtjmanpicdeebgaaW.PrintLast Go.Proofs.YtjmanpicdeebgaaW.PrintMore
attribute [local go_sem] max2_int min2_int max_two min_two max_three min_three max_four min_four   -- for this text's walks alone
set_option linter.unusedVariables false
set_option linter.unusedSimpArgs false

/-! ### spec_RouteTo: function 191 -/
mutual
def spec_RouteTo.j0:Nat→List (S165)→Int→Int→Int→Bool→Option (List Int × Int × Bool)
 | 0,_,_,_,_,_=>none
 | k+1,x0,x1,x2,x3,x32=>if x32=true then (some (([]:List Int),0,false)) else ((spec_l6Search.f k x0 x1 x2).bind fun bt151=>(if 0≤x3 then (if x3 < (bt151.1.length:Int) then (if (rd bt151.1 x3) < 0 then (some (([]:List Int),0,false)) else (spec_RouteTo.l0 k x0 x1 x3 bt151.1 bt151.2 ([]:List Int) x3)) else (none)) else (none)))
def spec_RouteTo.l0:Nat→List (S165)→Int→Int→List Int→List Int→List Int→Int→Option (List Int × Int × Bool)
 | 0,_,_,_,_,_,_,_=>none
 | k+1,x0,x1,x3,x11,x12,x13,x14=>if x14=x1 then (if 0≤x3 then (if x3 < (x11.length:Int) then (some (x13,rd x11 x3,true)) else (none)) else (none)) else (if 0≤x14 then (if x14 < (x12.length:Int) then ((some (([rd x12 x14]:List Int):List Int)).bind fun y160=>(if y160.length+x13.length < 17592186044416 then (if 0≤(rd x12 x14) then (if (rd x12 x14) < (x0.length:Int) then (spec_RouteTo.l0 k x0 x1 x3 x11 x12 (y160++x13) ((rd_T165 x0 (rd x12 x14)).f0)) else (none)) else (none)) else (none))) else (none)) else (none))
end
def spec_RouteTo.f (k:Nat) (l0:List (S165)) (a1:Int) (a2:Int) (a3:Int):Option (List Int × Int × Bool):=(spec_GoodPlan.f k l0).bind fun t147=>(if t147=true then ((spec_l6Node.f a1).bind fun t148=>(if t148=true then ((spec_l6When.f a2).bind fun t149=>(if t149=true then ((spec_l6Node.f a3).bind fun t150=>(spec_RouteTo.j0 k l0 a1 a2 a3 (!t150))) else (spec_RouteTo.j0 k l0 a1 a2 a3 true))) else (spec_RouteTo.j0 k l0 a1 a2 a3 true))) else (spec_RouteTo.j0 k l0 a1 a2 a3 true))
theorem spec_RouteTo.mono_l : ∀ k,(∀ y0 y1 y2 y3 y4,LeO (spec_RouteTo.j0 k y0 y1 y2 y3 y4) (spec_RouteTo.j0 (k+1) y0 y1 y2 y3 y4))∧(∀ y0 y1 y2 y3 y4 y5 y6,LeO (spec_RouteTo.l0 k y0 y1 y2 y3 y4 y5 y6) (spec_RouteTo.l0 (k+1) y0 y1 y2 y3 y4 y5 y6))
 | 0=>⟨fun _ _ _ _ _ r h=>by simp[spec_RouteTo.j0] at h,fun _ _ _ _ _ _ _ r h=>by simp[spec_RouteTo.l0] at h⟩
 | k+1=>by
  obtain⟨ih0,ih1⟩:=spec_RouteTo.mono_l k
  refine⟨?_,?_⟩
  ·intro y0 y1 y2 y3 y4
   unfold spec_RouteTo.j0
   repeat' first
   | (with_reducible exact ih0 _ _ _ _ _)
   | (with_reducible exact ih1 _ _ _ _ _ _ _)
   | (with_reducible exact spec_GoodPlan.mono _ _)
   | (with_reducible exact spec_l6Search.mono _ _ _ _)
   | (with_reducible exact LeO.refl _)
   | (with_reducible exact LeO.none _)
   | (with_reducible refine LeO.ite ?_ ?_)
   | (with_reducible refine LeO.bind ?_ (fun _ => ?_))
   | exact ih0 _ _ _ _ _
   | exact ih1 _ _ _ _ _ _ _
   | exact spec_GoodPlan.mono _ _
   | exact spec_l6Search.mono _ _ _ _
   | exact LeO.none _
   | refine LeO.ite ?_ ?_
   | refine LeO.bind ?_ (fun _ => ?_)
  ·intro y0 y1 y2 y3 y4 y5 y6
   unfold spec_RouteTo.l0
   repeat' first
   | (with_reducible exact ih0 _ _ _ _ _)
   | (with_reducible exact ih1 _ _ _ _ _ _ _)
   | (with_reducible exact spec_GoodPlan.mono _ _)
   | (with_reducible exact spec_l6Search.mono _ _ _ _)
   | (with_reducible exact LeO.refl _)
   | (with_reducible exact LeO.none _)
   | (with_reducible refine LeO.ite ?_ ?_)
   | (with_reducible refine LeO.bind ?_ (fun _ => ?_))
   | exact ih0 _ _ _ _ _
   | exact ih1 _ _ _ _ _ _ _
   | exact spec_GoodPlan.mono _ _
   | exact spec_l6Search.mono _ _ _ _
   | exact LeO.none _
   | refine LeO.ite ?_ ?_
   | refine LeO.bind ?_ (fun _ => ?_)
theorem spec_RouteTo.mono : ∀ a0 a1 a2 a3 k,LeO (spec_RouteTo.f k a0 a1 a2 a3) (spec_RouteTo.f (k+1) a0 a1 a2 a3):=by
 intro a0 a1 a2 a3 k
 obtain⟨ih0,ih1⟩:=spec_RouteTo.mono_l k
 unfold spec_RouteTo.f
 repeat' first
  | (with_reducible exact ih0 _ _ _ _ _)
  | (with_reducible exact ih1 _ _ _ _ _ _ _)
  | (with_reducible exact spec_GoodPlan.mono _ _)
  | (with_reducible exact spec_l6Search.mono _ _ _ _)
  | (with_reducible exact LeO.refl _)
  | (with_reducible exact LeO.none _)
  | (with_reducible refine LeO.ite ?_ ?_)
  | (with_reducible refine LeO.bind ?_ (fun _ => ?_))
  | exact ih0 _ _ _ _ _
  | exact ih1 _ _ _ _ _ _ _
  | exact spec_GoodPlan.mono _ _
  | exact spec_l6Search.mono _ _ _ _
  | exact LeO.none _
  | refine LeO.ite ?_ ?_
  | refine LeO.bind ?_ (fun _ => ?_)
set_option maxHeartbeats 8000000 in
set_option maxRecDepth 100000 in
theorem spec_RouteTo.calls (k:Nat) (A0:Option Addr) (c0:Nat) (l0:List (S165)) (a1:Int) (a2:Int) (a3:Int) (r1:List Int) (r2:Int) (r3:Bool) (w:World) (hr0:Kd.C k165 w A0 l0.length l0) (hc0:l0.length≤c0) (h:spec_RouteTo.f k l0 a1 a2 a3=some (r1,r2,r3)) :
  Calls Try.prog 191 #[.slice A0 l0.length c0,.int .i64 a1,.int .i64 a2,.int .i64 a3] w fun e w' => ∃ v0_:Value,e=.returned (.tuple #[v0_,.int .i64 r2,.bool r3])∧Kd.R (Kd.int .i64) 3 w' w.heap.size (fun _=>True) v0_ r1∧Below w.heap.size w w':=by
 have HR0:=Aside0.mk hr0
 have HC0:=Aside0.mk hc0
 clear hr0 hc0
 have HB:=Aside0.mk (Below.refl w.heap.size w)
 have H:((spec_GoodPlan.f k l0).bind fun t147=>(if t147=true then ((spec_l6Node.f a1).bind fun t148=>(if t148=true then ((spec_l6When.f a2).bind fun t149=>(if t149=true then ((spec_l6Node.f a3).bind fun t150=>(spec_RouteTo.j0 k l0 a1 a2 a3 (!t150))) else (spec_RouteTo.j0 k l0 a1 a2 a3 true))) else (spec_RouteTo.j0 k l0 a1 a2 a3 true))) else (spec_RouteTo.j0 k l0 a1 a2 a3 true)))=some (r1,r2,r3):=h
 clear h
 have HC5:=Aside0.mk H
 clear H
 go_enter Try.func191,Try.ntmps191
 go_upto_region 1 with (fail)
 repeat (go_quiet (fail);go_upto_region 1 with (fail))
 go_cut [32] (fun v32 wc => ∃ (kq:Nat) (x32_4:Bool),v32=.bool x32_4∧Aside0 (spec_RouteTo.j0 kq l0 a1 a2 a3 x32_4=some (r1,r2,r3))∧Aside0 (kq≤k)∧Aside0 (Below w.heap.size w wc))
 case first =>
  have H:=HC5.out
  clear HC5
  replace H:=Option.bind_eq_some_iff.mp H
  obtain⟨t147,A60,H⟩:=H
  replace H:(if t147=true then ((spec_l6Node.f a1).bind fun t148=>(if t148=true then ((spec_l6When.f a2).bind fun t149=>(if t149=true then ((spec_l6Node.f a3).bind fun t150=>(spec_RouteTo.j0 k l0 a1 a2 a3 (!t150))) else (spec_RouteTo.j0 k l0 a1 a2 a3 true))) else (spec_RouteTo.j0 k l0 a1 a2 a3 true))) else (spec_RouteTo.j0 k l0 a1 a2 a3 true))=some (r1,r2,r3):=H
  have A6:=Aside0.mk A60
  clear A60
  by_cases c7:t147=true
  ·subst c7
   have H1:((spec_l6Node.f a1).bind fun t148=>(if t148=true then ((spec_l6When.f a2).bind fun t149=>(if t149=true then ((spec_l6Node.f a3).bind fun t150=>(spec_RouteTo.j0 k l0 a1 a2 a3 (!t150))) else (spec_RouteTo.j0 k l0 a1 a2 a3 true))) else (spec_RouteTo.j0 k l0 a1 a2 a3 true)))=some (r1,r2,r3):=by rw[if_pos rfl] at H;exact H
   clear H
   have H:=H1
   clear H1
   replace H:=Option.bind_eq_some_iff.mp H
   obtain⟨t148,A80,H⟩:=H
   replace H:(if t148=true then ((spec_l6When.f a2).bind fun t149=>(if t149=true then ((spec_l6Node.f a3).bind fun t150=>(spec_RouteTo.j0 k l0 a1 a2 a3 (!t150))) else (spec_RouteTo.j0 k l0 a1 a2 a3 true))) else (spec_RouteTo.j0 k l0 a1 a2 a3 true))=some (r1,r2,r3):=H
   have A8:=Aside0.mk A80
   clear A80
   by_cases c9:t148=true
   ·subst c9
    have H1:((spec_l6When.f a2).bind fun t149=>(if t149=true then ((spec_l6Node.f a3).bind fun t150=>(spec_RouteTo.j0 k l0 a1 a2 a3 (!t150))) else (spec_RouteTo.j0 k l0 a1 a2 a3 true)))=some (r1,r2,r3):=by rw[if_pos rfl] at H;exact H
    clear H
    have H:=H1
    clear H1
    replace H:=Option.bind_eq_some_iff.mp H
    obtain⟨t149,A100,H⟩:=H
    replace H:(if t149=true then ((spec_l6Node.f a3).bind fun t150=>(spec_RouteTo.j0 k l0 a1 a2 a3 (!t150))) else (spec_RouteTo.j0 k l0 a1 a2 a3 true))=some (r1,r2,r3):=H
    have A10:=Aside0.mk A100
    clear A100
    by_cases c11:t149=true
    ·subst c11
     have H1:((spec_l6Node.f a3).bind fun t150=>(spec_RouteTo.j0 k l0 a1 a2 a3 (!t150)))=some (r1,r2,r3):=by rw[if_pos rfl] at H;exact H
     clear H
     have H:=H1
     clear H1
     replace H:=Option.bind_eq_some_iff.mp H
     obtain⟨t150,A120,H⟩:=H
     replace H:(spec_RouteTo.j0 k l0 a1 a2 a3 (!t150))=some (r1,r2,r3):=H
     have A12:=Aside0.mk A120
     clear A120
     have H':=Aside0.mk H
     clear H
     go_wp2_with (first|(go_at_call 227;(with_reducible refine(spec_GoodPlan.calls k _ _ l0 true _ ?side1 ?side2 A6.out).mono ?_);(case side1=>exact bC HR0.out);(case side2=>exact HC0.out);rintro e w13 ⟨rfl,hb⟩;have n0_:=Aside0.mk (below_step (bB) hb);clear HB;have HB:=n0_;clear n0_;(try clear hb);(try clear hb2);(try clear hk);(try clear hi))|(go_at_call 229;(with_reducible refine(spec_l6Node.calls a1 true _ A8.out).mono ?_);rintro e w' ⟨rfl,⟨nd,rfl⟩⟩;(try first|exact⟨rfl,_,World.drewN_drewN _ _ _⟩|exact⟨rfl,_,Eq.trans (World.drewN_drewN _ _ _) (congrArg (World.drewN _) (Nat.add_assoc _ _ _))⟩))|(go_at_call 230;(with_reducible refine(spec_l6When.calls a2 true _ A10.out).mono ?_);rintro e w' ⟨rfl,⟨nd,rfl⟩⟩;(try first|exact⟨rfl,_,World.drewN_drewN _ _ _⟩|exact⟨rfl,_,Eq.trans (World.drewN_drewN _ _ _) (congrArg (World.drewN _) (Nat.add_assoc _ _ _))⟩))|(go_at_call 229;(with_reducible refine(spec_l6Node.calls a3 t150 _ A12.out).mono ?_);rintro e w' ⟨rfl,⟨nd,rfl⟩⟩;(try first|exact⟨rfl,_,World.drewN_drewN _ _ _⟩|exact⟨rfl,_,Eq.trans (World.drewN_drewN _ _ _) (congrArg (World.drewN _) (Nat.add_assoc _ _ _))⟩)))
     repeat (go_quiet (first|(go_at_call 227;(with_reducible refine(spec_GoodPlan.calls k _ _ l0 true _ ?side1 ?side2 A6.out).mono ?_);(case side1=>exact bC HR0.out);(case side2=>exact HC0.out);rintro e w13 ⟨rfl,hb⟩;have n0_:=Aside0.mk (below_step (bB) hb);clear HB;have HB:=n0_;clear n0_;(try clear hb);(try clear hb2);(try clear hk);(try clear hi))|(go_at_call 229;(with_reducible refine(spec_l6Node.calls a1 true _ A8.out).mono ?_);rintro e w' ⟨rfl,⟨nd,rfl⟩⟩;(try first|exact⟨rfl,_,World.drewN_drewN _ _ _⟩|exact⟨rfl,_,Eq.trans (World.drewN_drewN _ _ _) (congrArg (World.drewN _) (Nat.add_assoc _ _ _))⟩))|(go_at_call 230;(with_reducible refine(spec_l6When.calls a2 true _ A10.out).mono ?_);rintro e w' ⟨rfl,⟨nd,rfl⟩⟩;(try first|exact⟨rfl,_,World.drewN_drewN _ _ _⟩|exact⟨rfl,_,Eq.trans (World.drewN_drewN _ _ _) (congrArg (World.drewN _) (Nat.add_assoc _ _ _))⟩))|(go_at_call 229;(with_reducible refine(spec_l6Node.calls a3 t150 _ A12.out).mono ?_);rintro e w' ⟨rfl,⟨nd,rfl⟩⟩;(try first|exact⟨rfl,_,World.drewN_drewN _ _ _⟩|exact⟨rfl,_,Eq.trans (World.drewN_drewN _ _ _) (congrArg (World.drewN _) (Nat.add_assoc _ _ _))⟩)));try go_wp2_with (first|(go_at_call 227;(with_reducible refine(spec_GoodPlan.calls k _ _ l0 true _ ?side1 ?side2 A6.out).mono ?_);(case side1=>exact bC HR0.out);(case side2=>exact HC0.out);rintro e w13 ⟨rfl,hb⟩;have n0_:=Aside0.mk (below_step (bB) hb);clear HB;have HB:=n0_;clear n0_;(try clear hb);(try clear hb2);(try clear hk);(try clear hi))|(go_at_call 229;(with_reducible refine(spec_l6Node.calls a1 true _ A8.out).mono ?_);rintro e w' ⟨rfl,⟨nd,rfl⟩⟩;(try first|exact⟨rfl,_,World.drewN_drewN _ _ _⟩|exact⟨rfl,_,Eq.trans (World.drewN_drewN _ _ _) (congrArg (World.drewN _) (Nat.add_assoc _ _ _))⟩))|(go_at_call 230;(with_reducible refine(spec_l6When.calls a2 true _ A10.out).mono ?_);rintro e w' ⟨rfl,⟨nd,rfl⟩⟩;(try first|exact⟨rfl,_,World.drewN_drewN _ _ _⟩|exact⟨rfl,_,Eq.trans (World.drewN_drewN _ _ _) (congrArg (World.drewN _) (Nat.add_assoc _ _ _))⟩))|(go_at_call 229;(with_reducible refine(spec_l6Node.calls a3 t150 _ A12.out).mono ?_);rintro e w' ⟨rfl,⟨nd,rfl⟩⟩;(try first|exact⟨rfl,_,World.drewN_drewN _ _ _⟩|exact⟨rfl,_,Eq.trans (World.drewN_drewN _ _ _) (congrArg (World.drewN _) (Nat.add_assoc _ _ _))⟩))))
     go_meet
     case rel=>exact⟨_,(!t150),(bR),H',⟨by first|omega|exact Nat.le_refl _⟩,⟨by repeat (first|(with_reducible first|exact HB.out|apply below_alloc|apply pw_below_drewN|apply below_drew1)|exact HB.out)⟩⟩
    ·replace c11:=Bool.eq_false_iff.mpr c11
     subst c11
     have H1:(spec_RouteTo.j0 k l0 a1 a2 a3 true)=some (r1,r2,r3):=by rw[if_neg (show ¬ (false=true) by decide)] at H;exact H
     clear H
     have H:=H1
     clear H1
     have H':=Aside0.mk H
     clear H
     go_wp2_with (first|(go_at_call 227;(with_reducible refine(spec_GoodPlan.calls k _ _ l0 true _ ?side1 ?side2 A6.out).mono ?_);(case side1=>exact bC HR0.out);(case side2=>exact HC0.out);rintro e w14 ⟨rfl,hb⟩;have n0_:=Aside0.mk (below_step (bB) hb);clear HB;have HB:=n0_;clear n0_;(try clear hb);(try clear hb2);(try clear hk);(try clear hi))|(go_at_call 229;(with_reducible refine(spec_l6Node.calls a1 true _ A8.out).mono ?_);rintro e w' ⟨rfl,⟨nd,rfl⟩⟩;(try first|exact⟨rfl,_,World.drewN_drewN _ _ _⟩|exact⟨rfl,_,Eq.trans (World.drewN_drewN _ _ _) (congrArg (World.drewN _) (Nat.add_assoc _ _ _))⟩))|(go_at_call 230;(with_reducible refine(spec_l6When.calls a2 false _ A10.out).mono ?_);rintro e w' ⟨rfl,⟨nd,rfl⟩⟩;(try first|exact⟨rfl,_,World.drewN_drewN _ _ _⟩|exact⟨rfl,_,Eq.trans (World.drewN_drewN _ _ _) (congrArg (World.drewN _) (Nat.add_assoc _ _ _))⟩)))
     repeat (go_quiet (first|(go_at_call 227;(with_reducible refine(spec_GoodPlan.calls k _ _ l0 true _ ?side1 ?side2 A6.out).mono ?_);(case side1=>exact bC HR0.out);(case side2=>exact HC0.out);rintro e w14 ⟨rfl,hb⟩;have n0_:=Aside0.mk (below_step (bB) hb);clear HB;have HB:=n0_;clear n0_;(try clear hb);(try clear hb2);(try clear hk);(try clear hi))|(go_at_call 229;(with_reducible refine(spec_l6Node.calls a1 true _ A8.out).mono ?_);rintro e w' ⟨rfl,⟨nd,rfl⟩⟩;(try first|exact⟨rfl,_,World.drewN_drewN _ _ _⟩|exact⟨rfl,_,Eq.trans (World.drewN_drewN _ _ _) (congrArg (World.drewN _) (Nat.add_assoc _ _ _))⟩))|(go_at_call 230;(with_reducible refine(spec_l6When.calls a2 false _ A10.out).mono ?_);rintro e w' ⟨rfl,⟨nd,rfl⟩⟩;(try first|exact⟨rfl,_,World.drewN_drewN _ _ _⟩|exact⟨rfl,_,Eq.trans (World.drewN_drewN _ _ _) (congrArg (World.drewN _) (Nat.add_assoc _ _ _))⟩)));try go_wp2_with (first|(go_at_call 227;(with_reducible refine(spec_GoodPlan.calls k _ _ l0 true _ ?side1 ?side2 A6.out).mono ?_);(case side1=>exact bC HR0.out);(case side2=>exact HC0.out);rintro e w14 ⟨rfl,hb⟩;have n0_:=Aside0.mk (below_step (bB) hb);clear HB;have HB:=n0_;clear n0_;(try clear hb);(try clear hb2);(try clear hk);(try clear hi))|(go_at_call 229;(with_reducible refine(spec_l6Node.calls a1 true _ A8.out).mono ?_);rintro e w' ⟨rfl,⟨nd,rfl⟩⟩;(try first|exact⟨rfl,_,World.drewN_drewN _ _ _⟩|exact⟨rfl,_,Eq.trans (World.drewN_drewN _ _ _) (congrArg (World.drewN _) (Nat.add_assoc _ _ _))⟩))|(go_at_call 230;(with_reducible refine(spec_l6When.calls a2 false _ A10.out).mono ?_);rintro e w' ⟨rfl,⟨nd,rfl⟩⟩;(try first|exact⟨rfl,_,World.drewN_drewN _ _ _⟩|exact⟨rfl,_,Eq.trans (World.drewN_drewN _ _ _) (congrArg (World.drewN _) (Nat.add_assoc _ _ _))⟩))))
     go_meet
     case rel=>exact⟨_,(true),(bR),H',⟨by first|omega|exact Nat.le_refl _⟩,⟨by repeat (first|(with_reducible first|exact HB.out|apply below_alloc|apply pw_below_drewN|apply below_drew1)|exact HB.out)⟩⟩
   ·replace c9:=Bool.eq_false_iff.mpr c9
    subst c9
    have H1:(spec_RouteTo.j0 k l0 a1 a2 a3 true)=some (r1,r2,r3):=by rw[if_neg (show ¬ (false=true) by decide)] at H;exact H
    clear H
    have H:=H1
    clear H1
    have H':=Aside0.mk H
    clear H
    go_wp2_with (first|(go_at_call 227;(with_reducible refine(spec_GoodPlan.calls k _ _ l0 true _ ?side1 ?side2 A6.out).mono ?_);(case side1=>exact bC HR0.out);(case side2=>exact HC0.out);rintro e w15 ⟨rfl,hb⟩;have n0_:=Aside0.mk (below_step (bB) hb);clear HB;have HB:=n0_;clear n0_;(try clear hb);(try clear hb2);(try clear hk);(try clear hi))|(go_at_call 229;(with_reducible refine(spec_l6Node.calls a1 false _ A8.out).mono ?_);rintro e w' ⟨rfl,⟨nd,rfl⟩⟩;(try first|exact⟨rfl,_,World.drewN_drewN _ _ _⟩|exact⟨rfl,_,Eq.trans (World.drewN_drewN _ _ _) (congrArg (World.drewN _) (Nat.add_assoc _ _ _))⟩)))
    repeat (go_quiet (first|(go_at_call 227;(with_reducible refine(spec_GoodPlan.calls k _ _ l0 true _ ?side1 ?side2 A6.out).mono ?_);(case side1=>exact bC HR0.out);(case side2=>exact HC0.out);rintro e w15 ⟨rfl,hb⟩;have n0_:=Aside0.mk (below_step (bB) hb);clear HB;have HB:=n0_;clear n0_;(try clear hb);(try clear hb2);(try clear hk);(try clear hi))|(go_at_call 229;(with_reducible refine(spec_l6Node.calls a1 false _ A8.out).mono ?_);rintro e w' ⟨rfl,⟨nd,rfl⟩⟩;(try first|exact⟨rfl,_,World.drewN_drewN _ _ _⟩|exact⟨rfl,_,Eq.trans (World.drewN_drewN _ _ _) (congrArg (World.drewN _) (Nat.add_assoc _ _ _))⟩)));try go_wp2_with (first|(go_at_call 227;(with_reducible refine(spec_GoodPlan.calls k _ _ l0 true _ ?side1 ?side2 A6.out).mono ?_);(case side1=>exact bC HR0.out);(case side2=>exact HC0.out);rintro e w15 ⟨rfl,hb⟩;have n0_:=Aside0.mk (below_step (bB) hb);clear HB;have HB:=n0_;clear n0_;(try clear hb);(try clear hb2);(try clear hk);(try clear hi))|(go_at_call 229;(with_reducible refine(spec_l6Node.calls a1 false _ A8.out).mono ?_);rintro e w' ⟨rfl,⟨nd,rfl⟩⟩;(try first|exact⟨rfl,_,World.drewN_drewN _ _ _⟩|exact⟨rfl,_,Eq.trans (World.drewN_drewN _ _ _) (congrArg (World.drewN _) (Nat.add_assoc _ _ _))⟩))))
    go_meet
    case rel=>exact⟨_,(true),(bR),H',⟨by first|omega|exact Nat.le_refl _⟩,⟨by repeat (first|(with_reducible first|exact HB.out|apply below_alloc|apply pw_below_drewN|apply below_drew1)|exact HB.out)⟩⟩
  ·replace c7:=Bool.eq_false_iff.mpr c7
   subst c7
   have H1:(spec_RouteTo.j0 k l0 a1 a2 a3 true)=some (r1,r2,r3):=by rw[if_neg (show ¬ (false=true) by decide)] at H;exact H
   clear H
   have H:=H1
   clear H1
   have H':=Aside0.mk H
   clear H
   go_wp2_with (first|(go_at_call 227;(with_reducible refine(spec_GoodPlan.calls k _ _ l0 false _ ?side1 ?side2 A6.out).mono ?_);(case side1=>exact bC HR0.out);(case side2=>exact HC0.out);rintro e w16 ⟨rfl,hb⟩;have n0_:=Aside0.mk (below_step (bB) hb);clear HB;have HB:=n0_;clear n0_;(try clear hb);(try clear hb2);(try clear hk);(try clear hi)))
   repeat (go_quiet (first|(go_at_call 227;(with_reducible refine(spec_GoodPlan.calls k _ _ l0 false _ ?side1 ?side2 A6.out).mono ?_);(case side1=>exact bC HR0.out);(case side2=>exact HC0.out);rintro e w16 ⟨rfl,hb⟩;have n0_:=Aside0.mk (below_step (bB) hb);clear HB;have HB:=n0_;clear n0_;(try clear hb);(try clear hb2);(try clear hk);(try clear hi)));try go_wp2_with (first|(go_at_call 227;(with_reducible refine(spec_GoodPlan.calls k _ _ l0 false _ ?side1 ?side2 A6.out).mono ?_);(case side1=>exact bC HR0.out);(case side2=>exact HC0.out);rintro e w16 ⟨rfl,hb⟩;have n0_:=Aside0.mk (below_step (bB) hb);clear HB;have HB:=n0_;clear n0_;(try clear hb);(try clear hb2);(try clear hk);(try clear hi))))
   go_meet
   case rel=>exact⟨_,(true),(bR),H',⟨by first|omega|exact Nat.le_refl _⟩,⟨by repeat (first|(with_reducible first|exact HB.out|apply below_alloc|apply pw_below_drewN|apply below_drew1)|exact HB.out)⟩⟩
 case rest =>
  clear HC5
  try clear c1
  try clear p2
  try clear c7
  try clear c9
  try clear c11
  obtain⟨kq,x32_4,rfl,HA,HJ4,HB⟩:=hcut
  cases kq with
  | zero=>exact absurd HA.out (by simp[spec_RouteTo.j0])
  | succ kj4 =>
   have H:=HA.out
   clear HA
   simp only[spec_RouteTo.j0] at H
   by_cases c17:x32_4=true
   ·subst c17
    have H1:(some (([]:List Int),0,false))=some (r1,r2,r3):=by rw[if_pos rfl] at H;exact H
    clear H
    have H:=H1
    clear H1
    simp only[Option.some.injEq,Prod.mk.injEq] at H
    obtain⟨rfl,rfl,rfl⟩:=H
    go_wp2
    repeat (go_quiet (fail);try go_wp2)
    go_ret3
    exact⟨_,by first|rfl|(simp[errW_none,errW_some]<;>rfl)|(simp[*,errW_none,errW_some]<;>rfl),by first|exact Kd.R_nil _ _ _ _ _|exact Kd.N_nil _ _ _ _ _|exact Kd.V_nil _ _ _ _ _|exact Kd.Q_nil _ _ _ _ _|exact Kd.S_nil _ _ _ _ _,bB⟩
   ·replace c17:=Bool.eq_false_iff.mpr c17
    subst c17
    have H1:((spec_l6Search.f kj4 l0 a1 a2).bind fun bt151=>(if 0≤a3 then (if a3 < (bt151.1.length:Int) then (if (rd bt151.1 a3) < 0 then (some (([]:List Int),0,false)) else (spec_RouteTo.l0 kj4 l0 a1 a3 bt151.1 bt151.2 ([]:List Int) a3)) else (none)) else (none)))=some (r1,r2,r3):=by rw[if_neg (show ¬ (false=true) by decide)] at H;exact H
    clear H
    have H:=H1
    clear H1
    replace H:=Option.bind_eq_some_iff.mp H
    obtain⟨⟨t151,t152⟩,A180,H⟩:=H
    replace H:(if 0≤a3 then (if a3 < (t151.length:Int) then (if (rd t151 a3) < 0 then (some (([]:List Int),0,false)) else (spec_RouteTo.l0 kj4 l0 a1 a3 t151 t152 ([]:List Int) a3)) else (none)) else (none))=some (r1,r2,r3):=H
    have A18:=Aside0.mk A180
    clear A180
    by_cases c19:0≤a3
    ·rw[if_pos c19] at H
     have c19b0:decide (0≤a3)=true:=decide_eq_true c19
     clear c19
     by_cases c20:a3 < (t151.length:Int)
     ·rw[if_pos c20] at H
      have c20b0:decide (a3 < (t151.length:Int))=true:=decide_eq_true c20
      clear c20
      by_cases c21:(rd t151 a3) < 0
      ·rw[if_pos c21] at H
       have c21b0:decide ((rd t151 a3) < 0)=true:=decide_eq_true c21
       clear c21
       simp only[Option.some.injEq,Prod.mk.injEq] at H
       obtain⟨rfl,rfl,rfl⟩:=H
       go_wp2_with (first|(go_at_call 231;(with_reducible refine(spec_l6Search.calls kj4 _ _ l0 a1 a2 t151 t152 _ ?side1 ?side2 A18.out).mono ?_);(case side1=>exact bC HR0.out);(case side2=>exact HC0.out);rintro e w22 ⟨v153,v155,rfl,ho0,ho1,hb⟩;have n0_:=Aside0.mk (Kd.R_lower ho0 (below_size (bB)));have n1_:=Aside0.mk (Kd.R_lower ho1 (below_size (bB)));have n2_:=Aside0.mk (below_step (bB) hb);clear HB;have HO154:=n0_;have HO156:=n1_;have HB:=n2_;clear n0_ n1_ n2_;(try clear hb);(try clear hb2);(try clear hk);(try clear hi);(try clear ho0);(try clear ho1);obtain⟨Ao23,co23,eo23⟩:=Kd.R_slice HO154.out;subst eo23;have p157:0≤(a3:Int):=of_decide_eq_true (bD);have q157:a3 < (t151.length:Int):=of_decide_eq_true (bD);obtain⟨ad157,e157,hx157_0⟩:=Kd.at_int (Kd.R_reads' HO154.out).2.2 a3 p157 q157;cases e157;replace p157:=eq_true p157;replace q157:=eq_true q157))
       repeat (go_quiet (first|(go_at_call 231;(with_reducible refine(spec_l6Search.calls kj4 _ _ l0 a1 a2 t151 t152 _ ?side1 ?side2 A18.out).mono ?_);(case side1=>exact bC HR0.out);(case side2=>exact HC0.out);rintro e w22 ⟨v153,v155,rfl,ho0,ho1,hb⟩;have n0_:=Aside0.mk (Kd.R_lower ho0 (below_size (bB)));have n1_:=Aside0.mk (Kd.R_lower ho1 (below_size (bB)));have n2_:=Aside0.mk (below_step (bB) hb);clear HB;have HO154:=n0_;have HO156:=n1_;have HB:=n2_;clear n0_ n1_ n2_;(try clear hb);(try clear hb2);(try clear hk);(try clear hi);(try clear ho0);(try clear ho1);obtain⟨Ao23,co23,eo23⟩:=Kd.R_slice HO154.out;subst eo23;have p157:0≤(a3:Int):=of_decide_eq_true (bD);have q157:a3 < (t151.length:Int):=of_decide_eq_true (bD);obtain⟨ad157,e157,hx157_0⟩:=Kd.at_int (Kd.R_reads' HO154.out).2.2 a3 p157 q157;cases e157;replace p157:=eq_true p157;replace q157:=eq_true q157));try go_wp2_with (first|(go_at_call 231;(with_reducible refine(spec_l6Search.calls kj4 _ _ l0 a1 a2 t151 t152 _ ?side1 ?side2 A18.out).mono ?_);(case side1=>exact bC HR0.out);(case side2=>exact HC0.out);rintro e w22 ⟨v153,v155,rfl,ho0,ho1,hb⟩;have n0_:=Aside0.mk (Kd.R_lower ho0 (below_size (bB)));have n1_:=Aside0.mk (Kd.R_lower ho1 (below_size (bB)));have n2_:=Aside0.mk (below_step (bB) hb);clear HB;have HO154:=n0_;have HO156:=n1_;have HB:=n2_;clear n0_ n1_ n2_;(try clear hb);(try clear hb2);(try clear hk);(try clear hi);(try clear ho0);(try clear ho1);obtain⟨Ao23,co23,eo23⟩:=Kd.R_slice HO154.out;subst eo23;have p157:0≤(a3:Int):=of_decide_eq_true (bD);have q157:a3 < (t151.length:Int):=of_decide_eq_true (bD);obtain⟨ad157,e157,hx157_0⟩:=Kd.at_int (Kd.R_reads' HO154.out).2.2 a3 p157 q157;cases e157;replace p157:=eq_true p157;replace q157:=eq_true q157)))
       go_ret3
       exact⟨_,by first|rfl|(simp[errW_none,errW_some]<;>rfl)|(simp[*,errW_none,errW_some]<;>rfl),by first|exact Kd.R_nil _ _ _ _ _|exact Kd.N_nil _ _ _ _ _|exact Kd.V_nil _ _ _ _ _|exact Kd.Q_nil _ _ _ _ _|exact Kd.S_nil _ _ _ _ _,bB⟩
      ·rw[if_neg c21] at H
       have c21b0:decide ((rd t151 a3) < 0)=false:=decide_eq_false c21
       clear c21
       have H':=Aside0.mk H
       clear H
       go_wp2_with (first|(go_at_call 231;(with_reducible refine(spec_l6Search.calls kj4 _ _ l0 a1 a2 t151 t152 _ ?side1 ?side2 A18.out).mono ?_);(case side1=>exact bC HR0.out);(case side2=>exact HC0.out);rintro e w24 ⟨v153,v155,rfl,ho0,ho1,hb⟩;have n0_:=Aside0.mk (Kd.R_lower ho0 (below_size (bB)));have n1_:=Aside0.mk (Kd.R_lower ho1 (below_size (bB)));have n2_:=Aside0.mk (below_step (bB) hb);clear HB;have HO154:=n0_;have HO156:=n1_;have HB:=n2_;clear n0_ n1_ n2_;(try clear hb);(try clear hb2);(try clear hk);(try clear hi);(try clear ho0);(try clear ho1);obtain⟨Ao25,co25,eo25⟩:=Kd.R_slice HO154.out;subst eo25;have p157:0≤(a3:Int):=of_decide_eq_true (bD);have q157:a3 < (t151.length:Int):=of_decide_eq_true (bD);obtain⟨ad157,e157,hx157_0⟩:=Kd.at_int (Kd.R_reads' HO154.out).2.2 a3 p157 q157;cases e157;replace p157:=eq_true p157;replace q157:=eq_true q157))
       repeat (go_quiet (first|(go_at_call 231;(with_reducible refine(spec_l6Search.calls kj4 _ _ l0 a1 a2 t151 t152 _ ?side1 ?side2 A18.out).mono ?_);(case side1=>exact bC HR0.out);(case side2=>exact HC0.out);rintro e w24 ⟨v153,v155,rfl,ho0,ho1,hb⟩;have n0_:=Aside0.mk (Kd.R_lower ho0 (below_size (bB)));have n1_:=Aside0.mk (Kd.R_lower ho1 (below_size (bB)));have n2_:=Aside0.mk (below_step (bB) hb);clear HB;have HO154:=n0_;have HO156:=n1_;have HB:=n2_;clear n0_ n1_ n2_;(try clear hb);(try clear hb2);(try clear hk);(try clear hi);(try clear ho0);(try clear ho1);obtain⟨Ao25,co25,eo25⟩:=Kd.R_slice HO154.out;subst eo25;have p157:0≤(a3:Int):=of_decide_eq_true (bD);have q157:a3 < (t151.length:Int):=of_decide_eq_true (bD);obtain⟨ad157,e157,hx157_0⟩:=Kd.at_int (Kd.R_reads' HO154.out).2.2 a3 p157 q157;cases e157;replace p157:=eq_true p157;replace q157:=eq_true q157));try go_wp2_with (first|(go_at_call 231;(with_reducible refine(spec_l6Search.calls kj4 _ _ l0 a1 a2 t151 t152 _ ?side1 ?side2 A18.out).mono ?_);(case side1=>exact bC HR0.out);(case side2=>exact HC0.out);rintro e w24 ⟨v153,v155,rfl,ho0,ho1,hb⟩;have n0_:=Aside0.mk (Kd.R_lower ho0 (below_size (bB)));have n1_:=Aside0.mk (Kd.R_lower ho1 (below_size (bB)));have n2_:=Aside0.mk (below_step (bB) hb);clear HB;have HO154:=n0_;have HO156:=n1_;have HB:=n2_;clear n0_ n1_ n2_;(try clear hb);(try clear hb2);(try clear hk);(try clear hi);(try clear ho0);(try clear ho1);obtain⟨Ao25,co25,eo25⟩:=Kd.R_slice HO154.out;subst eo25;have p157:0≤(a3:Int):=of_decide_eq_true (bD);have q157:a3 < (t151.length:Int):=of_decide_eq_true (bD);obtain⟨ad157,e157,hx157_0⟩:=Kd.at_int (Kd.R_reads' HO154.out).2.2 a3 p157 q157;cases e157;replace p157:=eq_true p157;replace q157:=eq_true q157)))
       go_loopg [13,14] kj4 (fun kq v13 v14 w' => ∃ (x13_2:List Int) (x14_2:Int),v14=.int .i64 x14_2∧Aside0 (spec_RouteTo.l0 kq l0 a1 a3 t151 t152 x13_2 x14_2=some (r1,r2,r3))∧Aside0 (kq≤kj4)∧Aside0 (Kd.R (Kd.int .i64) 3 w' w.heap.size (fun k_=>some k_≠(v155:Value).ownBlock∧some k_≠(v13:Value).ownBlock) (.slice (some ad157) t151.length co25) t151)∧Aside0 (Kd.R (Kd.int .i64) 3 w' w.heap.size (fun k_=>some k_≠((.slice (some ad157) t151.length co25):Value).ownBlock∧some k_≠(v13:Value).ownBlock) v155 t152)∧Aside0 (Kd.R (Kd.int .i64) 3 w' w.heap.size (fun k_=>some k_≠((.slice (some ad157) t151.length co25):Value).ownBlock∧some k_≠(v155:Value).ownBlock) v13 x13_2)∧Aside0 (Below w.heap.size w w'))
       case atStart=>exact⟨(([]:List Int)),(a3),(bR),H',⟨Nat.le_refl _⟩,⟨by(with_reducible repeat (first|apply Kd.R_alloc|apply Kd.R_drewN|apply Kd.R_drew));exact Kd.R_mono HO154.out (fun _ hk=>⟨hk,(by simp[Value.ownBlock])⟩)⟩,⟨by(with_reducible repeat (first|apply Kd.R_alloc|apply Kd.R_drewN|apply Kd.R_drew));exact Kd.R_mono HO156.out (fun _ hk=>⟨hk,(by simp[Value.ownBlock])⟩)⟩,⟨by first|exact Kd.R_nil _ _ _ _ _|exact Kd.N_nil _ _ _ _ _|exact Kd.V_nil _ _ _ _ _|exact Kd.Q_nil _ _ _ _ _|exact Kd.S_nil _ _ _ _ _⟩,⟨by repeat (first|(with_reducible first|exact HB.out|apply below_alloc|apply pw_below_drewN|apply below_drew1)|exact HB.out)⟩⟩
       case round =>
        clear H'
        try clear c1
        try clear p1
        try clear q1
        try clear hx1
        try clear c2
        try clear p2
        try clear c7
        try clear c9
        try clear c11
        try clear p15
        try clear q15
        try clear hx15
        try clear c17
        try clear c19
        try clear c19b0
        try clear c20
        try clear c20b0
        try clear c21
        try clear c21b0
        try clear hx157_0
        try clear p157
        try clear p2
        try clear q157
        obtain⟨x13_2,x14_2,rfl,HA,HK2,HO_11,HO_12,HO_13,HB⟩:=hrel
        cases gk with
        | zero=>exact absurd HA.out (by simp[spec_RouteTo.l0])
        | succ k2 =>
         have H:=HA.out
         clear HA
         simp only[spec_RouteTo.l0] at H
         by_cases c26:x14_2=a1
         ·rw[if_pos c26] at H
          have c26b0:(x14_2 == a1)=true:=beq_iff_eq.mpr c26
          have c26b1:(x14_2 != a1)=false:=bne_eq_false_iff_eq.mpr c26
          clear c26
          by_cases c27:0≤a3
          ·rw[if_pos c27] at H
           have c27b0:decide (0≤a3)=true:=decide_eq_true c27
           clear c27
           by_cases c28:a3 < (t151.length:Int)
           ·rw[if_pos c28] at H
            have c28b0:decide (a3 < (t151.length:Int))=true:=decide_eq_true c28
            clear c28
            simp only[Option.some.injEq,Prod.mk.injEq] at H
            obtain⟨rfl,rfl,rfl⟩:=H
            have p158:0≤(a3:Int):=of_decide_eq_true (bD)
            have q158:a3 < (t151.length:Int):=of_decide_eq_true (bD)
            obtain⟨ad158,e158,hx158_0⟩:=Kd.at_int (Kd.R_reads' HO_11.out).2.2 a3 p158 q158
            obtain rfl:ad157=ad158:=(by injection e158)
            replace p158:=eq_true p158
            replace q158:=eq_true q158
            go_wp2
            repeat (go_quiet (fail);try go_wp2)
            go_ret3
            exact⟨_,by first|rfl|(simp[errW_none,errW_some]<;>rfl)|(simp[*,errW_none,errW_some]<;>rfl),by(with_reducible repeat (first|apply Kd.R_alloc|apply Kd.R_drewN|apply Kd.R_drew));exact Kd.R_mono HO_13.out (fun _ hk=>trivial),bB⟩
           ·rw[if_neg c28] at H
            exact absurd H (by simp)
          ·rw[if_neg c27] at H
           exact absurd H (by simp)
         ·rw[if_neg c26] at H
          have c26b0:(x14_2 == a1)=false:=beq_eq_false_iff_ne.mpr c26
          have c26b1:(x14_2 != a1)=true:=bne_iff_ne.mpr c26
          by_cases c29:0≤x14_2
          ·rw[if_pos c29] at H
           have c29b0:decide (0≤x14_2)=true:=decide_eq_true c29
           clear c29
           by_cases c30:x14_2 < (t152.length:Int)
           ·rw[if_pos c30] at H
            have c30b0:decide (x14_2 < (t152.length:Int))=true:=decide_eq_true c30
            clear c30
            obtain⟨y160,hy160⟩ : ∃ y_:List Int,y_=(([rd t152 x14_2]:List Int)):=⟨_,rfl⟩
            replace H:(if y160.length+x13_2.length < 17592186044416 then (if 0≤(rd t152 x14_2) then (if (rd t152 x14_2) < (l0.length:Int) then (spec_RouteTo.l0 k2 l0 a1 a3 t151 t152 (y160++x13_2) ((rd_T165 l0 (rd t152 x14_2)).f0)) else (none)) else (none)) else (none))=some (r1,r2,r3):=by first|(rw[hy160];with_reducible exact H)|(have H2_:=(Option.bind_some _ _).symm.trans H;rw[hy160];with_reducible exact H2_)|(have H2_:=(Option.bind_some _ _).symm.trans H;with_reducible exact H2_)|with_reducible exact H|(rw[hy160];exact H)|exact H
            have Ny160:=Aside0.mk hy160
            clear hy160
            by_cases c31:y160.length+x13_2.length < 17592186044416
            ·rw[if_pos c31] at H
             have LMc31:=Aside0.mk c31
             clear c31
             obtain⟨y163,hy163⟩ : ∃ y_:List Int,y_=(y160++x13_2):=⟨_,rfl⟩
             replace H:(if 0≤(rd t152 x14_2) then (if (rd t152 x14_2) < (l0.length:Int) then (spec_RouteTo.l0 k2 l0 a1 a3 t151 t152 y163 ((rd_T165 l0 (rd t152 x14_2)).f0)) else (none)) else (none))=some (r1,r2,r3):=by first|(rw[hy163];with_reducible exact H)|(have H2_:=(Option.bind_some _ _).symm.trans H;rw[hy163];with_reducible exact H2_)|(have H2_:=(Option.bind_some _ _).symm.trans H;with_reducible exact H2_)|with_reducible exact H|(rw[hy163];exact H)|exact H
             have Ny163:=Aside0.mk hy163
             clear hy163
             by_cases c32:0≤(rd t152 x14_2)
             ·rw[if_pos c32] at H
              have c32b0:decide (0≤(rd t152 x14_2))=true:=decide_eq_true c32
              clear c32
              by_cases c33:(rd t152 x14_2) < (l0.length:Int)
              ·rw[if_pos c33] at H
               have c33b0:decide ((rd t152 x14_2) < (l0.length:Int))=true:=decide_eq_true c33
               clear c33
               have H':=Aside0.mk H
               clear H
               obtain⟨Ao34,co34,eo34⟩:=Kd.R_slice HO_12.out
               subst eo34
               have p159:0≤(x14_2:Int):=of_decide_eq_true (bD)
               have q159:x14_2 < (t152.length:Int):=of_decide_eq_true (bD)
               obtain⟨ad159,e159,hx159_0⟩:=Kd.at_int (Kd.R_reads' HO_12.out).2.2 x14_2 p159 q159
               cases e159
               replace p159:=eq_true p159
               replace q159:=eq_true q159
               go_wp2_with (first|((with_reducible refine gate_dst (N:=61) rfl ?_);refine Kd.R_lit (Kd.int .i64) _ 3 ?hg (N:=61) ?hd (xs:=([rd t152 x14_2]:List Int)) (inner:=[.int .i64 (rd t152 x14_2)]) (ok:=fun _=>True) (okp:=fun _=>True) ?hr ?hp (fun _ hk=>hk) trivial (Below.refl _ _) (Nat.le_refl _) (by simp) ?_;(case hd=>rfl);(case hg=>rfl);(case hr=>first|(go_simp;done)|(go_simp;rfl));(case hp=>exact(Reps.one (show Kd.M (Kd.int .i64) _ _ _ (rd t152 x14_2) [.int .i64 (rd t152 x14_2)] from rfl) (Reps.none _ _)));intro v161 w35 ho36 hb hg_ hnew_;clear hg_ hnew_;(first|rw[← Ny160.out] at ho36|(simp only[Int.reduceToNat] at ho36;rw[← Ny160.out] at ho36));have n0_:=Aside0.mk (Kd.R_elder' (bK HO_11.out) (Kd.R_base ho36) hb);have n1_:=Aside0.mk (Kd.R_elder' (bK HO_12.out) (Kd.R_base ho36) hb);have n2_:=Aside0.mk (Kd.R_elder' (bK HO_13.out) (Kd.R_base ho36) hb);have n3_:=Aside0.mk (Kd.R_lower (Kd.R_new' (Kd.R_new' (Kd.R_new' ho36 (Kd.R_lt (bK HO_11.out))) (Kd.R_lt (bK HO_12.out))) (Kd.R_lt (bK HO_13.out))) (below_size (bB)));have n4_:=Aside0.mk (below_step (bB) hb);clear HO_11 HO_12 HO_13 HB;have HO_11:=n0_;have HO_12:=n1_;have HO_13:=n2_;have HO162:=n3_;have HB:=n4_;clear n0_ n1_ n2_ n3_ n4_;clear hb ho36;obtain⟨Ao38,co38,eo38⟩:=Kd.R_slice HO_13.out;subst eo38)|((with_reducible refine gate_builtin (b:=.append) (xs:=#[.tmp 61,.tmp 62]) rfl ?_);at_builtin;refine Kd.R_append_rows (Kd.int .i64) (w0:=w) w.heap.size rfl (.tmp 61) (.tmp 62) 47 3 (.int .i64 0) 8 rfl Try.underlying47 info3 rfl (by decide) (by omega) v161 y160 x13_2 _ _ _ (fun k_=>some k_≠(.slice (some ad157) t151.length co25:Value).ownBlock∧some k_≠(.slice (some ad159) t152.length co34:Value).ownBlock∧some k_≠(.slice Ao38 x13_2.length co38:Value).ownBlock) (fun _=>False) rfl rfl ?aO ?aR (fun _ _ h=>h) (fun _ h=>h.elim) ?aF ?aB ?aS ?aL ?_;(case aR=>exact bT HO_13.out);(case aB=>exact(bB));(case aF=>exact(fun k_ hk=>⟨Kd.fresh' (Kd.R_lt (bK HO_11.out)) k_ hk,Kd.fresh' (Kd.R_lt (bK HO_12.out)) k_ hk,Kd.fresh' (Kd.R_lt (bK HO_13.out)) k_ hk⟩));(case aO=>exact(by(with_reducible repeat (first|apply Kd.R_alloc|apply Kd.R_drewN|apply Kd.R_drew));exact Kd.R_mono HO162.out (fun _ hk=>⟨hk.1.1.2,⟨hk.1.2,hk.2⟩⟩)));(case aS=>exact(below_size (bB)));(case aL=>have:=LMc31.out;omega);intro v164 w37 ho hb hg hat;rw[← Ny163.out] at ho;have n0_:=Aside0.mk (Kd.R_after (ok:=(fun k_=>some k_≠(.slice (some ad159) t152.length co34:Value).ownBlock∧some k_≠(.slice Ao38 x13_2.length co38:Value).ownBlock)) (bK HO_11.out) hg hat);have n1_:=Aside0.mk (Kd.R_after (ok:=(fun k_=>some k_≠(.slice (some ad157) t151.length co25:Value).ownBlock∧some k_≠(.slice Ao38 x13_2.length co38:Value).ownBlock)) (bK HO_12.out) hg hat);have n2_:=Aside0.mk (Kd.R_after (ok:=(fun k_=>some k_≠(.slice (some ad157) t151.length co25:Value).ownBlock∧some k_≠(.slice (some ad159) t152.length co34:Value).ownBlock)) (bK HO_13.out) hg hat);have n3_:=Aside0.mk (hb);have n4_:=Aside0.mk (ho);clear HO_11 HO_12 HO_13 HB HO162;have HO_11:=n0_;have HO_12:=n1_;have HO_13:=n2_;have HB:=n3_;have HO165:=n4_;clear n0_ n1_ n2_ n3_ n4_;clear ho hb hg hat;have p166:0≤(x14_2:Int):=of_decide_eq_true (bD);have q166:x14_2 < (t152.length:Int):=of_decide_eq_true (bD);obtain⟨ad166,e166,hx166_0⟩:=Kd.at_int (Kd.R_reads' HO_12.out).2.2 x14_2 p166 q166;obtain rfl:ad159=ad166:=(by injection e166);replace p166:=eq_true p166;replace q166:=eq_true q166;have p167:0≤((rd t152 x14_2):Int):=of_decide_eq_true (bD);have q167:(rd t152 x14_2) < (l0.length:Int):=of_decide_eq_true (bD);obtain⟨ad167,e167,hx167_0,hx167_1,hx167_2,hx167_3,hx167_4⟩:=at_T165 HR0.out (rd t152 x14_2) p167 q167;cases e167;replace hx167_0:=(HB.out.cell (World.block_lt_of_cell? w _ hx167_0)).trans hx167_0;replace hx167_1:=(HB.out.cell (World.block_lt_of_cell? w _ hx167_1)).trans hx167_1;replace hx167_2:=(HB.out.cell (World.block_lt_of_cell? w _ hx167_2)).trans hx167_2;replace hx167_3:=(HB.out.cell (World.block_lt_of_cell? w _ hx167_3)).trans hx167_3;replace hx167_4:=(HB.out.cell (World.block_lt_of_cell? w _ hx167_4)).trans hx167_4;replace p167:=eq_true p167;replace q167:=eq_true q167))
               repeat (go_quiet (first|((with_reducible refine gate_dst (N:=61) rfl ?_);refine Kd.R_lit (Kd.int .i64) _ 3 ?hg (N:=61) ?hd (xs:=([rd t152 x14_2]:List Int)) (inner:=[.int .i64 (rd t152 x14_2)]) (ok:=fun _=>True) (okp:=fun _=>True) ?hr ?hp (fun _ hk=>hk) trivial (Below.refl _ _) (Nat.le_refl _) (by simp) ?_;(case hd=>rfl);(case hg=>rfl);(case hr=>first|(go_simp;done)|(go_simp;rfl));(case hp=>exact(Reps.one (show Kd.M (Kd.int .i64) _ _ _ (rd t152 x14_2) [.int .i64 (rd t152 x14_2)] from rfl) (Reps.none _ _)));intro v161 w35 ho36 hb hg_ hnew_;clear hg_ hnew_;(first|rw[← Ny160.out] at ho36|(simp only[Int.reduceToNat] at ho36;rw[← Ny160.out] at ho36));have n0_:=Aside0.mk (Kd.R_elder' (bK HO_11.out) (Kd.R_base ho36) hb);have n1_:=Aside0.mk (Kd.R_elder' (bK HO_12.out) (Kd.R_base ho36) hb);have n2_:=Aside0.mk (Kd.R_elder' (bK HO_13.out) (Kd.R_base ho36) hb);have n3_:=Aside0.mk (Kd.R_lower (Kd.R_new' (Kd.R_new' (Kd.R_new' ho36 (Kd.R_lt (bK HO_11.out))) (Kd.R_lt (bK HO_12.out))) (Kd.R_lt (bK HO_13.out))) (below_size (bB)));have n4_:=Aside0.mk (below_step (bB) hb);clear HO_11 HO_12 HO_13 HB;have HO_11:=n0_;have HO_12:=n1_;have HO_13:=n2_;have HO162:=n3_;have HB:=n4_;clear n0_ n1_ n2_ n3_ n4_;clear hb ho36;obtain⟨Ao38,co38,eo38⟩:=Kd.R_slice HO_13.out;subst eo38)|((with_reducible refine gate_builtin (b:=.append) (xs:=#[.tmp 61,.tmp 62]) rfl ?_);at_builtin;refine Kd.R_append_rows (Kd.int .i64) (w0:=w) w.heap.size rfl (.tmp 61) (.tmp 62) 47 3 (.int .i64 0) 8 rfl Try.underlying47 info3 rfl (by decide) (by omega) v161 y160 x13_2 _ _ _ (fun k_=>some k_≠(.slice (some ad157) t151.length co25:Value).ownBlock∧some k_≠(.slice (some ad159) t152.length co34:Value).ownBlock∧some k_≠(.slice Ao38 x13_2.length co38:Value).ownBlock) (fun _=>False) rfl rfl ?aO ?aR (fun _ _ h=>h) (fun _ h=>h.elim) ?aF ?aB ?aS ?aL ?_;(case aR=>exact bT HO_13.out);(case aB=>exact(bB));(case aF=>exact(fun k_ hk=>⟨Kd.fresh' (Kd.R_lt (bK HO_11.out)) k_ hk,Kd.fresh' (Kd.R_lt (bK HO_12.out)) k_ hk,Kd.fresh' (Kd.R_lt (bK HO_13.out)) k_ hk⟩));(case aO=>exact(by(with_reducible repeat (first|apply Kd.R_alloc|apply Kd.R_drewN|apply Kd.R_drew));exact Kd.R_mono HO162.out (fun _ hk=>⟨hk.1.1.2,⟨hk.1.2,hk.2⟩⟩)));(case aS=>exact(below_size (bB)));(case aL=>have:=LMc31.out;omega);intro v164 w37 ho hb hg hat;rw[← Ny163.out] at ho;have n0_:=Aside0.mk (Kd.R_after (ok:=(fun k_=>some k_≠(.slice (some ad159) t152.length co34:Value).ownBlock∧some k_≠(.slice Ao38 x13_2.length co38:Value).ownBlock)) (bK HO_11.out) hg hat);have n1_:=Aside0.mk (Kd.R_after (ok:=(fun k_=>some k_≠(.slice (some ad157) t151.length co25:Value).ownBlock∧some k_≠(.slice Ao38 x13_2.length co38:Value).ownBlock)) (bK HO_12.out) hg hat);have n2_:=Aside0.mk (Kd.R_after (ok:=(fun k_=>some k_≠(.slice (some ad157) t151.length co25:Value).ownBlock∧some k_≠(.slice (some ad159) t152.length co34:Value).ownBlock)) (bK HO_13.out) hg hat);have n3_:=Aside0.mk (hb);have n4_:=Aside0.mk (ho);clear HO_11 HO_12 HO_13 HB HO162;have HO_11:=n0_;have HO_12:=n1_;have HO_13:=n2_;have HB:=n3_;have HO165:=n4_;clear n0_ n1_ n2_ n3_ n4_;clear ho hb hg hat;have p166:0≤(x14_2:Int):=of_decide_eq_true (bD);have q166:x14_2 < (t152.length:Int):=of_decide_eq_true (bD);obtain⟨ad166,e166,hx166_0⟩:=Kd.at_int (Kd.R_reads' HO_12.out).2.2 x14_2 p166 q166;obtain rfl:ad159=ad166:=(by injection e166);replace p166:=eq_true p166;replace q166:=eq_true q166;have p167:0≤((rd t152 x14_2):Int):=of_decide_eq_true (bD);have q167:(rd t152 x14_2) < (l0.length:Int):=of_decide_eq_true (bD);obtain⟨ad167,e167,hx167_0,hx167_1,hx167_2,hx167_3,hx167_4⟩:=at_T165 HR0.out (rd t152 x14_2) p167 q167;cases e167;replace hx167_0:=(HB.out.cell (World.block_lt_of_cell? w _ hx167_0)).trans hx167_0;replace hx167_1:=(HB.out.cell (World.block_lt_of_cell? w _ hx167_1)).trans hx167_1;replace hx167_2:=(HB.out.cell (World.block_lt_of_cell? w _ hx167_2)).trans hx167_2;replace hx167_3:=(HB.out.cell (World.block_lt_of_cell? w _ hx167_3)).trans hx167_3;replace hx167_4:=(HB.out.cell (World.block_lt_of_cell? w _ hx167_4)).trans hx167_4;replace p167:=eq_true p167;replace q167:=eq_true q167));try go_wp2_with (first|((with_reducible refine gate_dst (N:=61) rfl ?_);refine Kd.R_lit (Kd.int .i64) _ 3 ?hg (N:=61) ?hd (xs:=([rd t152 x14_2]:List Int)) (inner:=[.int .i64 (rd t152 x14_2)]) (ok:=fun _=>True) (okp:=fun _=>True) ?hr ?hp (fun _ hk=>hk) trivial (Below.refl _ _) (Nat.le_refl _) (by simp) ?_;(case hd=>rfl);(case hg=>rfl);(case hr=>first|(go_simp;done)|(go_simp;rfl));(case hp=>exact(Reps.one (show Kd.M (Kd.int .i64) _ _ _ (rd t152 x14_2) [.int .i64 (rd t152 x14_2)] from rfl) (Reps.none _ _)));intro v161 w35 ho36 hb hg_ hnew_;clear hg_ hnew_;(first|rw[← Ny160.out] at ho36|(simp only[Int.reduceToNat] at ho36;rw[← Ny160.out] at ho36));have n0_:=Aside0.mk (Kd.R_elder' (bK HO_11.out) (Kd.R_base ho36) hb);have n1_:=Aside0.mk (Kd.R_elder' (bK HO_12.out) (Kd.R_base ho36) hb);have n2_:=Aside0.mk (Kd.R_elder' (bK HO_13.out) (Kd.R_base ho36) hb);have n3_:=Aside0.mk (Kd.R_lower (Kd.R_new' (Kd.R_new' (Kd.R_new' ho36 (Kd.R_lt (bK HO_11.out))) (Kd.R_lt (bK HO_12.out))) (Kd.R_lt (bK HO_13.out))) (below_size (bB)));have n4_:=Aside0.mk (below_step (bB) hb);clear HO_11 HO_12 HO_13 HB;have HO_11:=n0_;have HO_12:=n1_;have HO_13:=n2_;have HO162:=n3_;have HB:=n4_;clear n0_ n1_ n2_ n3_ n4_;clear hb ho36;obtain⟨Ao38,co38,eo38⟩:=Kd.R_slice HO_13.out;subst eo38)|((with_reducible refine gate_builtin (b:=.append) (xs:=#[.tmp 61,.tmp 62]) rfl ?_);at_builtin;refine Kd.R_append_rows (Kd.int .i64) (w0:=w) w.heap.size rfl (.tmp 61) (.tmp 62) 47 3 (.int .i64 0) 8 rfl Try.underlying47 info3 rfl (by decide) (by omega) v161 y160 x13_2 _ _ _ (fun k_=>some k_≠(.slice (some ad157) t151.length co25:Value).ownBlock∧some k_≠(.slice (some ad159) t152.length co34:Value).ownBlock∧some k_≠(.slice Ao38 x13_2.length co38:Value).ownBlock) (fun _=>False) rfl rfl ?aO ?aR (fun _ _ h=>h) (fun _ h=>h.elim) ?aF ?aB ?aS ?aL ?_;(case aR=>exact bT HO_13.out);(case aB=>exact(bB));(case aF=>exact(fun k_ hk=>⟨Kd.fresh' (Kd.R_lt (bK HO_11.out)) k_ hk,Kd.fresh' (Kd.R_lt (bK HO_12.out)) k_ hk,Kd.fresh' (Kd.R_lt (bK HO_13.out)) k_ hk⟩));(case aO=>exact(by(with_reducible repeat (first|apply Kd.R_alloc|apply Kd.R_drewN|apply Kd.R_drew));exact Kd.R_mono HO162.out (fun _ hk=>⟨hk.1.1.2,⟨hk.1.2,hk.2⟩⟩)));(case aS=>exact(below_size (bB)));(case aL=>have:=LMc31.out;omega);intro v164 w37 ho hb hg hat;rw[← Ny163.out] at ho;have n0_:=Aside0.mk (Kd.R_after (ok:=(fun k_=>some k_≠(.slice (some ad159) t152.length co34:Value).ownBlock∧some k_≠(.slice Ao38 x13_2.length co38:Value).ownBlock)) (bK HO_11.out) hg hat);have n1_:=Aside0.mk (Kd.R_after (ok:=(fun k_=>some k_≠(.slice (some ad157) t151.length co25:Value).ownBlock∧some k_≠(.slice Ao38 x13_2.length co38:Value).ownBlock)) (bK HO_12.out) hg hat);have n2_:=Aside0.mk (Kd.R_after (ok:=(fun k_=>some k_≠(.slice (some ad157) t151.length co25:Value).ownBlock∧some k_≠(.slice (some ad159) t152.length co34:Value).ownBlock)) (bK HO_13.out) hg hat);have n3_:=Aside0.mk (hb);have n4_:=Aside0.mk (ho);clear HO_11 HO_12 HO_13 HB HO162;have HO_11:=n0_;have HO_12:=n1_;have HO_13:=n2_;have HB:=n3_;have HO165:=n4_;clear n0_ n1_ n2_ n3_ n4_;clear ho hb hg hat;have p166:0≤(x14_2:Int):=of_decide_eq_true (bD);have q166:x14_2 < (t152.length:Int):=of_decide_eq_true (bD);obtain⟨ad166,e166,hx166_0⟩:=Kd.at_int (Kd.R_reads' HO_12.out).2.2 x14_2 p166 q166;obtain rfl:ad159=ad166:=(by injection e166);replace p166:=eq_true p166;replace q166:=eq_true q166;have p167:0≤((rd t152 x14_2):Int):=of_decide_eq_true (bD);have q167:(rd t152 x14_2) < (l0.length:Int):=of_decide_eq_true (bD);obtain⟨ad167,e167,hx167_0,hx167_1,hx167_2,hx167_3,hx167_4⟩:=at_T165 HR0.out (rd t152 x14_2) p167 q167;cases e167;replace hx167_0:=(HB.out.cell (World.block_lt_of_cell? w _ hx167_0)).trans hx167_0;replace hx167_1:=(HB.out.cell (World.block_lt_of_cell? w _ hx167_1)).trans hx167_1;replace hx167_2:=(HB.out.cell (World.block_lt_of_cell? w _ hx167_2)).trans hx167_2;replace hx167_3:=(HB.out.cell (World.block_lt_of_cell? w _ hx167_3)).trans hx167_3;replace hx167_4:=(HB.out.cell (World.block_lt_of_cell? w _ hx167_4)).trans hx167_4;replace p167:=eq_true p167;replace q167:=eq_true q167)))
               go_roundg k2
               case measure=>have:=HJ4.out;have:=HK2.out;omega
               case rel=>exact⟨(y163),((rd_T165 l0 (rd t152 x14_2)).f0),(bR),H',⟨by have:=HJ4.out;have:=HK2.out;omega⟩,⟨by(with_reducible repeat (first|apply Kd.R_alloc|apply Kd.R_drewN|apply Kd.R_drew));exact Kd.R_mono HO_11.out (fun _ hk=>⟨hk.1.1,hk.2⟩)⟩,⟨by(with_reducible repeat (first|apply Kd.R_alloc|apply Kd.R_drewN|apply Kd.R_drew));exact Kd.R_mono HO_12.out (fun _ hk=>⟨hk.1.1,hk.2⟩)⟩,⟨by(with_reducible repeat (first|apply Kd.R_alloc|apply Kd.R_drewN|apply Kd.R_drew));exact Kd.R_mono HO165.out (fun _ hk=>⟨hk.1,hk.2.1⟩)⟩,⟨by repeat (first|(with_reducible first|exact HB.out|apply below_alloc|apply pw_below_drewN|apply below_drew1)|exact HB.out)⟩⟩
              ·rw[if_neg c33] at H
               exact absurd H (by simp)
             ·rw[if_neg c32] at H
              exact absurd H (by simp)
            ·rw[if_neg c31] at H
             exact absurd H (by simp)
           ·rw[if_neg c30] at H
            exact absurd H (by simp)
          ·rw[if_neg c29] at H
           exact absurd H (by simp)
     ·rw[if_neg c20] at H
      exact absurd H (by simp)
    ·rw[if_neg c19] at H
     exact absurd H (by simp)

/-! ### spec_l17Reach: function 123 -/
def spec_l17Reach.l0:Nat→List (S165)→List (S109)→List Int→Int→Int→Int→Int→Bool→Int→Int→Int→Int→Int→Int→ByteArray→Option ((List (S109)))
 | 0,_,_,_,_,_,_,_,_,_,_,_,_,_,_,_=>none
 | k+1,x0,x7,x13,x14,x15,x169000,x169001,x169002,x169003,x169004,x169005,x169006,x169007,x169008,x169009=>if x15 < x14 then (if 0≤x15 then (if x15 < (x13.length:Int) then ((spec_RouteTo.f k x0 x169000 x169003 (rd x13 x15)).bind fun bt170=>(if bt170.2.2=true then (if bt170.2.1≤(wrap64 (x169003+x169005)) then (if (bt170.1.length:Int)≤x169006 then (if x7.length < 3518437208883 then (spec_l17Reach.l0 k x0 (x7++[(⟨rd x13 x15,bt170.2.1,bt170.1⟩:S109)]) x13 x14 (wrap64 (x15+1)) x169000 x169001 x169002 x169003 x169004 x169005 x169006 x169007 x169008 x169009) else (none)) else (spec_l17Reach.l0 k x0 x7 x13 x14 (wrap64 (x15+1)) x169000 x169001 x169002 x169003 x169004 x169005 x169006 x169007 x169008 x169009)) else (spec_l17Reach.l0 k x0 x7 x13 x14 (wrap64 (x15+1)) x169000 x169001 x169002 x169003 x169004 x169005 x169006 x169007 x169008 x169009)) else (spec_l17Reach.l0 k x0 x7 x13 x14 (wrap64 (x15+1)) x169000 x169001 x169002 x169003 x169004 x169005 x169006 x169007 x169008 x169009))) else (none)) else (none)) else (some x7)
def spec_l17Reach.f (k:Nat) (l0:List (S165)) (a1_0:Int) (a1_1:Int) (a1_2:Bool) (a1_3:Int) (a1_4:Int) (a1_5:Int) (a1_6:Int) (a1_7:Int) (a1_8:Int) (a1_9:ByteArray) (l2:List Int):Option ((List (S109))):=spec_l17Reach.l0 k l0 ([]:List (S109)) l2 (l2.length:Int) 0 a1_0 a1_1 a1_2 a1_3 a1_4 a1_5 a1_6 a1_7 a1_8 a1_9
theorem spec_l17Reach.mono_l : ∀ k,(∀ y0 y1 y2 y3 y4 y5 y6 y7 y8 y9 y10 y11 y12 y13 y14,LeO (spec_l17Reach.l0 k y0 y1 y2 y3 y4 y5 y6 y7 y8 y9 y10 y11 y12 y13 y14) (spec_l17Reach.l0 (k+1) y0 y1 y2 y3 y4 y5 y6 y7 y8 y9 y10 y11 y12 y13 y14))
 | 0=>fun _ _ _ _ _ _ _ _ _ _ _ _ _ _ _ r h=>by simp[spec_l17Reach.l0] at h
 | k+1=>by
  have ih0:=spec_l17Reach.mono_l k
  ·intro y0 y1 y2 y3 y4 y5 y6 y7 y8 y9 y10 y11 y12 y13 y14
   unfold spec_l17Reach.l0
   repeat' first
   | (with_reducible exact ih0 _ _ _ _ _ _ _ _ _ _ _ _ _ _ _)
   | (with_reducible exact spec_RouteTo.mono _ _ _ _ _)
   | (with_reducible exact LeO.refl _)
   | (with_reducible exact LeO.none _)
   | (with_reducible refine LeO.ite ?_ ?_)
   | (with_reducible refine LeO.bind ?_ (fun _ => ?_))
   | exact ih0 _ _ _ _ _ _ _ _ _ _ _ _ _ _ _
   | exact spec_RouteTo.mono _ _ _ _ _
   | exact LeO.none _
   | refine LeO.ite ?_ ?_
   | refine LeO.bind ?_ (fun _ => ?_)
theorem spec_l17Reach.mono : ∀ a0 a1 a2 a3 a4 a5 a6 a7 a8 a9 a10 a11 k,LeO (spec_l17Reach.f k a0 a1 a2 a3 a4 a5 a6 a7 a8 a9 a10 a11) (spec_l17Reach.f (k+1) a0 a1 a2 a3 a4 a5 a6 a7 a8 a9 a10 a11):=by
 intro a0 a1 a2 a3 a4 a5 a6 a7 a8 a9 a10 a11 k
 have ih0:=spec_l17Reach.mono_l k
 unfold spec_l17Reach.f
 repeat' first
  | (with_reducible exact ih0 _ _ _ _ _ _ _ _ _ _ _ _ _ _ _)
  | (with_reducible exact spec_RouteTo.mono _ _ _ _ _)
  | (with_reducible exact LeO.refl _)
  | (with_reducible exact LeO.none _)
  | (with_reducible refine LeO.ite ?_ ?_)
  | (with_reducible refine LeO.bind ?_ (fun _ => ?_))
  | exact ih0 _ _ _ _ _ _ _ _ _ _ _ _ _ _ _
  | exact spec_RouteTo.mono _ _ _ _ _
  | exact LeO.none _
  | refine LeO.ite ?_ ?_
  | refine LeO.bind ?_ (fun _ => ?_)
set_option maxHeartbeats 8000000 in
set_option maxRecDepth 100000 in
theorem spec_l17Reach.calls (k:Nat) (A0:Option Addr) (c0:Nat) (l0:List (S165)) (a1_0:Int) (a1_1:Int) (a1_2:Bool) (a1_3:Int) (a1_4:Int) (a1_5:Int) (a1_6:Int) (a1_7:Int) (a1_8:Int) (a1_9:ByteArray) (A2:Option Addr) (c2:Nat) (l2:List Int) (r:List (S109)) (w:World) (hr0:Kd.C k165 w A0 l0.length l0) (hc0:l0.length≤c0) (hr2:Kd.C (Kd.int .i64) w A2 l2.length l2) (hc2:l2.length≤c2) (h:spec_l17Reach.f k l0 a1_0 a1_1 a1_2 a1_3 a1_4 a1_5 a1_6 a1_7 a1_8 a1_9 l2=some r) :
  Calls Try.prog 123 #[.slice A0 l0.length c0,.agg #[.int .i64 a1_0,.int .i64 a1_1,.bool a1_2,.int .i64 a1_3,.int .i64 a1_4,.int .i64 a1_5,.int .i64 a1_6,.int .i64 a1_7,.int .i64 a1_8,.string a1_9],.slice A2 l2.length c2] w fun e w' => ∃ v0_:Value,e=.returned (v0_)∧Kd.S k109 109 w' w.heap.size (fun _=>True) v0_ r∧Below w.heap.size w w':=by
 have hu79:=Try.underlying79
 have hu109:=Try.underlying109
 have HR0:=Aside0.mk hr0
 have HC0:=Aside0.mk hc0
 clear hr0 hc0
 have HR2:=Aside0.mk hr2
 have HC2:=Aside0.mk hc2
 clear hr2 hc2
 have HB:=Aside0.mk (Below.refl w.heap.size w)
 have H:(spec_l17Reach.l0 k l0 ([]:List (S109)) l2 (l2.length:Int) 0 a1_0 a1_1 a1_2 a1_3 a1_4 a1_5 a1_6 a1_7 a1_8 a1_9)=some r:=h
 clear h
 have H':=Aside0.mk H
 clear H
 go_enter Try.func123,Try.ntmps123
 go_wp2_with (first|((with_reducible refine gate_dst (N:=4) rfl ?_);(try (refine gate_guard (by rfl) ?_;dsimp only));refine box_event ?hg (N:=4) ?hd (cs:=#[.int .i64 a1_0,.int .i64 a1_1,.bool a1_2,.int .i64 a1_3,.int .i64 a1_4,.int .i64 a1_5,.int .i64 a1_6,.int .i64 a1_7,.int .i64 a1_8,.string a1_9]) (t:=79) ?hr ?_;(case hd=>rfl);(case hg=>rfl);(case hr=>first|(go_simp;done)|(go_simp;rfl));intro gb168 hg w4 hbox hb;have n0_:=Aside0.mk (below_step (bB) hb);have n1_:=Aside0.mk (hbox);have n2_:=Aside0.mk ((bG:w.heap.size≤gb168));have n3_:=Aside0.mk ((bG:w.heap.size≤gb168));clear HB;have HB:=n0_;have BK168:=n1_;have GW168:=n2_;have GE168:=n3_;clear n0_ n1_ n2_ n3_;clear hb hbox hg))
 go_loopg [7,15] k (fun kq v7 v15 w' => ∃ (x7_1:List (S109)) (x15_1:Int),v15=.int .i64 x15_1∧Aside0 (spec_l17Reach.l0 kq l0 x7_1 l2 (l2.length:Int) x15_1 a1_0 a1_1 a1_2 a1_3 a1_4 a1_5 a1_6 a1_7 a1_8 a1_9=some r)∧Aside0 (kq≤k)∧Aside0 (Kd.S k109 109 w' w.heap.size (fun _=>True) v7 x7_1)∧Aside0 (w'.heap[gb168]?=some (.cells #[.int .i64 a1_0,.int .i64 a1_1,.bool a1_2,.int .i64 a1_3,.int .i64 a1_4,.int .i64 a1_5,.int .i64 a1_6,.int .i64 a1_7,.int .i64 a1_8,.string a1_9] 79 (0,0)))∧Aside0 (Below w.heap.size w w'))
 case atStart=>exact⟨(([]:List (S109))),(0),(bR),H',⟨Nat.le_refl _⟩,⟨by first|exact Kd.S_nil _ _ _ _ _|exact Kd.N_nil _ _ _ _ _|exact Kd.V_nil _ _ _ _ _|exact Kd.Q_nil _ _ _ _ _|exact Kd.R_nil _ _ _ _ _⟩,⟨by(with_reducible repeat (first|refine blk_drewN ?_ _|refine blk_drew ?_|refine blk_alloc ?_ _));exact BK168.out⟩,⟨bS GE168.out⟩⟩
 case round =>
  clear H'
  try clear c1
  try clear c2
  try clear p2
  obtain⟨x7_1,x15_1,rfl,HA,HK1,HO_7,BK168,HB⟩:=hrel
  cases gk with
  | zero=>exact absurd HA.out (by simp[spec_l17Reach.l0])
  | succ k1 =>
   have H:=HA.out
   clear HA
   simp only[spec_l17Reach.l0] at H
   by_cases c5:x15_1 < (l2.length:Int)
   ·rw[if_pos c5] at H
    have c5b0:decide (x15_1 < (l2.length:Int))=true:=decide_eq_true c5
    clear c5
    by_cases c6:0≤x15_1
    ·rw[if_pos c6] at H
     have c6b0:decide (0≤x15_1)=true:=decide_eq_true c6
     clear c6
     by_cases c7:x15_1 < (l2.length:Int)
     ·rw[if_pos c7] at H
      have c7b0:decide (x15_1 < (l2.length:Int))=true:=decide_eq_true c7
      clear c7
      replace H:=Option.bind_eq_some_iff.mp H
      obtain⟨⟨t170,t171,t172⟩,A80,H⟩:=H
      have A8:=Aside0.mk A80
      clear A80
      by_cases c9:t172=true
      ·subst c9
       have H1:(if t171≤(wrap64 (a1_3+a1_5)) then (if (t170.length:Int)≤a1_6 then (if x7_1.length < 3518437208883 then (spec_l17Reach.l0 k1 l0 (x7_1++[(⟨rd l2 x15_1,t171,t170⟩:S109)]) l2 (l2.length:Int) (wrap64 (x15_1+1)) a1_0 a1_1 a1_2 a1_3 a1_4 a1_5 a1_6 a1_7 a1_8 a1_9) else (none)) else (spec_l17Reach.l0 k1 l0 x7_1 l2 (l2.length:Int) (wrap64 (x15_1+1)) a1_0 a1_1 a1_2 a1_3 a1_4 a1_5 a1_6 a1_7 a1_8 a1_9)) else (spec_l17Reach.l0 k1 l0 x7_1 l2 (l2.length:Int) (wrap64 (x15_1+1)) a1_0 a1_1 a1_2 a1_3 a1_4 a1_5 a1_6 a1_7 a1_8 a1_9))=some r:=by rw[if_pos rfl] at H;exact H
       clear H
       have H:=H1
       clear H1
       by_cases c10:t171≤(wrap64 (a1_3+a1_5))
       ·rw[if_pos c10] at H
        have c10b0:decide (t171≤(wrap64 (a1_3+a1_5)))=true:=decide_eq_true c10
        clear c10
        by_cases c11:(t170.length:Int)≤a1_6
        ·rw[if_pos c11] at H
         have c11b0:decide ((t170.length:Int)≤a1_6)=true:=decide_eq_true c11
         clear c11
         by_cases c12:x7_1.length < 3518437208883
         ·rw[if_pos c12] at H
          have LMc12:=Aside0.mk c12
          clear c12
          obtain⟨y175,hy175⟩ : ∃ y_:List (S109),y_=(x7_1++[(⟨rd l2 x15_1,t171,t170⟩:S109)]):=⟨_,rfl⟩
          replace H:(spec_l17Reach.l0 k1 l0 y175 l2 (l2.length:Int) (wrap64 (x15_1+1)) a1_0 a1_1 a1_2 a1_3 a1_4 a1_5 a1_6 a1_7 a1_8 a1_9)=some r:=by first|(rw[hy175];with_reducible exact H)|(have H2_:=(Option.bind_some _ _).symm.trans H;rw[hy175];with_reducible exact H2_)|(have H2_:=(Option.bind_some _ _).symm.trans H;with_reducible exact H2_)|with_reducible exact H|(rw[hy175];exact H)|exact H
          have Ny175:=Aside0.mk hy175
          clear hy175
          have H':=Aside0.mk H
          clear H
          have p169:0≤(x15_1:Int):=of_decide_eq_true (bD)
          have q169:x15_1 < (l2.length:Int):=of_decide_eq_true (bD)
          obtain⟨ad169,e169,hx169_0⟩:=Kd.at_int HR2.out x15_1 p169 q169
          cases e169
          replace hx169_0:=(HB.out.cell (World.block_lt_of_cell? w _ hx169_0)).trans hx169_0
          replace p169:=eq_true p169
          replace q169:=eq_true q169
          obtain⟨hcz13_0,hcz13_1,hcz13_2,hcz13_3,hcz13_4,hcz13_5,hcz13_6,hcz13_7,hcz13_8,hcz13_9⟩:=cC10 BK168.out
          obtain⟨hfz13_0,hfz13_1,hfz13_2,hfz13_3,hfz13_4,hfz13_5,hfz13_6,hfz13_7,hfz13_8,hfz13_9⟩:=cF10 BK168.out
          go_wp2_with (first|((with_reducible refine gate_callee (f:=191) rfl ?_);refine goesA (some 26) rfl rfl Try.func191 #[.slice A0 l0.length c0,.int .i64 a1_0,.int .i64 a1_3,.int .i64 (rd l2 x15_1)] rfl ?_;(with_reducible refine(spec_RouteTo.calls k1 _ _ l0 a1_0 a1_3 (rd l2 x15_1) t170 t171 true _ ?side1 ?side2 A8.out).mono ?_);(case side1=>exact bC HR0.out);(case side2=>exact HC0.out);rintro e w14 ⟨v173,rfl,ho0,hb⟩;refine⟨_,rfl,?_⟩;have n0_:=Aside0.mk (Kd.S_elder' (by(with_reducible repeat (first|apply Kd.S_alloc|apply Kd.S_drewN|apply Kd.S_drew));exact HO_7.out) (Kd.R_base ho0) hb);have n1_:=Aside0.mk (Kd.R_lower ho0 (below_size (bS GE168.out)));have n2_:=Aside0.mk (bM BK168.out hb);have n3_:=Aside0.mk (below_step (bS GE168.out) hb);clear HO_7 BK168 HB;have HO_7:=n0_;have HO174:=n1_;have BK168:=n2_;have HB:=n3_;clear n0_ n1_ n2_ n3_;(try clear hb);(try clear hb2);(try clear hk);(try clear hi);(try clear ho0);obtain⟨hcz15_0,hcz15_1,hcz15_2,hcz15_3,hcz15_4,hcz15_5,hcz15_6,hcz15_7,hcz15_8,hcz15_9⟩:=cC10 BK168.out;obtain⟨hfz15_0,hfz15_1,hfz15_2,hfz15_3,hfz15_4,hfz15_5,hfz15_6,hfz15_7,hfz15_8,hfz15_9⟩:=cF10 BK168.out;obtain⟨Ao16,co16,eo16⟩:=Kd.R_slice HO174.out;subst eo16)|((with_reducible refine gate_builtin (b:=.append) (xs:=#[.tmp 47,.tmp 52]) rfl ?_);(try (refine gate_guard (by rfl) ?_;dsimp only));at_builtin;refine Kd.S_append k109 (w0:=w) w.heap.size rfl (.tmp 47) (.tmp 52) 104 109 (.agg #[(.int .i64 0),(.int .i64 0),(.slice none 0 0)]) 40 rfl Try.underlying104 info109 rfl (by decide) (by omega) u7 x7_1 (⟨rd l2 x15_1,t171,t170⟩:S109) [.int .i64 (rd l2 x15_1),.int .i64 t171,.slice Ao16 t170.length co16] (fun _=>True) (fun k_=>some k_=(.slice Ao16 t170.length co16:Value).ownBlock) rfl rfl ?aP (fun k_ hk_=>((Kd.R_mono (ok':=fun k_=>((fun _=>True)) k_∧some k_≠(u7:Value).ownBlock) (Kd.R_apart' (HO174.out) (Kd.S_typed HO_7.out) (by decide)) (fun k_ hk=>⟨trivial,hk.2⟩))).1 k_ hk_.symm) ?aF ?aO ?aB ?aS ?aL ?_;(case aP=>exact k109_mkM _ _ _ (⟨rd l2 x15_1,t171,t170⟩:S109) (Kd.R_mono (Kd.R_tight rfl (Kd.R_mono (ok':=fun k_=>((fun _=>True)) k_∧some k_≠(u7:Value).ownBlock) (Kd.R_apart' (HO174.out) (Kd.S_typed HO_7.out) (by decide)) (fun k_ hk=>⟨trivial,hk.2⟩))) (fun _ h_=>h_)));(case aB=>exact(bS GE168.out));(case aF=>exact(fun _ _=>trivial));(case aO=>exact(by(with_reducible repeat (first|apply Kd.S_alloc|apply Kd.S_drewN|apply Kd.S_drew));exact Kd.S_mono HO_7.out (fun k_ hk=>⟨trivial,fun e_=>hk.2 e_⟩)));(case aS=>exact(below_size (bS GE168.out)));(case aL=>have:=LMc12.out;omega);intro v176 w17 ho hb hg hat;rw[← Ny175.out] at ho;have n0_:=Aside0.mk (blk_grown (g:=gb168) (o:=.cells #[.int .i64 a1_0,.int .i64 a1_1,.bool a1_2,.int .i64 a1_3,.int .i64 a1_4,.int .i64 a1_5,.int .i64 a1_6,.int .i64 a1_7,.int .i64 a1_8,.string a1_9] 79 (0,0)) (bL BK168.out) hg (Kd.S_ne HO_7.out BK168.out (by decide)));have n1_:=Aside0.mk (hb);have n2_:=Aside0.mk (ho);clear BK168 HB HO_7 HO174;have BK168:=n0_;have HB:=n1_;have HO177:=n2_;clear n0_ n1_ n2_;clear ho hb hg hat))
          go_roundg k1
          case measure=>have:=HK1.out;omega
          case rel=>exact⟨(y175),(wrap64 (x15_1+1)),(bR),H',⟨by have:=HK1.out;omega⟩,⟨by(with_reducible repeat (first|apply Kd.S_alloc|apply Kd.S_drewN|apply Kd.S_drew));exact HO177.out⟩,⟨by(with_reducible repeat (first|refine blk_drewN ?_ _|refine blk_drew ?_|refine blk_alloc ?_ _));exact BK168.out⟩,⟨bS GE168.out⟩⟩
         ·rw[if_neg c12] at H
          exact absurd H (by simp)
        ·rw[if_neg c11] at H
         have c11b0:decide ((t170.length:Int)≤a1_6)=false:=decide_eq_false c11
         clear c11
         have H':=Aside0.mk H
         clear H
         have p169:0≤(x15_1:Int):=of_decide_eq_true (bD)
         have q169:x15_1 < (l2.length:Int):=of_decide_eq_true (bD)
         obtain⟨ad169,e169,hx169_0⟩:=Kd.at_int HR2.out x15_1 p169 q169
         cases e169
         replace hx169_0:=(HB.out.cell (World.block_lt_of_cell? w _ hx169_0)).trans hx169_0
         replace p169:=eq_true p169
         replace q169:=eq_true q169
         obtain⟨hcz18_0,hcz18_1,hcz18_2,hcz18_3,hcz18_4,hcz18_5,hcz18_6,hcz18_7,hcz18_8,hcz18_9⟩:=cC10 BK168.out
         obtain⟨hfz18_0,hfz18_1,hfz18_2,hfz18_3,hfz18_4,hfz18_5,hfz18_6,hfz18_7,hfz18_8,hfz18_9⟩:=cF10 BK168.out
         go_wp2_with (first|((with_reducible refine gate_callee (f:=191) rfl ?_);refine goesA (some 26) rfl rfl Try.func191 #[.slice A0 l0.length c0,.int .i64 a1_0,.int .i64 a1_3,.int .i64 (rd l2 x15_1)] rfl ?_;(with_reducible refine(spec_RouteTo.calls k1 _ _ l0 a1_0 a1_3 (rd l2 x15_1) t170 t171 true _ ?side1 ?side2 A8.out).mono ?_);(case side1=>exact bC HR0.out);(case side2=>exact HC0.out);rintro e w19 ⟨v173,rfl,ho0,hb⟩;refine⟨_,rfl,?_⟩;have n0_:=Aside0.mk (Kd.S_elder' (by(with_reducible repeat (first|apply Kd.S_alloc|apply Kd.S_drewN|apply Kd.S_drew));exact HO_7.out) (Kd.R_base ho0) hb);have n1_:=Aside0.mk (Kd.R_lower ho0 (below_size (bS GE168.out)));have n2_:=Aside0.mk (bM BK168.out hb);have n3_:=Aside0.mk (below_step (bS GE168.out) hb);clear HO_7 BK168 HB;have HO_7:=n0_;have HO174:=n1_;have BK168:=n2_;have HB:=n3_;clear n0_ n1_ n2_ n3_;(try clear hb);(try clear hb2);(try clear hk);(try clear hi);(try clear ho0);obtain⟨hcz20_0,hcz20_1,hcz20_2,hcz20_3,hcz20_4,hcz20_5,hcz20_6,hcz20_7,hcz20_8,hcz20_9⟩:=cC10 BK168.out;obtain⟨hfz20_0,hfz20_1,hfz20_2,hfz20_3,hfz20_4,hfz20_5,hfz20_6,hfz20_7,hfz20_8,hfz20_9⟩:=cF10 BK168.out;obtain⟨Ao21,co21,eo21⟩:=Kd.R_slice HO174.out;subst eo21))
         go_roundg k1
         case measure=>have:=HK1.out;omega
         case rel=>exact⟨(x7_1),(wrap64 (x15_1+1)),(bR),H',⟨by have:=HK1.out;omega⟩,⟨by(with_reducible repeat (first|apply Kd.S_alloc|apply Kd.S_drewN|apply Kd.S_drew));exact Kd.S_mono HO_7.out (fun _ hk=>trivial)⟩,⟨by(with_reducible repeat (first|refine blk_drewN ?_ _|refine blk_drew ?_|refine blk_alloc ?_ _));exact BK168.out⟩,⟨bS GE168.out⟩⟩
       ·rw[if_neg c10] at H
        have c10b0:decide (t171≤(wrap64 (a1_3+a1_5)))=false:=decide_eq_false c10
        clear c10
        have H':=Aside0.mk H
        clear H
        have p169:0≤(x15_1:Int):=of_decide_eq_true (bD)
        have q169:x15_1 < (l2.length:Int):=of_decide_eq_true (bD)
        obtain⟨ad169,e169,hx169_0⟩:=Kd.at_int HR2.out x15_1 p169 q169
        cases e169
        replace hx169_0:=(HB.out.cell (World.block_lt_of_cell? w _ hx169_0)).trans hx169_0
        replace p169:=eq_true p169
        replace q169:=eq_true q169
        obtain⟨hcz22_0,hcz22_1,hcz22_2,hcz22_3,hcz22_4,hcz22_5,hcz22_6,hcz22_7,hcz22_8,hcz22_9⟩:=cC10 BK168.out
        obtain⟨hfz22_0,hfz22_1,hfz22_2,hfz22_3,hfz22_4,hfz22_5,hfz22_6,hfz22_7,hfz22_8,hfz22_9⟩:=cF10 BK168.out
        go_wp2_with (first|((with_reducible refine gate_callee (f:=191) rfl ?_);refine goesA (some 26) rfl rfl Try.func191 #[.slice A0 l0.length c0,.int .i64 a1_0,.int .i64 a1_3,.int .i64 (rd l2 x15_1)] rfl ?_;(with_reducible refine(spec_RouteTo.calls k1 _ _ l0 a1_0 a1_3 (rd l2 x15_1) t170 t171 true _ ?side1 ?side2 A8.out).mono ?_);(case side1=>exact bC HR0.out);(case side2=>exact HC0.out);rintro e w23 ⟨v173,rfl,ho0,hb⟩;refine⟨_,rfl,?_⟩;have n0_:=Aside0.mk (Kd.S_elder' (by(with_reducible repeat (first|apply Kd.S_alloc|apply Kd.S_drewN|apply Kd.S_drew));exact HO_7.out) (Kd.R_base ho0) hb);have n1_:=Aside0.mk (Kd.R_lower ho0 (below_size (bS GE168.out)));have n2_:=Aside0.mk (bM BK168.out hb);have n3_:=Aside0.mk (below_step (bS GE168.out) hb);clear HO_7 BK168 HB;have HO_7:=n0_;have HO174:=n1_;have BK168:=n2_;have HB:=n3_;clear n0_ n1_ n2_ n3_;(try clear hb);(try clear hb2);(try clear hk);(try clear hi);(try clear ho0);obtain⟨hcz24_0,hcz24_1,hcz24_2,hcz24_3,hcz24_4,hcz24_5,hcz24_6,hcz24_7,hcz24_8,hcz24_9⟩:=cC10 BK168.out;obtain⟨hfz24_0,hfz24_1,hfz24_2,hfz24_3,hfz24_4,hfz24_5,hfz24_6,hfz24_7,hfz24_8,hfz24_9⟩:=cF10 BK168.out))
        go_roundg k1
        case measure=>have:=HK1.out;omega
        case rel=>exact⟨(x7_1),(wrap64 (x15_1+1)),(bR),H',⟨by have:=HK1.out;omega⟩,⟨by(with_reducible repeat (first|apply Kd.S_alloc|apply Kd.S_drewN|apply Kd.S_drew));exact Kd.S_mono HO_7.out (fun _ hk=>trivial)⟩,⟨by(with_reducible repeat (first|refine blk_drewN ?_ _|refine blk_drew ?_|refine blk_alloc ?_ _));exact BK168.out⟩,⟨bS GE168.out⟩⟩
      ·replace c9:=Bool.eq_false_iff.mpr c9
       subst c9
       have H1:(spec_l17Reach.l0 k1 l0 x7_1 l2 (l2.length:Int) (wrap64 (x15_1+1)) a1_0 a1_1 a1_2 a1_3 a1_4 a1_5 a1_6 a1_7 a1_8 a1_9)=some r:=by rw[if_neg (show ¬ (false=true) by decide)] at H;exact H
       clear H
       have H:=H1
       clear H1
       have H':=Aside0.mk H
       clear H
       have p169:0≤(x15_1:Int):=of_decide_eq_true (bD)
       have q169:x15_1 < (l2.length:Int):=of_decide_eq_true (bD)
       obtain⟨ad169,e169,hx169_0⟩:=Kd.at_int HR2.out x15_1 p169 q169
       cases e169
       replace hx169_0:=(HB.out.cell (World.block_lt_of_cell? w _ hx169_0)).trans hx169_0
       replace p169:=eq_true p169
       replace q169:=eq_true q169
       obtain⟨hcz25_0,hcz25_1,hcz25_2,hcz25_3,hcz25_4,hcz25_5,hcz25_6,hcz25_7,hcz25_8,hcz25_9⟩:=cC10 BK168.out
       obtain⟨hfz25_0,hfz25_1,hfz25_2,hfz25_3,hfz25_4,hfz25_5,hfz25_6,hfz25_7,hfz25_8,hfz25_9⟩:=cF10 BK168.out
       go_wp2_with (first|((with_reducible refine gate_callee (f:=191) rfl ?_);refine goesA (some 26) rfl rfl Try.func191 #[.slice A0 l0.length c0,.int .i64 a1_0,.int .i64 a1_3,.int .i64 (rd l2 x15_1)] rfl ?_;(with_reducible refine(spec_RouteTo.calls k1 _ _ l0 a1_0 a1_3 (rd l2 x15_1) t170 t171 false _ ?side1 ?side2 A8.out).mono ?_);(case side1=>exact bC HR0.out);(case side2=>exact HC0.out);rintro e w26 ⟨v173,rfl,ho0,hb⟩;refine⟨_,rfl,?_⟩;have n0_:=Aside0.mk (Kd.S_elder' (by(with_reducible repeat (first|apply Kd.S_alloc|apply Kd.S_drewN|apply Kd.S_drew));exact HO_7.out) (Kd.R_base ho0) hb);have n1_:=Aside0.mk (Kd.R_lower ho0 (below_size (bS GE168.out)));have n2_:=Aside0.mk (bM BK168.out hb);have n3_:=Aside0.mk (below_step (bS GE168.out) hb);clear HO_7 BK168 HB;have HO_7:=n0_;have HO174:=n1_;have BK168:=n2_;have HB:=n3_;clear n0_ n1_ n2_ n3_;(try clear hb);(try clear hb2);(try clear hk);(try clear hi);(try clear ho0)))
       go_roundg k1
       case measure=>have:=HK1.out;omega
       case rel=>exact⟨(x7_1),(wrap64 (x15_1+1)),(bR),H',⟨by have:=HK1.out;omega⟩,⟨by(with_reducible repeat (first|apply Kd.S_alloc|apply Kd.S_drewN|apply Kd.S_drew));exact Kd.S_mono HO_7.out (fun _ hk=>trivial)⟩,⟨by(with_reducible repeat (first|refine blk_drewN ?_ _|refine blk_drew ?_|refine blk_alloc ?_ _));exact BK168.out⟩,⟨bS GE168.out⟩⟩
     ·rw[if_neg c7] at H
      exact absurd H (by simp)
    ·rw[if_neg c6] at H
     exact absurd H (by simp)
   ·rw[if_neg c5] at H
    have c5b0:decide (x15_1 < (l2.length:Int))=false:=decide_eq_false c5
    clear c5
    obtain rfl:=Option.some.inj H
    go_wp2
    go_ret
    exact⟨_,by first|rfl|(simp[errW_none,errW_some]<;>rfl)|(simp[*,errW_none,errW_some]<;>rfl),by(with_reducible repeat (first|apply Kd.S_alloc|apply Kd.S_drewN|apply Kd.S_drew));exact HO_7.out,bS GE168.out⟩

end Go.Proofs.Ytjmanpicdeebgaa.XFnExactTreeFor
