-- Written by this session's own program (wip/xprint.py) out of the translation; Lean checks it.
import Derived.Test.YteneeohaoplpbaaXFnExactReachAllx0
import Derived.Test.YteneeohaoplpbaaXFnExactReachAllx2
import Derived.Test.YteneeohaoplpbaaXFnExactReachAllx3
import Derived.Test.YteneeohaoplpbaaXFnExactReachAllx4
namespace Go.Proofs.Yteneeohaoplpbaa.XFnExactReachAll
open Go.RowKit Go.Proofs.YteneeohaoplpbaaW.PrintWords Go.Proofs.YteneeohaoplpbaaW.PrintLast Go.Proofs.YteneeohaoplpbaaW.PrintMore
attribute [local go_sem] max2_int min2_int max_two min_two max_three min_three max_four min_four   -- for this text's walks alone
set_option linter.unusedVariables false
set_option linter.unusedSimpArgs false

/-! ### spec_RouteTo: function 119 -/
mutual
def spec_RouteTo.j0:Nat→List (S104)→Int→Int→Int→Bool→Option (List Int × Int × Bool)
 | 0,_,_,_,_,_=>none
 | k+1,x0,x1,x2,x3,x32=>if x32=true then (some (([]:List Int),0,false)) else ((spec_l6Search.f k x0 x1 x2).bind fun bt185=>(if 0≤x3 then (if x3 < (bt185.1.length:Int) then (if (rd bt185.1 x3) < 0 then (some (([]:List Int),0,false)) else (spec_RouteTo.l0 k x0 x1 x3 bt185.1 bt185.2 ([]:List Int) x3)) else (none)) else (none)))
def spec_RouteTo.l0:Nat→List (S104)→Int→Int→List Int→List Int→List Int→Int→Option (List Int × Int × Bool)
 | 0,_,_,_,_,_,_,_=>none
 | k+1,x0,x1,x3,x11,x12,x13,x14=>if x14=x1 then (if 0≤x3 then (if x3 < (x11.length:Int) then (some (x13,rd x11 x3,true)) else (none)) else (none)) else (if 0≤x14 then (if x14 < (x12.length:Int) then ((some (([rd x12 x14]:List Int):List Int)).bind fun y194=>(if y194.length+x13.length < 17592186044416 then (if 0≤(rd x12 x14) then (if (rd x12 x14) < (x0.length:Int) then (spec_RouteTo.l0 k x0 x1 x3 x11 x12 (y194++x13) ((rd_T104 x0 (rd x12 x14)).f0)) else (none)) else (none)) else (none))) else (none)) else (none))
end
def spec_RouteTo.f (k:Nat) (l0:List (S104)) (a1:Int) (a2:Int) (a3:Int):Option (List Int × Int × Bool):=(spec_GoodPlan.f k l0).bind fun t181=>(if t181=true then ((spec_l6Node.f a1).bind fun t182=>(if t182=true then ((spec_l6When.f a2).bind fun t183=>(if t183=true then ((spec_l6Node.f a3).bind fun t184=>(spec_RouteTo.j0 k l0 a1 a2 a3 (!t184))) else (spec_RouteTo.j0 k l0 a1 a2 a3 true))) else (spec_RouteTo.j0 k l0 a1 a2 a3 true))) else (spec_RouteTo.j0 k l0 a1 a2 a3 true))
theorem spec_RouteTo.mono_l : ∀ k,(∀ y0 y1 y2 y3 y4,LeO (spec_RouteTo.j0 k y0 y1 y2 y3 y4) (spec_RouteTo.j0 (k+1) y0 y1 y2 y3 y4))∧(∀ y0 y1 y2 y3 y4 y5 y6,LeO (spec_RouteTo.l0 k y0 y1 y2 y3 y4 y5 y6) (spec_RouteTo.l0 (k+1) y0 y1 y2 y3 y4 y5 y6))
 | 0=>⟨fun _ _ _ _ _ r h=>by simp[spec_RouteTo.j0] at h,fun _ _ _ _ _ _ _ r h=>by simp[spec_RouteTo.l0] at h⟩
 | k+1=>by
  obtain⟨ih0,ih1⟩:=spec_RouteTo.mono_l k
  refine⟨?_,?_⟩
  ·intro y0 y1 y2 y3 y4
   unfold spec_RouteTo.j0
   repeat' first
   | (with_reducible exact ih0 _ _ _ _ _)
   | (with_reducible exact ih1 _ _ _ _ _ _ _)
   | (with_reducible exact spec_GoodPlan.mono _ _)
   | (with_reducible exact spec_l6Search.mono _ _ _ _)
   | (with_reducible exact LeO.refl _)
   | (with_reducible exact LeO.none _)
   | (with_reducible refine LeO.ite ?_ ?_)
   | (with_reducible refine LeO.bind ?_ (fun _ => ?_))
   | exact ih0 _ _ _ _ _
   | exact ih1 _ _ _ _ _ _ _
   | exact spec_GoodPlan.mono _ _
   | exact spec_l6Search.mono _ _ _ _
   | exact LeO.none _
   | refine LeO.ite ?_ ?_
   | refine LeO.bind ?_ (fun _ => ?_)
  ·intro y0 y1 y2 y3 y4 y5 y6
   unfold spec_RouteTo.l0
   repeat' first
   | (with_reducible exact ih0 _ _ _ _ _)
   | (with_reducible exact ih1 _ _ _ _ _ _ _)
   | (with_reducible exact spec_GoodPlan.mono _ _)
   | (with_reducible exact spec_l6Search.mono _ _ _ _)
   | (with_reducible exact LeO.refl _)
   | (with_reducible exact LeO.none _)
   | (with_reducible refine LeO.ite ?_ ?_)
   | (with_reducible refine LeO.bind ?_ (fun _ => ?_))
   | exact ih0 _ _ _ _ _
   | exact ih1 _ _ _ _ _ _ _
   | exact spec_GoodPlan.mono _ _
   | exact spec_l6Search.mono _ _ _ _
   | exact LeO.none _
   | refine LeO.ite ?_ ?_
   | refine LeO.bind ?_ (fun _ => ?_)
theorem spec_RouteTo.mono : ∀ a0 a1 a2 a3 k,LeO (spec_RouteTo.f k a0 a1 a2 a3) (spec_RouteTo.f (k+1) a0 a1 a2 a3):=by
 intro a0 a1 a2 a3 k
 obtain⟨ih0,ih1⟩:=spec_RouteTo.mono_l k
 unfold spec_RouteTo.f
 repeat' first
  | (with_reducible exact ih0 _ _ _ _ _)
  | (with_reducible exact ih1 _ _ _ _ _ _ _)
  | (with_reducible exact spec_GoodPlan.mono _ _)
  | (with_reducible exact spec_l6Search.mono _ _ _ _)
  | (with_reducible exact LeO.refl _)
  | (with_reducible exact LeO.none _)
  | (with_reducible refine LeO.ite ?_ ?_)
  | (with_reducible refine LeO.bind ?_ (fun _ => ?_))
  | exact ih0 _ _ _ _ _
  | exact ih1 _ _ _ _ _ _ _
  | exact spec_GoodPlan.mono _ _
  | exact spec_l6Search.mono _ _ _ _
  | exact LeO.none _
  | refine LeO.ite ?_ ?_
  | refine LeO.bind ?_ (fun _ => ?_)
set_option maxHeartbeats 8000000 in
set_option maxRecDepth 100000 in
theorem spec_RouteTo.calls (k:Nat) (A0:Option Addr) (c0:Nat) (l0:List (S104)) (a1:Int) (a2:Int) (a3:Int) (r1:List Int) (r2:Int) (r3:Bool) (w:World) (hr0:Kd.C k104 w A0 l0.length l0) (hc0:l0.length≤c0) (h:spec_RouteTo.f k l0 a1 a2 a3=some (r1,r2,r3)) :
  Calls Try.prog 119 #[.slice A0 l0.length c0,.int .i64 a1,.int .i64 a2,.int .i64 a3] w fun e w' => ∃ v0_:Value,e=.returned (.tuple #[v0_,.int .i64 r2,.bool r3])∧Kd.R (Kd.int .i64) 3 w' w.heap.size (fun _=>True) v0_ r1∧Below w.heap.size w w':=by
 have HR0:=Aside0.mk hr0
 have HC0:=Aside0.mk hc0
 clear hr0 hc0
 have HB:=Aside0.mk (Below.refl w.heap.size w)
 have H:((spec_GoodPlan.f k l0).bind fun t181=>(if t181=true then ((spec_l6Node.f a1).bind fun t182=>(if t182=true then ((spec_l6When.f a2).bind fun t183=>(if t183=true then ((spec_l6Node.f a3).bind fun t184=>(spec_RouteTo.j0 k l0 a1 a2 a3 (!t184))) else (spec_RouteTo.j0 k l0 a1 a2 a3 true))) else (spec_RouteTo.j0 k l0 a1 a2 a3 true))) else (spec_RouteTo.j0 k l0 a1 a2 a3 true)))=some (r1,r2,r3):=h
 clear h
 have HC5:=Aside0.mk H
 clear H
 go_enter Try.func119,Try.ntmps119
 go_upto_region 1 with (fail)
 repeat (go_quiet (fail);go_upto_region 1 with (fail))
 go_cut [32] (fun v32 wc => ∃ (kq:Nat) (x32_4:Bool),v32=.bool x32_4∧Aside0 (spec_RouteTo.j0 kq l0 a1 a2 a3 x32_4=some (r1,r2,r3))∧Aside0 (kq≤k)∧Aside0 (Below w.heap.size w wc))
 case first =>
  have H:=HC5.out
  clear HC5
  replace H:=Option.bind_eq_some_iff.mp H
  obtain⟨t181,A60,H⟩:=H
  replace H:(if t181=true then ((spec_l6Node.f a1).bind fun t182=>(if t182=true then ((spec_l6When.f a2).bind fun t183=>(if t183=true then ((spec_l6Node.f a3).bind fun t184=>(spec_RouteTo.j0 k l0 a1 a2 a3 (!t184))) else (spec_RouteTo.j0 k l0 a1 a2 a3 true))) else (spec_RouteTo.j0 k l0 a1 a2 a3 true))) else (spec_RouteTo.j0 k l0 a1 a2 a3 true))=some (r1,r2,r3):=H
  have A6:=Aside0.mk A60
  clear A60
  by_cases c7:t181=true
  ·subst c7
   have H1:((spec_l6Node.f a1).bind fun t182=>(if t182=true then ((spec_l6When.f a2).bind fun t183=>(if t183=true then ((spec_l6Node.f a3).bind fun t184=>(spec_RouteTo.j0 k l0 a1 a2 a3 (!t184))) else (spec_RouteTo.j0 k l0 a1 a2 a3 true))) else (spec_RouteTo.j0 k l0 a1 a2 a3 true)))=some (r1,r2,r3):=by rw[if_pos rfl] at H;exact H
   clear H
   have H:=H1
   clear H1
   replace H:=Option.bind_eq_some_iff.mp H
   obtain⟨t182,A80,H⟩:=H
   replace H:(if t182=true then ((spec_l6When.f a2).bind fun t183=>(if t183=true then ((spec_l6Node.f a3).bind fun t184=>(spec_RouteTo.j0 k l0 a1 a2 a3 (!t184))) else (spec_RouteTo.j0 k l0 a1 a2 a3 true))) else (spec_RouteTo.j0 k l0 a1 a2 a3 true))=some (r1,r2,r3):=H
   have A8:=Aside0.mk A80
   clear A80
   by_cases c9:t182=true
   ·subst c9
    have H1:((spec_l6When.f a2).bind fun t183=>(if t183=true then ((spec_l6Node.f a3).bind fun t184=>(spec_RouteTo.j0 k l0 a1 a2 a3 (!t184))) else (spec_RouteTo.j0 k l0 a1 a2 a3 true)))=some (r1,r2,r3):=by rw[if_pos rfl] at H;exact H
    clear H
    have H:=H1
    clear H1
    replace H:=Option.bind_eq_some_iff.mp H
    obtain⟨t183,A100,H⟩:=H
    replace H:(if t183=true then ((spec_l6Node.f a3).bind fun t184=>(spec_RouteTo.j0 k l0 a1 a2 a3 (!t184))) else (spec_RouteTo.j0 k l0 a1 a2 a3 true))=some (r1,r2,r3):=H
    have A10:=Aside0.mk A100
    clear A100
    by_cases c11:t183=true
    ·subst c11
     have H1:((spec_l6Node.f a3).bind fun t184=>(spec_RouteTo.j0 k l0 a1 a2 a3 (!t184)))=some (r1,r2,r3):=by rw[if_pos rfl] at H;exact H
     clear H
     have H:=H1
     clear H1
     replace H:=Option.bind_eq_some_iff.mp H
     obtain⟨t184,A120,H⟩:=H
     replace H:(spec_RouteTo.j0 k l0 a1 a2 a3 (!t184))=some (r1,r2,r3):=H
     have A12:=Aside0.mk A120
     clear A120
     have H':=Aside0.mk H
     clear H
     go_wp2_with (first|(go_at_call 84;(with_reducible refine(spec_GoodPlan.calls k _ _ l0 true _ ?side1 ?side2 A6.out).mono ?_);(case side1=>exact bC HR0.out);(case side2=>exact HC0.out);rintro e w13 ⟨rfl,hb⟩;have n0_:=Aside0.mk (below_step (bB) hb);clear HB;have HB:=n0_;clear n0_;(try clear hb);(try clear hb2);(try clear hk);(try clear hi))|(go_at_call 85;(with_reducible refine(spec_l6Node.calls a1 true _ A8.out).mono ?_);rintro e w' ⟨rfl,⟨nd,rfl⟩⟩;(try first|exact⟨rfl,_,World.drewN_drewN _ _ _⟩|exact⟨rfl,_,Eq.trans (World.drewN_drewN _ _ _) (congrArg (World.drewN _) (Nat.add_assoc _ _ _))⟩))|(go_at_call 86;(with_reducible refine(spec_l6When.calls a2 true _ A10.out).mono ?_);rintro e w' ⟨rfl,⟨nd,rfl⟩⟩;(try first|exact⟨rfl,_,World.drewN_drewN _ _ _⟩|exact⟨rfl,_,Eq.trans (World.drewN_drewN _ _ _) (congrArg (World.drewN _) (Nat.add_assoc _ _ _))⟩))|(go_at_call 85;(with_reducible refine(spec_l6Node.calls a3 t184 _ A12.out).mono ?_);rintro e w' ⟨rfl,⟨nd,rfl⟩⟩;(try first|exact⟨rfl,_,World.drewN_drewN _ _ _⟩|exact⟨rfl,_,Eq.trans (World.drewN_drewN _ _ _) (congrArg (World.drewN _) (Nat.add_assoc _ _ _))⟩)))
     repeat (go_quiet (first|(go_at_call 84;(with_reducible refine(spec_GoodPlan.calls k _ _ l0 true _ ?side1 ?side2 A6.out).mono ?_);(case side1=>exact bC HR0.out);(case side2=>exact HC0.out);rintro e w13 ⟨rfl,hb⟩;have n0_:=Aside0.mk (below_step (bB) hb);clear HB;have HB:=n0_;clear n0_;(try clear hb);(try clear hb2);(try clear hk);(try clear hi))|(go_at_call 85;(with_reducible refine(spec_l6Node.calls a1 true _ A8.out).mono ?_);rintro e w' ⟨rfl,⟨nd,rfl⟩⟩;(try first|exact⟨rfl,_,World.drewN_drewN _ _ _⟩|exact⟨rfl,_,Eq.trans (World.drewN_drewN _ _ _) (congrArg (World.drewN _) (Nat.add_assoc _ _ _))⟩))|(go_at_call 86;(with_reducible refine(spec_l6When.calls a2 true _ A10.out).mono ?_);rintro e w' ⟨rfl,⟨nd,rfl⟩⟩;(try first|exact⟨rfl,_,World.drewN_drewN _ _ _⟩|exact⟨rfl,_,Eq.trans (World.drewN_drewN _ _ _) (congrArg (World.drewN _) (Nat.add_assoc _ _ _))⟩))|(go_at_call 85;(with_reducible refine(spec_l6Node.calls a3 t184 _ A12.out).mono ?_);rintro e w' ⟨rfl,⟨nd,rfl⟩⟩;(try first|exact⟨rfl,_,World.drewN_drewN _ _ _⟩|exact⟨rfl,_,Eq.trans (World.drewN_drewN _ _ _) (congrArg (World.drewN _) (Nat.add_assoc _ _ _))⟩)));try go_wp2_with (first|(go_at_call 84;(with_reducible refine(spec_GoodPlan.calls k _ _ l0 true _ ?side1 ?side2 A6.out).mono ?_);(case side1=>exact bC HR0.out);(case side2=>exact HC0.out);rintro e w13 ⟨rfl,hb⟩;have n0_:=Aside0.mk (below_step (bB) hb);clear HB;have HB:=n0_;clear n0_;(try clear hb);(try clear hb2);(try clear hk);(try clear hi))|(go_at_call 85;(with_reducible refine(spec_l6Node.calls a1 true _ A8.out).mono ?_);rintro e w' ⟨rfl,⟨nd,rfl⟩⟩;(try first|exact⟨rfl,_,World.drewN_drewN _ _ _⟩|exact⟨rfl,_,Eq.trans (World.drewN_drewN _ _ _) (congrArg (World.drewN _) (Nat.add_assoc _ _ _))⟩))|(go_at_call 86;(with_reducible refine(spec_l6When.calls a2 true _ A10.out).mono ?_);rintro e w' ⟨rfl,⟨nd,rfl⟩⟩;(try first|exact⟨rfl,_,World.drewN_drewN _ _ _⟩|exact⟨rfl,_,Eq.trans (World.drewN_drewN _ _ _) (congrArg (World.drewN _) (Nat.add_assoc _ _ _))⟩))|(go_at_call 85;(with_reducible refine(spec_l6Node.calls a3 t184 _ A12.out).mono ?_);rintro e w' ⟨rfl,⟨nd,rfl⟩⟩;(try first|exact⟨rfl,_,World.drewN_drewN _ _ _⟩|exact⟨rfl,_,Eq.trans (World.drewN_drewN _ _ _) (congrArg (World.drewN _) (Nat.add_assoc _ _ _))⟩))))
     go_meet
     case rel=>exact⟨_,(!t184),(bR),H',⟨by first|omega|exact Nat.le_refl _⟩,⟨by repeat (first|(with_reducible first|exact HB.out|apply below_alloc|apply pw_below_drewN|apply below_drew1)|exact HB.out)⟩⟩
    ·replace c11:=Bool.eq_false_iff.mpr c11
     subst c11
     have H1:(spec_RouteTo.j0 k l0 a1 a2 a3 true)=some (r1,r2,r3):=by rw[if_neg (show ¬ (false=true) by decide)] at H;exact H
     clear H
     have H:=H1
     clear H1
     have H':=Aside0.mk H
     clear H
     go_wp2_with (first|(go_at_call 84;(with_reducible refine(spec_GoodPlan.calls k _ _ l0 true _ ?side1 ?side2 A6.out).mono ?_);(case side1=>exact bC HR0.out);(case side2=>exact HC0.out);rintro e w14 ⟨rfl,hb⟩;have n0_:=Aside0.mk (below_step (bB) hb);clear HB;have HB:=n0_;clear n0_;(try clear hb);(try clear hb2);(try clear hk);(try clear hi))|(go_at_call 85;(with_reducible refine(spec_l6Node.calls a1 true _ A8.out).mono ?_);rintro e w' ⟨rfl,⟨nd,rfl⟩⟩;(try first|exact⟨rfl,_,World.drewN_drewN _ _ _⟩|exact⟨rfl,_,Eq.trans (World.drewN_drewN _ _ _) (congrArg (World.drewN _) (Nat.add_assoc _ _ _))⟩))|(go_at_call 86;(with_reducible refine(spec_l6When.calls a2 false _ A10.out).mono ?_);rintro e w' ⟨rfl,⟨nd,rfl⟩⟩;(try first|exact⟨rfl,_,World.drewN_drewN _ _ _⟩|exact⟨rfl,_,Eq.trans (World.drewN_drewN _ _ _) (congrArg (World.drewN _) (Nat.add_assoc _ _ _))⟩)))
     repeat (go_quiet (first|(go_at_call 84;(with_reducible refine(spec_GoodPlan.calls k _ _ l0 true _ ?side1 ?side2 A6.out).mono ?_);(case side1=>exact bC HR0.out);(case side2=>exact HC0.out);rintro e w14 ⟨rfl,hb⟩;have n0_:=Aside0.mk (below_step (bB) hb);clear HB;have HB:=n0_;clear n0_;(try clear hb);(try clear hb2);(try clear hk);(try clear hi))|(go_at_call 85;(with_reducible refine(spec_l6Node.calls a1 true _ A8.out).mono ?_);rintro e w' ⟨rfl,⟨nd,rfl⟩⟩;(try first|exact⟨rfl,_,World.drewN_drewN _ _ _⟩|exact⟨rfl,_,Eq.trans (World.drewN_drewN _ _ _) (congrArg (World.drewN _) (Nat.add_assoc _ _ _))⟩))|(go_at_call 86;(with_reducible refine(spec_l6When.calls a2 false _ A10.out).mono ?_);rintro e w' ⟨rfl,⟨nd,rfl⟩⟩;(try first|exact⟨rfl,_,World.drewN_drewN _ _ _⟩|exact⟨rfl,_,Eq.trans (World.drewN_drewN _ _ _) (congrArg (World.drewN _) (Nat.add_assoc _ _ _))⟩)));try go_wp2_with (first|(go_at_call 84;(with_reducible refine(spec_GoodPlan.calls k _ _ l0 true _ ?side1 ?side2 A6.out).mono ?_);(case side1=>exact bC HR0.out);(case side2=>exact HC0.out);rintro e w14 ⟨rfl,hb⟩;have n0_:=Aside0.mk (below_step (bB) hb);clear HB;have HB:=n0_;clear n0_;(try clear hb);(try clear hb2);(try clear hk);(try clear hi))|(go_at_call 85;(with_reducible refine(spec_l6Node.calls a1 true _ A8.out).mono ?_);rintro e w' ⟨rfl,⟨nd,rfl⟩⟩;(try first|exact⟨rfl,_,World.drewN_drewN _ _ _⟩|exact⟨rfl,_,Eq.trans (World.drewN_drewN _ _ _) (congrArg (World.drewN _) (Nat.add_assoc _ _ _))⟩))|(go_at_call 86;(with_reducible refine(spec_l6When.calls a2 false _ A10.out).mono ?_);rintro e w' ⟨rfl,⟨nd,rfl⟩⟩;(try first|exact⟨rfl,_,World.drewN_drewN _ _ _⟩|exact⟨rfl,_,Eq.trans (World.drewN_drewN _ _ _) (congrArg (World.drewN _) (Nat.add_assoc _ _ _))⟩))))
     go_meet
     case rel=>exact⟨_,(true),(bR),H',⟨by first|omega|exact Nat.le_refl _⟩,⟨by repeat (first|(with_reducible first|exact HB.out|apply below_alloc|apply pw_below_drewN|apply below_drew1)|exact HB.out)⟩⟩
   ·replace c9:=Bool.eq_false_iff.mpr c9
    subst c9
    have H1:(spec_RouteTo.j0 k l0 a1 a2 a3 true)=some (r1,r2,r3):=by rw[if_neg (show ¬ (false=true) by decide)] at H;exact H
    clear H
    have H:=H1
    clear H1
    have H':=Aside0.mk H
    clear H
    go_wp2_with (first|(go_at_call 84;(with_reducible refine(spec_GoodPlan.calls k _ _ l0 true _ ?side1 ?side2 A6.out).mono ?_);(case side1=>exact bC HR0.out);(case side2=>exact HC0.out);rintro e w15 ⟨rfl,hb⟩;have n0_:=Aside0.mk (below_step (bB) hb);clear HB;have HB:=n0_;clear n0_;(try clear hb);(try clear hb2);(try clear hk);(try clear hi))|(go_at_call 85;(with_reducible refine(spec_l6Node.calls a1 false _ A8.out).mono ?_);rintro e w' ⟨rfl,⟨nd,rfl⟩⟩;(try first|exact⟨rfl,_,World.drewN_drewN _ _ _⟩|exact⟨rfl,_,Eq.trans (World.drewN_drewN _ _ _) (congrArg (World.drewN _) (Nat.add_assoc _ _ _))⟩)))
    repeat (go_quiet (first|(go_at_call 84;(with_reducible refine(spec_GoodPlan.calls k _ _ l0 true _ ?side1 ?side2 A6.out).mono ?_);(case side1=>exact bC HR0.out);(case side2=>exact HC0.out);rintro e w15 ⟨rfl,hb⟩;have n0_:=Aside0.mk (below_step (bB) hb);clear HB;have HB:=n0_;clear n0_;(try clear hb);(try clear hb2);(try clear hk);(try clear hi))|(go_at_call 85;(with_reducible refine(spec_l6Node.calls a1 false _ A8.out).mono ?_);rintro e w' ⟨rfl,⟨nd,rfl⟩⟩;(try first|exact⟨rfl,_,World.drewN_drewN _ _ _⟩|exact⟨rfl,_,Eq.trans (World.drewN_drewN _ _ _) (congrArg (World.drewN _) (Nat.add_assoc _ _ _))⟩)));try go_wp2_with (first|(go_at_call 84;(with_reducible refine(spec_GoodPlan.calls k _ _ l0 true _ ?side1 ?side2 A6.out).mono ?_);(case side1=>exact bC HR0.out);(case side2=>exact HC0.out);rintro e w15 ⟨rfl,hb⟩;have n0_:=Aside0.mk (below_step (bB) hb);clear HB;have HB:=n0_;clear n0_;(try clear hb);(try clear hb2);(try clear hk);(try clear hi))|(go_at_call 85;(with_reducible refine(spec_l6Node.calls a1 false _ A8.out).mono ?_);rintro e w' ⟨rfl,⟨nd,rfl⟩⟩;(try first|exact⟨rfl,_,World.drewN_drewN _ _ _⟩|exact⟨rfl,_,Eq.trans (World.drewN_drewN _ _ _) (congrArg (World.drewN _) (Nat.add_assoc _ _ _))⟩))))
    go_meet
    case rel=>exact⟨_,(true),(bR),H',⟨by first|omega|exact Nat.le_refl _⟩,⟨by repeat (first|(with_reducible first|exact HB.out|apply below_alloc|apply pw_below_drewN|apply below_drew1)|exact HB.out)⟩⟩
  ·replace c7:=Bool.eq_false_iff.mpr c7
   subst c7
   have H1:(spec_RouteTo.j0 k l0 a1 a2 a3 true)=some (r1,r2,r3):=by rw[if_neg (show ¬ (false=true) by decide)] at H;exact H
   clear H
   have H:=H1
   clear H1
   have H':=Aside0.mk H
   clear H
   go_wp2_with (first|(go_at_call 84;(with_reducible refine(spec_GoodPlan.calls k _ _ l0 false _ ?side1 ?side2 A6.out).mono ?_);(case side1=>exact bC HR0.out);(case side2=>exact HC0.out);rintro e w16 ⟨rfl,hb⟩;have n0_:=Aside0.mk (below_step (bB) hb);clear HB;have HB:=n0_;clear n0_;(try clear hb);(try clear hb2);(try clear hk);(try clear hi)))
   repeat (go_quiet (first|(go_at_call 84;(with_reducible refine(spec_GoodPlan.calls k _ _ l0 false _ ?side1 ?side2 A6.out).mono ?_);(case side1=>exact bC HR0.out);(case side2=>exact HC0.out);rintro e w16 ⟨rfl,hb⟩;have n0_:=Aside0.mk (below_step (bB) hb);clear HB;have HB:=n0_;clear n0_;(try clear hb);(try clear hb2);(try clear hk);(try clear hi)));try go_wp2_with (first|(go_at_call 84;(with_reducible refine(spec_GoodPlan.calls k _ _ l0 false _ ?side1 ?side2 A6.out).mono ?_);(case side1=>exact bC HR0.out);(case side2=>exact HC0.out);rintro e w16 ⟨rfl,hb⟩;have n0_:=Aside0.mk (below_step (bB) hb);clear HB;have HB:=n0_;clear n0_;(try clear hb);(try clear hb2);(try clear hk);(try clear hi))))
   go_meet
   case rel=>exact⟨_,(true),(bR),H',⟨by first|omega|exact Nat.le_refl _⟩,⟨by repeat (first|(with_reducible first|exact HB.out|apply below_alloc|apply pw_below_drewN|apply below_drew1)|exact HB.out)⟩⟩
 case rest =>
  clear HC5
  try clear c1
  try clear p2
  try clear c7
  try clear c9
  try clear c11
  obtain⟨kq,x32_4,rfl,HA,HJ4,HB⟩:=hcut
  cases kq with
  | zero=>exact absurd HA.out (by simp[spec_RouteTo.j0])
  | succ kj4 =>
   have H:=HA.out
   clear HA
   simp only[spec_RouteTo.j0] at H
   by_cases c17:x32_4=true
   ·subst c17
    have H1:(some (([]:List Int),0,false))=some (r1,r2,r3):=by rw[if_pos rfl] at H;exact H
    clear H
    have H:=H1
    clear H1
    simp only[Option.some.injEq,Prod.mk.injEq] at H
    obtain⟨rfl,rfl,rfl⟩:=H
    go_wp2
    repeat (go_quiet (fail);try go_wp2)
    go_ret3
    exact⟨_,by first|rfl|(simp[errW_none,errW_some]<;>rfl)|(simp[*,errW_none,errW_some]<;>rfl),by first|exact Kd.R_nil _ _ _ _ _|exact Kd.N_nil _ _ _ _ _|exact Kd.V_nil _ _ _ _ _|exact Kd.Q_nil _ _ _ _ _|exact Kd.S_nil _ _ _ _ _,bB⟩
   ·replace c17:=Bool.eq_false_iff.mpr c17
    subst c17
    have H1:((spec_l6Search.f kj4 l0 a1 a2).bind fun bt185=>(if 0≤a3 then (if a3 < (bt185.1.length:Int) then (if (rd bt185.1 a3) < 0 then (some (([]:List Int),0,false)) else (spec_RouteTo.l0 kj4 l0 a1 a3 bt185.1 bt185.2 ([]:List Int) a3)) else (none)) else (none)))=some (r1,r2,r3):=by rw[if_neg (show ¬ (false=true) by decide)] at H;exact H
    clear H
    have H:=H1
    clear H1
    replace H:=Option.bind_eq_some_iff.mp H
    obtain⟨⟨t185,t186⟩,A180,H⟩:=H
    replace H:(if 0≤a3 then (if a3 < (t185.length:Int) then (if (rd t185 a3) < 0 then (some (([]:List Int),0,false)) else (spec_RouteTo.l0 kj4 l0 a1 a3 t185 t186 ([]:List Int) a3)) else (none)) else (none))=some (r1,r2,r3):=H
    have A18:=Aside0.mk A180
    clear A180
    by_cases c19:0≤a3
    ·rw[if_pos c19] at H
     have c19b0:decide (0≤a3)=true:=decide_eq_true c19
     clear c19
     by_cases c20:a3 < (t185.length:Int)
     ·rw[if_pos c20] at H
      have c20b0:decide (a3 < (t185.length:Int))=true:=decide_eq_true c20
      clear c20
      by_cases c21:(rd t185 a3) < 0
      ·rw[if_pos c21] at H
       have c21b0:decide ((rd t185 a3) < 0)=true:=decide_eq_true c21
       clear c21
       simp only[Option.some.injEq,Prod.mk.injEq] at H
       obtain⟨rfl,rfl,rfl⟩:=H
       go_wp2_with (first|(go_at_call 158;(with_reducible refine(spec_l6Search.calls kj4 _ _ l0 a1 a2 t185 t186 _ ?side1 ?side2 A18.out).mono ?_);(case side1=>exact bC HR0.out);(case side2=>exact HC0.out);rintro e w22 ⟨v187,v189,rfl,ho0,ho1,hb⟩;have n0_:=Aside0.mk (Kd.R_lower ho0 (below_size (bB)));have n1_:=Aside0.mk (Kd.R_lower ho1 (below_size (bB)));have n2_:=Aside0.mk (below_step (bB) hb);clear HB;have HO188:=n0_;have HO190:=n1_;have HB:=n2_;clear n0_ n1_ n2_;(try clear hb);(try clear hb2);(try clear hk);(try clear hi);(try clear ho0);(try clear ho1);obtain⟨Ao23,co23,eo23⟩:=Kd.R_slice HO188.out;subst eo23;have p191:0≤(a3:Int):=of_decide_eq_true (bD);have q191:a3 < (t185.length:Int):=of_decide_eq_true (bD);obtain⟨ad191,e191,hx191_0⟩:=Kd.at_int (Kd.R_reads' HO188.out).2.2 a3 p191 q191;cases e191;replace p191:=eq_true p191;replace q191:=eq_true q191))
       repeat (go_quiet (first|(go_at_call 158;(with_reducible refine(spec_l6Search.calls kj4 _ _ l0 a1 a2 t185 t186 _ ?side1 ?side2 A18.out).mono ?_);(case side1=>exact bC HR0.out);(case side2=>exact HC0.out);rintro e w22 ⟨v187,v189,rfl,ho0,ho1,hb⟩;have n0_:=Aside0.mk (Kd.R_lower ho0 (below_size (bB)));have n1_:=Aside0.mk (Kd.R_lower ho1 (below_size (bB)));have n2_:=Aside0.mk (below_step (bB) hb);clear HB;have HO188:=n0_;have HO190:=n1_;have HB:=n2_;clear n0_ n1_ n2_;(try clear hb);(try clear hb2);(try clear hk);(try clear hi);(try clear ho0);(try clear ho1);obtain⟨Ao23,co23,eo23⟩:=Kd.R_slice HO188.out;subst eo23;have p191:0≤(a3:Int):=of_decide_eq_true (bD);have q191:a3 < (t185.length:Int):=of_decide_eq_true (bD);obtain⟨ad191,e191,hx191_0⟩:=Kd.at_int (Kd.R_reads' HO188.out).2.2 a3 p191 q191;cases e191;replace p191:=eq_true p191;replace q191:=eq_true q191));try go_wp2_with (first|(go_at_call 158;(with_reducible refine(spec_l6Search.calls kj4 _ _ l0 a1 a2 t185 t186 _ ?side1 ?side2 A18.out).mono ?_);(case side1=>exact bC HR0.out);(case side2=>exact HC0.out);rintro e w22 ⟨v187,v189,rfl,ho0,ho1,hb⟩;have n0_:=Aside0.mk (Kd.R_lower ho0 (below_size (bB)));have n1_:=Aside0.mk (Kd.R_lower ho1 (below_size (bB)));have n2_:=Aside0.mk (below_step (bB) hb);clear HB;have HO188:=n0_;have HO190:=n1_;have HB:=n2_;clear n0_ n1_ n2_;(try clear hb);(try clear hb2);(try clear hk);(try clear hi);(try clear ho0);(try clear ho1);obtain⟨Ao23,co23,eo23⟩:=Kd.R_slice HO188.out;subst eo23;have p191:0≤(a3:Int):=of_decide_eq_true (bD);have q191:a3 < (t185.length:Int):=of_decide_eq_true (bD);obtain⟨ad191,e191,hx191_0⟩:=Kd.at_int (Kd.R_reads' HO188.out).2.2 a3 p191 q191;cases e191;replace p191:=eq_true p191;replace q191:=eq_true q191)))
       go_ret3
       exact⟨_,by first|rfl|(simp[errW_none,errW_some]<;>rfl)|(simp[*,errW_none,errW_some]<;>rfl),by first|exact Kd.R_nil _ _ _ _ _|exact Kd.N_nil _ _ _ _ _|exact Kd.V_nil _ _ _ _ _|exact Kd.Q_nil _ _ _ _ _|exact Kd.S_nil _ _ _ _ _,bB⟩
      ·rw[if_neg c21] at H
       have c21b0:decide ((rd t185 a3) < 0)=false:=decide_eq_false c21
       clear c21
       have H':=Aside0.mk H
       clear H
       go_wp2_with (first|(go_at_call 158;(with_reducible refine(spec_l6Search.calls kj4 _ _ l0 a1 a2 t185 t186 _ ?side1 ?side2 A18.out).mono ?_);(case side1=>exact bC HR0.out);(case side2=>exact HC0.out);rintro e w24 ⟨v187,v189,rfl,ho0,ho1,hb⟩;have n0_:=Aside0.mk (Kd.R_lower ho0 (below_size (bB)));have n1_:=Aside0.mk (Kd.R_lower ho1 (below_size (bB)));have n2_:=Aside0.mk (below_step (bB) hb);clear HB;have HO188:=n0_;have HO190:=n1_;have HB:=n2_;clear n0_ n1_ n2_;(try clear hb);(try clear hb2);(try clear hk);(try clear hi);(try clear ho0);(try clear ho1);obtain⟨Ao25,co25,eo25⟩:=Kd.R_slice HO188.out;subst eo25;have p191:0≤(a3:Int):=of_decide_eq_true (bD);have q191:a3 < (t185.length:Int):=of_decide_eq_true (bD);obtain⟨ad191,e191,hx191_0⟩:=Kd.at_int (Kd.R_reads' HO188.out).2.2 a3 p191 q191;cases e191;replace p191:=eq_true p191;replace q191:=eq_true q191))
       repeat (go_quiet (first|(go_at_call 158;(with_reducible refine(spec_l6Search.calls kj4 _ _ l0 a1 a2 t185 t186 _ ?side1 ?side2 A18.out).mono ?_);(case side1=>exact bC HR0.out);(case side2=>exact HC0.out);rintro e w24 ⟨v187,v189,rfl,ho0,ho1,hb⟩;have n0_:=Aside0.mk (Kd.R_lower ho0 (below_size (bB)));have n1_:=Aside0.mk (Kd.R_lower ho1 (below_size (bB)));have n2_:=Aside0.mk (below_step (bB) hb);clear HB;have HO188:=n0_;have HO190:=n1_;have HB:=n2_;clear n0_ n1_ n2_;(try clear hb);(try clear hb2);(try clear hk);(try clear hi);(try clear ho0);(try clear ho1);obtain⟨Ao25,co25,eo25⟩:=Kd.R_slice HO188.out;subst eo25;have p191:0≤(a3:Int):=of_decide_eq_true (bD);have q191:a3 < (t185.length:Int):=of_decide_eq_true (bD);obtain⟨ad191,e191,hx191_0⟩:=Kd.at_int (Kd.R_reads' HO188.out).2.2 a3 p191 q191;cases e191;replace p191:=eq_true p191;replace q191:=eq_true q191));try go_wp2_with (first|(go_at_call 158;(with_reducible refine(spec_l6Search.calls kj4 _ _ l0 a1 a2 t185 t186 _ ?side1 ?side2 A18.out).mono ?_);(case side1=>exact bC HR0.out);(case side2=>exact HC0.out);rintro e w24 ⟨v187,v189,rfl,ho0,ho1,hb⟩;have n0_:=Aside0.mk (Kd.R_lower ho0 (below_size (bB)));have n1_:=Aside0.mk (Kd.R_lower ho1 (below_size (bB)));have n2_:=Aside0.mk (below_step (bB) hb);clear HB;have HO188:=n0_;have HO190:=n1_;have HB:=n2_;clear n0_ n1_ n2_;(try clear hb);(try clear hb2);(try clear hk);(try clear hi);(try clear ho0);(try clear ho1);obtain⟨Ao25,co25,eo25⟩:=Kd.R_slice HO188.out;subst eo25;have p191:0≤(a3:Int):=of_decide_eq_true (bD);have q191:a3 < (t185.length:Int):=of_decide_eq_true (bD);obtain⟨ad191,e191,hx191_0⟩:=Kd.at_int (Kd.R_reads' HO188.out).2.2 a3 p191 q191;cases e191;replace p191:=eq_true p191;replace q191:=eq_true q191)))
       go_loopg [13,14] kj4 (fun kq v13 v14 w' => ∃ (x13_2:List Int) (x14_2:Int),v14=.int .i64 x14_2∧Aside0 (spec_RouteTo.l0 kq l0 a1 a3 t185 t186 x13_2 x14_2=some (r1,r2,r3))∧Aside0 (kq≤kj4)∧Aside0 (Kd.R (Kd.int .i64) 3 w' w.heap.size (fun k_=>some k_≠(v189:Value).ownBlock∧some k_≠(v13:Value).ownBlock) (.slice (some ad191) t185.length co25) t185)∧Aside0 (Kd.R (Kd.int .i64) 3 w' w.heap.size (fun k_=>some k_≠((.slice (some ad191) t185.length co25):Value).ownBlock∧some k_≠(v13:Value).ownBlock) v189 t186)∧Aside0 (Kd.R (Kd.int .i64) 3 w' w.heap.size (fun k_=>some k_≠((.slice (some ad191) t185.length co25):Value).ownBlock∧some k_≠(v189:Value).ownBlock) v13 x13_2)∧Aside0 (Below w.heap.size w w'))
       case atStart=>exact⟨(([]:List Int)),(a3),(bR),H',⟨Nat.le_refl _⟩,⟨by(with_reducible repeat (first|apply Kd.R_alloc|apply Kd.R_drewN|apply Kd.R_drew));exact Kd.R_mono HO188.out (fun _ hk=>⟨hk,(by simp[Value.ownBlock])⟩)⟩,⟨by(with_reducible repeat (first|apply Kd.R_alloc|apply Kd.R_drewN|apply Kd.R_drew));exact Kd.R_mono HO190.out (fun _ hk=>⟨hk,(by simp[Value.ownBlock])⟩)⟩,⟨by first|exact Kd.R_nil _ _ _ _ _|exact Kd.N_nil _ _ _ _ _|exact Kd.V_nil _ _ _ _ _|exact Kd.Q_nil _ _ _ _ _|exact Kd.S_nil _ _ _ _ _⟩,⟨by repeat (first|(with_reducible first|exact HB.out|apply below_alloc|apply pw_below_drewN|apply below_drew1)|exact HB.out)⟩⟩
       case round =>
        clear H'
        try clear c1
        try clear p1
        try clear q1
        try clear hx1
        try clear c2
        try clear p2
        try clear c7
        try clear c9
        try clear c11
        try clear c17
        try clear c19
        try clear c19b0
        try clear p19
        try clear q19
        try clear hx19
        try clear c20
        try clear c20b0
        try clear c21
        try clear c21b0
        try clear hx191_0
        try clear p191
        try clear p2
        try clear q191
        obtain⟨x13_2,x14_2,rfl,HA,HK2,HO_11,HO_12,HO_13,HB⟩:=hrel
        cases gk with
        | zero=>exact absurd HA.out (by simp[spec_RouteTo.l0])
        | succ k2 =>
         have H:=HA.out
         clear HA
         simp only[spec_RouteTo.l0] at H
         by_cases c26:x14_2=a1
         ·rw[if_pos c26] at H
          have c26b0:(x14_2 == a1)=true:=beq_iff_eq.mpr c26
          have c26b1:(x14_2 != a1)=false:=bne_eq_false_iff_eq.mpr c26
          clear c26
          by_cases c27:0≤a3
          ·rw[if_pos c27] at H
           have c27b0:decide (0≤a3)=true:=decide_eq_true c27
           clear c27
           by_cases c28:a3 < (t185.length:Int)
           ·rw[if_pos c28] at H
            have c28b0:decide (a3 < (t185.length:Int))=true:=decide_eq_true c28
            clear c28
            simp only[Option.some.injEq,Prod.mk.injEq] at H
            obtain⟨rfl,rfl,rfl⟩:=H
            have p192:0≤(a3:Int):=of_decide_eq_true (bD)
            have q192:a3 < (t185.length:Int):=of_decide_eq_true (bD)
            obtain⟨ad192,e192,hx192_0⟩:=Kd.at_int (Kd.R_reads' HO_11.out).2.2 a3 p192 q192
            obtain rfl:ad191=ad192:=(by injection e192)
            replace p192:=eq_true p192
            replace q192:=eq_true q192
            go_wp2
            repeat (go_quiet (fail);try go_wp2)
            go_ret3
            exact⟨_,by first|rfl|(simp[errW_none,errW_some]<;>rfl)|(simp[*,errW_none,errW_some]<;>rfl),by(with_reducible repeat (first|apply Kd.R_alloc|apply Kd.R_drewN|apply Kd.R_drew));exact Kd.R_mono HO_13.out (fun _ hk=>trivial),bB⟩
           ·rw[if_neg c28] at H
            exact absurd H (by simp)
          ·rw[if_neg c27] at H
           exact absurd H (by simp)
         ·rw[if_neg c26] at H
          have c26b0:(x14_2 == a1)=false:=beq_eq_false_iff_ne.mpr c26
          have c26b1:(x14_2 != a1)=true:=bne_iff_ne.mpr c26
          by_cases c29:0≤x14_2
          ·rw[if_pos c29] at H
           have c29b0:decide (0≤x14_2)=true:=decide_eq_true c29
           clear c29
           by_cases c30:x14_2 < (t186.length:Int)
           ·rw[if_pos c30] at H
            have c30b0:decide (x14_2 < (t186.length:Int))=true:=decide_eq_true c30
            clear c30
            obtain⟨y194,hy194⟩ : ∃ y_:List Int,y_=(([rd t186 x14_2]:List Int)):=⟨_,rfl⟩
            replace H:(if y194.length+x13_2.length < 17592186044416 then (if 0≤(rd t186 x14_2) then (if (rd t186 x14_2) < (l0.length:Int) then (spec_RouteTo.l0 k2 l0 a1 a3 t185 t186 (y194++x13_2) ((rd_T104 l0 (rd t186 x14_2)).f0)) else (none)) else (none)) else (none))=some (r1,r2,r3):=by first|(rw[hy194];with_reducible exact H)|(have H2_:=(Option.bind_some _ _).symm.trans H;rw[hy194];with_reducible exact H2_)|(have H2_:=(Option.bind_some _ _).symm.trans H;with_reducible exact H2_)|with_reducible exact H|(rw[hy194];exact H)|exact H
            have Ny194:=Aside0.mk hy194
            clear hy194
            by_cases c31:y194.length+x13_2.length < 17592186044416
            ·rw[if_pos c31] at H
             have LMc31:=Aside0.mk c31
             clear c31
             obtain⟨y197,hy197⟩ : ∃ y_:List Int,y_=(y194++x13_2):=⟨_,rfl⟩
             replace H:(if 0≤(rd t186 x14_2) then (if (rd t186 x14_2) < (l0.length:Int) then (spec_RouteTo.l0 k2 l0 a1 a3 t185 t186 y197 ((rd_T104 l0 (rd t186 x14_2)).f0)) else (none)) else (none))=some (r1,r2,r3):=by first|(rw[hy197];with_reducible exact H)|(have H2_:=(Option.bind_some _ _).symm.trans H;rw[hy197];with_reducible exact H2_)|(have H2_:=(Option.bind_some _ _).symm.trans H;with_reducible exact H2_)|with_reducible exact H|(rw[hy197];exact H)|exact H
             have Ny197:=Aside0.mk hy197
             clear hy197
             by_cases c32:0≤(rd t186 x14_2)
             ·rw[if_pos c32] at H
              have c32b0:decide (0≤(rd t186 x14_2))=true:=decide_eq_true c32
              clear c32
              by_cases c33:(rd t186 x14_2) < (l0.length:Int)
              ·rw[if_pos c33] at H
               have c33b0:decide ((rd t186 x14_2) < (l0.length:Int))=true:=decide_eq_true c33
               clear c33
               have H':=Aside0.mk H
               clear H
               obtain⟨Ao34,co34,eo34⟩:=Kd.R_slice HO_12.out
               subst eo34
               have p193:0≤(x14_2:Int):=of_decide_eq_true (bD)
               have q193:x14_2 < (t186.length:Int):=of_decide_eq_true (bD)
               obtain⟨ad193,e193,hx193_0⟩:=Kd.at_int (Kd.R_reads' HO_12.out).2.2 x14_2 p193 q193
               cases e193
               replace p193:=eq_true p193
               replace q193:=eq_true q193
               go_wp2_with (first|((with_reducible refine gate_dst (N:=61) rfl ?_);refine Kd.R_lit (Kd.int .i64) _ 3 ?hg (N:=61) ?hd (xs:=([rd t186 x14_2]:List Int)) (inner:=[.int .i64 (rd t186 x14_2)]) (ok:=fun _=>True) (okp:=fun _=>True) ?hr ?hp (fun _ hk=>hk) trivial (Below.refl _ _) (Nat.le_refl _) (by simp) ?_;(case hd=>rfl);(case hg=>rfl);(case hr=>first|(go_simp;done)|(go_simp;rfl));(case hp=>exact(Reps.one (show Kd.M (Kd.int .i64) _ _ _ (rd t186 x14_2) [.int .i64 (rd t186 x14_2)] from rfl) (Reps.none _ _)));intro v195 w35 ho36 hb hg_ hnew_;clear hg_ hnew_;(first|rw[← Ny194.out] at ho36|(simp only[Int.reduceToNat] at ho36;rw[← Ny194.out] at ho36));have n0_:=Aside0.mk (Kd.R_elder' (bK HO_11.out) (Kd.R_base ho36) hb);have n1_:=Aside0.mk (Kd.R_elder' (bK HO_12.out) (Kd.R_base ho36) hb);have n2_:=Aside0.mk (Kd.R_elder' (bK HO_13.out) (Kd.R_base ho36) hb);have n3_:=Aside0.mk (Kd.R_lower (Kd.R_new' (Kd.R_new' (Kd.R_new' ho36 (Kd.R_lt (bK HO_11.out))) (Kd.R_lt (bK HO_12.out))) (Kd.R_lt (bK HO_13.out))) (below_size (bB)));have n4_:=Aside0.mk (below_step (bB) hb);clear HO_11 HO_12 HO_13 HB;have HO_11:=n0_;have HO_12:=n1_;have HO_13:=n2_;have HO196:=n3_;have HB:=n4_;clear n0_ n1_ n2_ n3_ n4_;clear hb ho36;obtain⟨Ao38,co38,eo38⟩:=Kd.R_slice HO_13.out;subst eo38)|((with_reducible refine gate_builtin (b:=.append) (xs:=#[.tmp 61,.tmp 62]) rfl ?_);at_builtin;refine Kd.R_append_rows (Kd.int .i64) (w0:=w) w.heap.size rfl (.tmp 61) (.tmp 62) 37 3 (.int .i64 0) 8 rfl Try.underlying37 info3 rfl (by decide) (by omega) v195 y194 x13_2 _ _ _ (fun k_=>some k_≠(.slice (some ad191) t185.length co25:Value).ownBlock∧some k_≠(.slice (some ad193) t186.length co34:Value).ownBlock∧some k_≠(.slice Ao38 x13_2.length co38:Value).ownBlock) (fun _=>False) rfl rfl ?aO ?aR (fun _ _ h=>h) (fun _ h=>h.elim) ?aF ?aB ?aS ?aL ?_;(case aR=>exact bT HO_13.out);(case aB=>exact(bB));(case aF=>exact(fun k_ hk=>⟨Kd.fresh' (Kd.R_lt (bK HO_11.out)) k_ hk,Kd.fresh' (Kd.R_lt (bK HO_12.out)) k_ hk,Kd.fresh' (Kd.R_lt (bK HO_13.out)) k_ hk⟩));(case aO=>exact(by(with_reducible repeat (first|apply Kd.R_alloc|apply Kd.R_drewN|apply Kd.R_drew));exact Kd.R_mono HO196.out (fun _ hk=>⟨hk.1.1.2,⟨hk.1.2,hk.2⟩⟩)));(case aS=>exact(below_size (bB)));(case aL=>have:=LMc31.out;omega);intro v198 w37 ho hb hg hat;rw[← Ny197.out] at ho;have n0_:=Aside0.mk (Kd.R_after (ok:=(fun k_=>some k_≠(.slice (some ad193) t186.length co34:Value).ownBlock∧some k_≠(.slice Ao38 x13_2.length co38:Value).ownBlock)) (bK HO_11.out) hg hat);have n1_:=Aside0.mk (Kd.R_after (ok:=(fun k_=>some k_≠(.slice (some ad191) t185.length co25:Value).ownBlock∧some k_≠(.slice Ao38 x13_2.length co38:Value).ownBlock)) (bK HO_12.out) hg hat);have n2_:=Aside0.mk (Kd.R_after (ok:=(fun k_=>some k_≠(.slice (some ad191) t185.length co25:Value).ownBlock∧some k_≠(.slice (some ad193) t186.length co34:Value).ownBlock)) (bK HO_13.out) hg hat);have n3_:=Aside0.mk (hb);have n4_:=Aside0.mk (ho);clear HO_11 HO_12 HO_13 HB HO196;have HO_11:=n0_;have HO_12:=n1_;have HO_13:=n2_;have HB:=n3_;have HO199:=n4_;clear n0_ n1_ n2_ n3_ n4_;clear ho hb hg hat;have p200:0≤(x14_2:Int):=of_decide_eq_true (bD);have q200:x14_2 < (t186.length:Int):=of_decide_eq_true (bD);obtain⟨ad200,e200,hx200_0⟩:=Kd.at_int (Kd.R_reads' HO_12.out).2.2 x14_2 p200 q200;obtain rfl:ad193=ad200:=(by injection e200);replace p200:=eq_true p200;replace q200:=eq_true q200;have p201:0≤((rd t186 x14_2):Int):=of_decide_eq_true (bD);have q201:(rd t186 x14_2) < (l0.length:Int):=of_decide_eq_true (bD);obtain⟨ad201,e201,hx201_0,hx201_1,hx201_2,hx201_3,hx201_4⟩:=at_T104 HR0.out (rd t186 x14_2) p201 q201;cases e201;replace hx201_0:=(HB.out.cell (World.block_lt_of_cell? w _ hx201_0)).trans hx201_0;replace hx201_1:=(HB.out.cell (World.block_lt_of_cell? w _ hx201_1)).trans hx201_1;replace hx201_2:=(HB.out.cell (World.block_lt_of_cell? w _ hx201_2)).trans hx201_2;replace hx201_3:=(HB.out.cell (World.block_lt_of_cell? w _ hx201_3)).trans hx201_3;replace hx201_4:=(HB.out.cell (World.block_lt_of_cell? w _ hx201_4)).trans hx201_4;replace p201:=eq_true p201;replace q201:=eq_true q201))
               repeat (go_quiet (first|((with_reducible refine gate_dst (N:=61) rfl ?_);refine Kd.R_lit (Kd.int .i64) _ 3 ?hg (N:=61) ?hd (xs:=([rd t186 x14_2]:List Int)) (inner:=[.int .i64 (rd t186 x14_2)]) (ok:=fun _=>True) (okp:=fun _=>True) ?hr ?hp (fun _ hk=>hk) trivial (Below.refl _ _) (Nat.le_refl _) (by simp) ?_;(case hd=>rfl);(case hg=>rfl);(case hr=>first|(go_simp;done)|(go_simp;rfl));(case hp=>exact(Reps.one (show Kd.M (Kd.int .i64) _ _ _ (rd t186 x14_2) [.int .i64 (rd t186 x14_2)] from rfl) (Reps.none _ _)));intro v195 w35 ho36 hb hg_ hnew_;clear hg_ hnew_;(first|rw[← Ny194.out] at ho36|(simp only[Int.reduceToNat] at ho36;rw[← Ny194.out] at ho36));have n0_:=Aside0.mk (Kd.R_elder' (bK HO_11.out) (Kd.R_base ho36) hb);have n1_:=Aside0.mk (Kd.R_elder' (bK HO_12.out) (Kd.R_base ho36) hb);have n2_:=Aside0.mk (Kd.R_elder' (bK HO_13.out) (Kd.R_base ho36) hb);have n3_:=Aside0.mk (Kd.R_lower (Kd.R_new' (Kd.R_new' (Kd.R_new' ho36 (Kd.R_lt (bK HO_11.out))) (Kd.R_lt (bK HO_12.out))) (Kd.R_lt (bK HO_13.out))) (below_size (bB)));have n4_:=Aside0.mk (below_step (bB) hb);clear HO_11 HO_12 HO_13 HB;have HO_11:=n0_;have HO_12:=n1_;have HO_13:=n2_;have HO196:=n3_;have HB:=n4_;clear n0_ n1_ n2_ n3_ n4_;clear hb ho36;obtain⟨Ao38,co38,eo38⟩:=Kd.R_slice HO_13.out;subst eo38)|((with_reducible refine gate_builtin (b:=.append) (xs:=#[.tmp 61,.tmp 62]) rfl ?_);at_builtin;refine Kd.R_append_rows (Kd.int .i64) (w0:=w) w.heap.size rfl (.tmp 61) (.tmp 62) 37 3 (.int .i64 0) 8 rfl Try.underlying37 info3 rfl (by decide) (by omega) v195 y194 x13_2 _ _ _ (fun k_=>some k_≠(.slice (some ad191) t185.length co25:Value).ownBlock∧some k_≠(.slice (some ad193) t186.length co34:Value).ownBlock∧some k_≠(.slice Ao38 x13_2.length co38:Value).ownBlock) (fun _=>False) rfl rfl ?aO ?aR (fun _ _ h=>h) (fun _ h=>h.elim) ?aF ?aB ?aS ?aL ?_;(case aR=>exact bT HO_13.out);(case aB=>exact(bB));(case aF=>exact(fun k_ hk=>⟨Kd.fresh' (Kd.R_lt (bK HO_11.out)) k_ hk,Kd.fresh' (Kd.R_lt (bK HO_12.out)) k_ hk,Kd.fresh' (Kd.R_lt (bK HO_13.out)) k_ hk⟩));(case aO=>exact(by(with_reducible repeat (first|apply Kd.R_alloc|apply Kd.R_drewN|apply Kd.R_drew));exact Kd.R_mono HO196.out (fun _ hk=>⟨hk.1.1.2,⟨hk.1.2,hk.2⟩⟩)));(case aS=>exact(below_size (bB)));(case aL=>have:=LMc31.out;omega);intro v198 w37 ho hb hg hat;rw[← Ny197.out] at ho;have n0_:=Aside0.mk (Kd.R_after (ok:=(fun k_=>some k_≠(.slice (some ad193) t186.length co34:Value).ownBlock∧some k_≠(.slice Ao38 x13_2.length co38:Value).ownBlock)) (bK HO_11.out) hg hat);have n1_:=Aside0.mk (Kd.R_after (ok:=(fun k_=>some k_≠(.slice (some ad191) t185.length co25:Value).ownBlock∧some k_≠(.slice Ao38 x13_2.length co38:Value).ownBlock)) (bK HO_12.out) hg hat);have n2_:=Aside0.mk (Kd.R_after (ok:=(fun k_=>some k_≠(.slice (some ad191) t185.length co25:Value).ownBlock∧some k_≠(.slice (some ad193) t186.length co34:Value).ownBlock)) (bK HO_13.out) hg hat);have n3_:=Aside0.mk (hb);have n4_:=Aside0.mk (ho);clear HO_11 HO_12 HO_13 HB HO196;have HO_11:=n0_;have HO_12:=n1_;have HO_13:=n2_;have HB:=n3_;have HO199:=n4_;clear n0_ n1_ n2_ n3_ n4_;clear ho hb hg hat;have p200:0≤(x14_2:Int):=of_decide_eq_true (bD);have q200:x14_2 < (t186.length:Int):=of_decide_eq_true (bD);obtain⟨ad200,e200,hx200_0⟩:=Kd.at_int (Kd.R_reads' HO_12.out).2.2 x14_2 p200 q200;obtain rfl:ad193=ad200:=(by injection e200);replace p200:=eq_true p200;replace q200:=eq_true q200;have p201:0≤((rd t186 x14_2):Int):=of_decide_eq_true (bD);have q201:(rd t186 x14_2) < (l0.length:Int):=of_decide_eq_true (bD);obtain⟨ad201,e201,hx201_0,hx201_1,hx201_2,hx201_3,hx201_4⟩:=at_T104 HR0.out (rd t186 x14_2) p201 q201;cases e201;replace hx201_0:=(HB.out.cell (World.block_lt_of_cell? w _ hx201_0)).trans hx201_0;replace hx201_1:=(HB.out.cell (World.block_lt_of_cell? w _ hx201_1)).trans hx201_1;replace hx201_2:=(HB.out.cell (World.block_lt_of_cell? w _ hx201_2)).trans hx201_2;replace hx201_3:=(HB.out.cell (World.block_lt_of_cell? w _ hx201_3)).trans hx201_3;replace hx201_4:=(HB.out.cell (World.block_lt_of_cell? w _ hx201_4)).trans hx201_4;replace p201:=eq_true p201;replace q201:=eq_true q201));try go_wp2_with (first|((with_reducible refine gate_dst (N:=61) rfl ?_);refine Kd.R_lit (Kd.int .i64) _ 3 ?hg (N:=61) ?hd (xs:=([rd t186 x14_2]:List Int)) (inner:=[.int .i64 (rd t186 x14_2)]) (ok:=fun _=>True) (okp:=fun _=>True) ?hr ?hp (fun _ hk=>hk) trivial (Below.refl _ _) (Nat.le_refl _) (by simp) ?_;(case hd=>rfl);(case hg=>rfl);(case hr=>first|(go_simp;done)|(go_simp;rfl));(case hp=>exact(Reps.one (show Kd.M (Kd.int .i64) _ _ _ (rd t186 x14_2) [.int .i64 (rd t186 x14_2)] from rfl) (Reps.none _ _)));intro v195 w35 ho36 hb hg_ hnew_;clear hg_ hnew_;(first|rw[← Ny194.out] at ho36|(simp only[Int.reduceToNat] at ho36;rw[← Ny194.out] at ho36));have n0_:=Aside0.mk (Kd.R_elder' (bK HO_11.out) (Kd.R_base ho36) hb);have n1_:=Aside0.mk (Kd.R_elder' (bK HO_12.out) (Kd.R_base ho36) hb);have n2_:=Aside0.mk (Kd.R_elder' (bK HO_13.out) (Kd.R_base ho36) hb);have n3_:=Aside0.mk (Kd.R_lower (Kd.R_new' (Kd.R_new' (Kd.R_new' ho36 (Kd.R_lt (bK HO_11.out))) (Kd.R_lt (bK HO_12.out))) (Kd.R_lt (bK HO_13.out))) (below_size (bB)));have n4_:=Aside0.mk (below_step (bB) hb);clear HO_11 HO_12 HO_13 HB;have HO_11:=n0_;have HO_12:=n1_;have HO_13:=n2_;have HO196:=n3_;have HB:=n4_;clear n0_ n1_ n2_ n3_ n4_;clear hb ho36;obtain⟨Ao38,co38,eo38⟩:=Kd.R_slice HO_13.out;subst eo38)|((with_reducible refine gate_builtin (b:=.append) (xs:=#[.tmp 61,.tmp 62]) rfl ?_);at_builtin;refine Kd.R_append_rows (Kd.int .i64) (w0:=w) w.heap.size rfl (.tmp 61) (.tmp 62) 37 3 (.int .i64 0) 8 rfl Try.underlying37 info3 rfl (by decide) (by omega) v195 y194 x13_2 _ _ _ (fun k_=>some k_≠(.slice (some ad191) t185.length co25:Value).ownBlock∧some k_≠(.slice (some ad193) t186.length co34:Value).ownBlock∧some k_≠(.slice Ao38 x13_2.length co38:Value).ownBlock) (fun _=>False) rfl rfl ?aO ?aR (fun _ _ h=>h) (fun _ h=>h.elim) ?aF ?aB ?aS ?aL ?_;(case aR=>exact bT HO_13.out);(case aB=>exact(bB));(case aF=>exact(fun k_ hk=>⟨Kd.fresh' (Kd.R_lt (bK HO_11.out)) k_ hk,Kd.fresh' (Kd.R_lt (bK HO_12.out)) k_ hk,Kd.fresh' (Kd.R_lt (bK HO_13.out)) k_ hk⟩));(case aO=>exact(by(with_reducible repeat (first|apply Kd.R_alloc|apply Kd.R_drewN|apply Kd.R_drew));exact Kd.R_mono HO196.out (fun _ hk=>⟨hk.1.1.2,⟨hk.1.2,hk.2⟩⟩)));(case aS=>exact(below_size (bB)));(case aL=>have:=LMc31.out;omega);intro v198 w37 ho hb hg hat;rw[← Ny197.out] at ho;have n0_:=Aside0.mk (Kd.R_after (ok:=(fun k_=>some k_≠(.slice (some ad193) t186.length co34:Value).ownBlock∧some k_≠(.slice Ao38 x13_2.length co38:Value).ownBlock)) (bK HO_11.out) hg hat);have n1_:=Aside0.mk (Kd.R_after (ok:=(fun k_=>some k_≠(.slice (some ad191) t185.length co25:Value).ownBlock∧some k_≠(.slice Ao38 x13_2.length co38:Value).ownBlock)) (bK HO_12.out) hg hat);have n2_:=Aside0.mk (Kd.R_after (ok:=(fun k_=>some k_≠(.slice (some ad191) t185.length co25:Value).ownBlock∧some k_≠(.slice (some ad193) t186.length co34:Value).ownBlock)) (bK HO_13.out) hg hat);have n3_:=Aside0.mk (hb);have n4_:=Aside0.mk (ho);clear HO_11 HO_12 HO_13 HB HO196;have HO_11:=n0_;have HO_12:=n1_;have HO_13:=n2_;have HB:=n3_;have HO199:=n4_;clear n0_ n1_ n2_ n3_ n4_;clear ho hb hg hat;have p200:0≤(x14_2:Int):=of_decide_eq_true (bD);have q200:x14_2 < (t186.length:Int):=of_decide_eq_true (bD);obtain⟨ad200,e200,hx200_0⟩:=Kd.at_int (Kd.R_reads' HO_12.out).2.2 x14_2 p200 q200;obtain rfl:ad193=ad200:=(by injection e200);replace p200:=eq_true p200;replace q200:=eq_true q200;have p201:0≤((rd t186 x14_2):Int):=of_decide_eq_true (bD);have q201:(rd t186 x14_2) < (l0.length:Int):=of_decide_eq_true (bD);obtain⟨ad201,e201,hx201_0,hx201_1,hx201_2,hx201_3,hx201_4⟩:=at_T104 HR0.out (rd t186 x14_2) p201 q201;cases e201;replace hx201_0:=(HB.out.cell (World.block_lt_of_cell? w _ hx201_0)).trans hx201_0;replace hx201_1:=(HB.out.cell (World.block_lt_of_cell? w _ hx201_1)).trans hx201_1;replace hx201_2:=(HB.out.cell (World.block_lt_of_cell? w _ hx201_2)).trans hx201_2;replace hx201_3:=(HB.out.cell (World.block_lt_of_cell? w _ hx201_3)).trans hx201_3;replace hx201_4:=(HB.out.cell (World.block_lt_of_cell? w _ hx201_4)).trans hx201_4;replace p201:=eq_true p201;replace q201:=eq_true q201)))
               go_roundg k2
               case measure=>have:=HJ4.out;have:=HK2.out;omega
               case rel=>exact⟨(y197),((rd_T104 l0 (rd t186 x14_2)).f0),(bR),H',⟨by have:=HJ4.out;have:=HK2.out;omega⟩,⟨by(with_reducible repeat (first|apply Kd.R_alloc|apply Kd.R_drewN|apply Kd.R_drew));exact Kd.R_mono HO_11.out (fun _ hk=>⟨hk.1.1,hk.2⟩)⟩,⟨by(with_reducible repeat (first|apply Kd.R_alloc|apply Kd.R_drewN|apply Kd.R_drew));exact Kd.R_mono HO_12.out (fun _ hk=>⟨hk.1.1,hk.2⟩)⟩,⟨by(with_reducible repeat (first|apply Kd.R_alloc|apply Kd.R_drewN|apply Kd.R_drew));exact Kd.R_mono HO199.out (fun _ hk=>⟨hk.1,hk.2.1⟩)⟩,⟨by repeat (first|(with_reducible first|exact HB.out|apply below_alloc|apply pw_below_drewN|apply below_drew1)|exact HB.out)⟩⟩
              ·rw[if_neg c33] at H
               exact absurd H (by simp)
             ·rw[if_neg c32] at H
              exact absurd H (by simp)
            ·rw[if_neg c31] at H
             exact absurd H (by simp)
           ·rw[if_neg c30] at H
            exact absurd H (by simp)
          ·rw[if_neg c29] at H
           exact absurd H (by simp)
     ·rw[if_neg c20] at H
      exact absurd H (by simp)
    ·rw[if_neg c19] at H
     exact absurd H (by simp)

/-! ### spec_l17Reach: function 124 -/
def spec_l17Reach.l0:Nat→List (S104)→List (S157)→List Int→Int→Int→Int→Int→Bool→Int→Int→Int→Int→Int→Int→ByteArray→Option ((List (S157)))
 | 0,_,_,_,_,_,_,_,_,_,_,_,_,_,_,_=>none
 | k+1,x0,x7,x13,x14,x15,x203000,x203001,x203002,x203003,x203004,x203005,x203006,x203007,x203008,x203009=>if x15 < x14 then (if 0≤x15 then (if x15 < (x13.length:Int) then ((spec_RouteTo.f k x0 x203000 x203003 (rd x13 x15)).bind fun bt204=>(if bt204.2.2=true then (if bt204.2.1≤(wrap64 (x203003+x203005)) then (if (bt204.1.length:Int)≤x203006 then (if x7.length < 3518437208883 then (spec_l17Reach.l0 k x0 (x7++[(⟨rd x13 x15,bt204.2.1,bt204.1⟩:S157)]) x13 x14 (wrap64 (x15+1)) x203000 x203001 x203002 x203003 x203004 x203005 x203006 x203007 x203008 x203009) else (none)) else (spec_l17Reach.l0 k x0 x7 x13 x14 (wrap64 (x15+1)) x203000 x203001 x203002 x203003 x203004 x203005 x203006 x203007 x203008 x203009)) else (spec_l17Reach.l0 k x0 x7 x13 x14 (wrap64 (x15+1)) x203000 x203001 x203002 x203003 x203004 x203005 x203006 x203007 x203008 x203009)) else (spec_l17Reach.l0 k x0 x7 x13 x14 (wrap64 (x15+1)) x203000 x203001 x203002 x203003 x203004 x203005 x203006 x203007 x203008 x203009))) else (none)) else (none)) else (some x7)
def spec_l17Reach.f (k:Nat) (l0:List (S104)) (a1_0:Int) (a1_1:Int) (a1_2:Bool) (a1_3:Int) (a1_4:Int) (a1_5:Int) (a1_6:Int) (a1_7:Int) (a1_8:Int) (a1_9:ByteArray) (l2:List Int):Option ((List (S157))):=spec_l17Reach.l0 k l0 ([]:List (S157)) l2 (l2.length:Int) 0 a1_0 a1_1 a1_2 a1_3 a1_4 a1_5 a1_6 a1_7 a1_8 a1_9
theorem spec_l17Reach.mono_l : ∀ k,(∀ y0 y1 y2 y3 y4 y5 y6 y7 y8 y9 y10 y11 y12 y13 y14,LeO (spec_l17Reach.l0 k y0 y1 y2 y3 y4 y5 y6 y7 y8 y9 y10 y11 y12 y13 y14) (spec_l17Reach.l0 (k+1) y0 y1 y2 y3 y4 y5 y6 y7 y8 y9 y10 y11 y12 y13 y14))
 | 0=>fun _ _ _ _ _ _ _ _ _ _ _ _ _ _ _ r h=>by simp[spec_l17Reach.l0] at h
 | k+1=>by
  have ih0:=spec_l17Reach.mono_l k
  ·intro y0 y1 y2 y3 y4 y5 y6 y7 y8 y9 y10 y11 y12 y13 y14
   unfold spec_l17Reach.l0
   repeat' first
   | (with_reducible exact ih0 _ _ _ _ _ _ _ _ _ _ _ _ _ _ _)
   | (with_reducible exact spec_RouteTo.mono _ _ _ _ _)
   | (with_reducible exact LeO.refl _)
   | (with_reducible exact LeO.none _)
   | (with_reducible refine LeO.ite ?_ ?_)
   | (with_reducible refine LeO.bind ?_ (fun _ => ?_))
   | exact ih0 _ _ _ _ _ _ _ _ _ _ _ _ _ _ _
   | exact spec_RouteTo.mono _ _ _ _ _
   | exact LeO.none _
   | refine LeO.ite ?_ ?_
   | refine LeO.bind ?_ (fun _ => ?_)
theorem spec_l17Reach.mono : ∀ a0 a1 a2 a3 a4 a5 a6 a7 a8 a9 a10 a11 k,LeO (spec_l17Reach.f k a0 a1 a2 a3 a4 a5 a6 a7 a8 a9 a10 a11) (spec_l17Reach.f (k+1) a0 a1 a2 a3 a4 a5 a6 a7 a8 a9 a10 a11):=by
 intro a0 a1 a2 a3 a4 a5 a6 a7 a8 a9 a10 a11 k
 have ih0:=spec_l17Reach.mono_l k
 unfold spec_l17Reach.f
 repeat' first
  | (with_reducible exact ih0 _ _ _ _ _ _ _ _ _ _ _ _ _ _ _)
  | (with_reducible exact spec_RouteTo.mono _ _ _ _ _)
  | (with_reducible exact LeO.refl _)
  | (with_reducible exact LeO.none _)
  | (with_reducible refine LeO.ite ?_ ?_)
  | (with_reducible refine LeO.bind ?_ (fun _ => ?_))
  | exact ih0 _ _ _ _ _ _ _ _ _ _ _ _ _ _ _
  | exact spec_RouteTo.mono _ _ _ _ _
  | exact LeO.none _
  | refine LeO.ite ?_ ?_
  | refine LeO.bind ?_ (fun _ => ?_)
set_option maxHeartbeats 8000000 in
set_option maxRecDepth 100000 in
theorem spec_l17Reach.calls (k:Nat) (A0:Option Addr) (c0:Nat) (l0:List (S104)) (a1_0:Int) (a1_1:Int) (a1_2:Bool) (a1_3:Int) (a1_4:Int) (a1_5:Int) (a1_6:Int) (a1_7:Int) (a1_8:Int) (a1_9:ByteArray) (A2:Option Addr) (c2:Nat) (l2:List Int) (r:List (S157)) (w:World) (hr0:Kd.C k104 w A0 l0.length l0) (hc0:l0.length≤c0) (hr2:Kd.C (Kd.int .i64) w A2 l2.length l2) (hc2:l2.length≤c2) (h:spec_l17Reach.f k l0 a1_0 a1_1 a1_2 a1_3 a1_4 a1_5 a1_6 a1_7 a1_8 a1_9 l2=some r) :
  Calls Try.prog 124 #[.slice A0 l0.length c0,.agg #[.int .i64 a1_0,.int .i64 a1_1,.bool a1_2,.int .i64 a1_3,.int .i64 a1_4,.int .i64 a1_5,.int .i64 a1_6,.int .i64 a1_7,.int .i64 a1_8,.string a1_9],.slice A2 l2.length c2] w fun e w' => ∃ v0_:Value,e=.returned (v0_)∧Kd.S k157 157 w' w.heap.size (fun _=>True) v0_ r∧Below w.heap.size w w':=by
 have hu86:=Try.underlying86
 have hu157:=Try.underlying157
 have HR0:=Aside0.mk hr0
 have HC0:=Aside0.mk hc0
 clear hr0 hc0
 have HR2:=Aside0.mk hr2
 have HC2:=Aside0.mk hc2
 clear hr2 hc2
 have HB:=Aside0.mk (Below.refl w.heap.size w)
 have H:(spec_l17Reach.l0 k l0 ([]:List (S157)) l2 (l2.length:Int) 0 a1_0 a1_1 a1_2 a1_3 a1_4 a1_5 a1_6 a1_7 a1_8 a1_9)=some r:=h
 clear h
 have H':=Aside0.mk H
 clear H
 go_enter Try.func124,Try.ntmps124
 go_wp2_with (first|((with_reducible refine gate_dst (N:=4) rfl ?_);(try (refine gate_guard (by rfl) ?_;dsimp only));refine box_event ?hg (N:=4) ?hd (cs:=#[.int .i64 a1_0,.int .i64 a1_1,.bool a1_2,.int .i64 a1_3,.int .i64 a1_4,.int .i64 a1_5,.int .i64 a1_6,.int .i64 a1_7,.int .i64 a1_8,.string a1_9]) (t:=86) ?hr ?_;(case hd=>rfl);(case hg=>rfl);(case hr=>first|(go_simp;done)|(go_simp;rfl));intro gb202 hg w4 hbox hb;have n0_:=Aside0.mk (below_step (bB) hb);have n1_:=Aside0.mk (hbox);have n2_:=Aside0.mk ((bG:w.heap.size≤gb202));have n3_:=Aside0.mk ((bG:w.heap.size≤gb202));clear HB;have HB:=n0_;have BK202:=n1_;have GW202:=n2_;have GE202:=n3_;clear n0_ n1_ n2_ n3_;clear hb hbox hg))
 go_loopg [7,15] k (fun kq v7 v15 w' => ∃ (x7_1:List (S157)) (x15_1:Int),v15=.int .i64 x15_1∧Aside0 (spec_l17Reach.l0 kq l0 x7_1 l2 (l2.length:Int) x15_1 a1_0 a1_1 a1_2 a1_3 a1_4 a1_5 a1_6 a1_7 a1_8 a1_9=some r)∧Aside0 (kq≤k)∧Aside0 (Kd.S k157 157 w' w.heap.size (fun _=>True) v7 x7_1)∧Aside0 (w'.heap[gb202]?=some (.cells #[.int .i64 a1_0,.int .i64 a1_1,.bool a1_2,.int .i64 a1_3,.int .i64 a1_4,.int .i64 a1_5,.int .i64 a1_6,.int .i64 a1_7,.int .i64 a1_8,.string a1_9] 86 (0,0)))∧Aside0 (Below w.heap.size w w'))
 case atStart=>exact⟨(([]:List (S157))),(0),(bR),H',⟨Nat.le_refl _⟩,⟨by first|exact Kd.S_nil _ _ _ _ _|exact Kd.N_nil _ _ _ _ _|exact Kd.V_nil _ _ _ _ _|exact Kd.Q_nil _ _ _ _ _|exact Kd.R_nil _ _ _ _ _⟩,⟨by(with_reducible repeat (first|refine blk_drewN ?_ _|refine blk_drew ?_|refine blk_alloc ?_ _));exact BK202.out⟩,⟨bS GE202.out⟩⟩
 case round =>
  clear H'
  try clear c1
  try clear c2
  try clear p2
  obtain⟨x7_1,x15_1,rfl,HA,HK1,HO_7,BK202,HB⟩:=hrel
  cases gk with
  | zero=>exact absurd HA.out (by simp[spec_l17Reach.l0])
  | succ k1 =>
   have H:=HA.out
   clear HA
   simp only[spec_l17Reach.l0] at H
   by_cases c5:x15_1 < (l2.length:Int)
   ·rw[if_pos c5] at H
    have c5b0:decide (x15_1 < (l2.length:Int))=true:=decide_eq_true c5
    clear c5
    by_cases c6:0≤x15_1
    ·rw[if_pos c6] at H
     have c6b0:decide (0≤x15_1)=true:=decide_eq_true c6
     clear c6
     by_cases c7:x15_1 < (l2.length:Int)
     ·rw[if_pos c7] at H
      have c7b0:decide (x15_1 < (l2.length:Int))=true:=decide_eq_true c7
      clear c7
      replace H:=Option.bind_eq_some_iff.mp H
      obtain⟨⟨t204,t205,t206⟩,A80,H⟩:=H
      have A8:=Aside0.mk A80
      clear A80
      by_cases c9:t206=true
      ·subst c9
       have H1:(if t205≤(wrap64 (a1_3+a1_5)) then (if (t204.length:Int)≤a1_6 then (if x7_1.length < 3518437208883 then (spec_l17Reach.l0 k1 l0 (x7_1++[(⟨rd l2 x15_1,t205,t204⟩:S157)]) l2 (l2.length:Int) (wrap64 (x15_1+1)) a1_0 a1_1 a1_2 a1_3 a1_4 a1_5 a1_6 a1_7 a1_8 a1_9) else (none)) else (spec_l17Reach.l0 k1 l0 x7_1 l2 (l2.length:Int) (wrap64 (x15_1+1)) a1_0 a1_1 a1_2 a1_3 a1_4 a1_5 a1_6 a1_7 a1_8 a1_9)) else (spec_l17Reach.l0 k1 l0 x7_1 l2 (l2.length:Int) (wrap64 (x15_1+1)) a1_0 a1_1 a1_2 a1_3 a1_4 a1_5 a1_6 a1_7 a1_8 a1_9))=some r:=by rw[if_pos rfl] at H;exact H
       clear H
       have H:=H1
       clear H1
       by_cases c10:t205≤(wrap64 (a1_3+a1_5))
       ·rw[if_pos c10] at H
        have c10b0:decide (t205≤(wrap64 (a1_3+a1_5)))=true:=decide_eq_true c10
        clear c10
        by_cases c11:(t204.length:Int)≤a1_6
        ·rw[if_pos c11] at H
         have c11b0:decide ((t204.length:Int)≤a1_6)=true:=decide_eq_true c11
         clear c11
         by_cases c12:x7_1.length < 3518437208883
         ·rw[if_pos c12] at H
          have LMc12:=Aside0.mk c12
          clear c12
          obtain⟨y209,hy209⟩ : ∃ y_:List (S157),y_=(x7_1++[(⟨rd l2 x15_1,t205,t204⟩:S157)]):=⟨_,rfl⟩
          replace H:(spec_l17Reach.l0 k1 l0 y209 l2 (l2.length:Int) (wrap64 (x15_1+1)) a1_0 a1_1 a1_2 a1_3 a1_4 a1_5 a1_6 a1_7 a1_8 a1_9)=some r:=by first|(rw[hy209];with_reducible exact H)|(have H2_:=(Option.bind_some _ _).symm.trans H;rw[hy209];with_reducible exact H2_)|(have H2_:=(Option.bind_some _ _).symm.trans H;with_reducible exact H2_)|with_reducible exact H|(rw[hy209];exact H)|exact H
          have Ny209:=Aside0.mk hy209
          clear hy209
          have H':=Aside0.mk H
          clear H
          have p203:0≤(x15_1:Int):=of_decide_eq_true (bD)
          have q203:x15_1 < (l2.length:Int):=of_decide_eq_true (bD)
          obtain⟨ad203,e203,hx203_0⟩:=Kd.at_int HR2.out x15_1 p203 q203
          cases e203
          replace hx203_0:=(HB.out.cell (World.block_lt_of_cell? w _ hx203_0)).trans hx203_0
          replace p203:=eq_true p203
          replace q203:=eq_true q203
          obtain⟨hcz13_0,hcz13_1,hcz13_2,hcz13_3,hcz13_4,hcz13_5,hcz13_6,hcz13_7,hcz13_8,hcz13_9⟩:=cC10 BK202.out
          obtain⟨hfz13_0,hfz13_1,hfz13_2,hfz13_3,hfz13_4,hfz13_5,hfz13_6,hfz13_7,hfz13_8,hfz13_9⟩:=cF10 BK202.out
          go_wp2_with (first|((with_reducible refine gate_callee (f:=119) rfl ?_);refine goesA (some 26) rfl rfl Try.func119 #[.slice A0 l0.length c0,.int .i64 a1_0,.int .i64 a1_3,.int .i64 (rd l2 x15_1)] rfl ?_;(with_reducible refine(spec_RouteTo.calls k1 _ _ l0 a1_0 a1_3 (rd l2 x15_1) t204 t205 true _ ?side1 ?side2 A8.out).mono ?_);(case side1=>exact bC HR0.out);(case side2=>exact HC0.out);rintro e w14 ⟨v207,rfl,ho0,hb⟩;refine⟨_,rfl,?_⟩;have n0_:=Aside0.mk (Kd.S_elder' (by(with_reducible repeat (first|apply Kd.S_alloc|apply Kd.S_drewN|apply Kd.S_drew));exact HO_7.out) (Kd.R_base ho0) hb);have n1_:=Aside0.mk (Kd.R_lower ho0 (below_size (bS GE202.out)));have n2_:=Aside0.mk (bM BK202.out hb);have n3_:=Aside0.mk (below_step (bS GE202.out) hb);clear HO_7 BK202 HB;have HO_7:=n0_;have HO208:=n1_;have BK202:=n2_;have HB:=n3_;clear n0_ n1_ n2_ n3_;(try clear hb);(try clear hb2);(try clear hk);(try clear hi);(try clear ho0);obtain⟨hcz15_0,hcz15_1,hcz15_2,hcz15_3,hcz15_4,hcz15_5,hcz15_6,hcz15_7,hcz15_8,hcz15_9⟩:=cC10 BK202.out;obtain⟨hfz15_0,hfz15_1,hfz15_2,hfz15_3,hfz15_4,hfz15_5,hfz15_6,hfz15_7,hfz15_8,hfz15_9⟩:=cF10 BK202.out;obtain⟨Ao16,co16,eo16⟩:=Kd.R_slice HO208.out;subst eo16)|((with_reducible refine gate_builtin (b:=.append) (xs:=#[.tmp 47,.tmp 52]) rfl ?_);(try (refine gate_guard (by rfl) ?_;dsimp only));at_builtin;refine Kd.S_append k157 (w0:=w) w.heap.size rfl (.tmp 47) (.tmp 52) 105 157 (.agg #[(.int .i64 0),(.int .i64 0),(.slice none 0 0)]) 40 rfl Try.underlying105 info157 rfl (by decide) (by omega) u7 x7_1 (⟨rd l2 x15_1,t205,t204⟩:S157) [.int .i64 (rd l2 x15_1),.int .i64 t205,.slice Ao16 t204.length co16] (fun _=>True) (fun k_=>some k_=(.slice Ao16 t204.length co16:Value).ownBlock) rfl rfl ?aP (fun k_ hk_=>((Kd.R_mono (ok':=fun k_=>((fun _=>True)) k_∧some k_≠(u7:Value).ownBlock) (Kd.R_apart' (HO208.out) (Kd.S_typed HO_7.out) (by decide)) (fun k_ hk=>⟨trivial,hk.2⟩))).1 k_ hk_.symm) ?aF ?aO ?aB ?aS ?aL ?_;(case aP=>exact k157_mkM _ _ _ (⟨rd l2 x15_1,t205,t204⟩:S157) (Kd.R_mono (Kd.R_tight rfl (Kd.R_mono (ok':=fun k_=>((fun _=>True)) k_∧some k_≠(u7:Value).ownBlock) (Kd.R_apart' (HO208.out) (Kd.S_typed HO_7.out) (by decide)) (fun k_ hk=>⟨trivial,hk.2⟩))) (fun _ h_=>h_)));(case aB=>exact(bS GE202.out));(case aF=>exact(fun _ _=>trivial));(case aO=>exact(by(with_reducible repeat (first|apply Kd.S_alloc|apply Kd.S_drewN|apply Kd.S_drew));exact Kd.S_mono HO_7.out (fun k_ hk=>⟨trivial,fun e_=>hk.2 e_⟩)));(case aS=>exact(below_size (bS GE202.out)));(case aL=>have:=LMc12.out;omega);intro v210 w17 ho hb hg hat;rw[← Ny209.out] at ho;have n0_:=Aside0.mk (blk_grown (g:=gb202) (o:=.cells #[.int .i64 a1_0,.int .i64 a1_1,.bool a1_2,.int .i64 a1_3,.int .i64 a1_4,.int .i64 a1_5,.int .i64 a1_6,.int .i64 a1_7,.int .i64 a1_8,.string a1_9] 86 (0,0)) (bL BK202.out) hg (Kd.S_ne HO_7.out BK202.out (by decide)));have n1_:=Aside0.mk (hb);have n2_:=Aside0.mk (ho);clear BK202 HB HO_7 HO208;have BK202:=n0_;have HB:=n1_;have HO211:=n2_;clear n0_ n1_ n2_;clear ho hb hg hat))
          go_roundg k1
          case measure=>have:=HK1.out;omega
          case rel=>exact⟨(y209),(wrap64 (x15_1+1)),(bR),H',⟨by have:=HK1.out;omega⟩,⟨by(with_reducible repeat (first|apply Kd.S_alloc|apply Kd.S_drewN|apply Kd.S_drew));exact HO211.out⟩,⟨by(with_reducible repeat (first|refine blk_drewN ?_ _|refine blk_drew ?_|refine blk_alloc ?_ _));exact BK202.out⟩,⟨bS GE202.out⟩⟩
         ·rw[if_neg c12] at H
          exact absurd H (by simp)
        ·rw[if_neg c11] at H
         have c11b0:decide ((t204.length:Int)≤a1_6)=false:=decide_eq_false c11
         clear c11
         have H':=Aside0.mk H
         clear H
         have p203:0≤(x15_1:Int):=of_decide_eq_true (bD)
         have q203:x15_1 < (l2.length:Int):=of_decide_eq_true (bD)
         obtain⟨ad203,e203,hx203_0⟩:=Kd.at_int HR2.out x15_1 p203 q203
         cases e203
         replace hx203_0:=(HB.out.cell (World.block_lt_of_cell? w _ hx203_0)).trans hx203_0
         replace p203:=eq_true p203
         replace q203:=eq_true q203
         obtain⟨hcz18_0,hcz18_1,hcz18_2,hcz18_3,hcz18_4,hcz18_5,hcz18_6,hcz18_7,hcz18_8,hcz18_9⟩:=cC10 BK202.out
         obtain⟨hfz18_0,hfz18_1,hfz18_2,hfz18_3,hfz18_4,hfz18_5,hfz18_6,hfz18_7,hfz18_8,hfz18_9⟩:=cF10 BK202.out
         go_wp2_with (first|((with_reducible refine gate_callee (f:=119) rfl ?_);refine goesA (some 26) rfl rfl Try.func119 #[.slice A0 l0.length c0,.int .i64 a1_0,.int .i64 a1_3,.int .i64 (rd l2 x15_1)] rfl ?_;(with_reducible refine(spec_RouteTo.calls k1 _ _ l0 a1_0 a1_3 (rd l2 x15_1) t204 t205 true _ ?side1 ?side2 A8.out).mono ?_);(case side1=>exact bC HR0.out);(case side2=>exact HC0.out);rintro e w19 ⟨v207,rfl,ho0,hb⟩;refine⟨_,rfl,?_⟩;have n0_:=Aside0.mk (Kd.S_elder' (by(with_reducible repeat (first|apply Kd.S_alloc|apply Kd.S_drewN|apply Kd.S_drew));exact HO_7.out) (Kd.R_base ho0) hb);have n1_:=Aside0.mk (Kd.R_lower ho0 (below_size (bS GE202.out)));have n2_:=Aside0.mk (bM BK202.out hb);have n3_:=Aside0.mk (below_step (bS GE202.out) hb);clear HO_7 BK202 HB;have HO_7:=n0_;have HO208:=n1_;have BK202:=n2_;have HB:=n3_;clear n0_ n1_ n2_ n3_;(try clear hb);(try clear hb2);(try clear hk);(try clear hi);(try clear ho0);obtain⟨hcz20_0,hcz20_1,hcz20_2,hcz20_3,hcz20_4,hcz20_5,hcz20_6,hcz20_7,hcz20_8,hcz20_9⟩:=cC10 BK202.out;obtain⟨hfz20_0,hfz20_1,hfz20_2,hfz20_3,hfz20_4,hfz20_5,hfz20_6,hfz20_7,hfz20_8,hfz20_9⟩:=cF10 BK202.out;obtain⟨Ao21,co21,eo21⟩:=Kd.R_slice HO208.out;subst eo21))
         go_roundg k1
         case measure=>have:=HK1.out;omega
         case rel=>exact⟨(x7_1),(wrap64 (x15_1+1)),(bR),H',⟨by have:=HK1.out;omega⟩,⟨by(with_reducible repeat (first|apply Kd.S_alloc|apply Kd.S_drewN|apply Kd.S_drew));exact Kd.S_mono HO_7.out (fun _ hk=>trivial)⟩,⟨by(with_reducible repeat (first|refine blk_drewN ?_ _|refine blk_drew ?_|refine blk_alloc ?_ _));exact BK202.out⟩,⟨bS GE202.out⟩⟩
       ·rw[if_neg c10] at H
        have c10b0:decide (t205≤(wrap64 (a1_3+a1_5)))=false:=decide_eq_false c10
        clear c10
        have H':=Aside0.mk H
        clear H
        have p203:0≤(x15_1:Int):=of_decide_eq_true (bD)
        have q203:x15_1 < (l2.length:Int):=of_decide_eq_true (bD)
        obtain⟨ad203,e203,hx203_0⟩:=Kd.at_int HR2.out x15_1 p203 q203
        cases e203
        replace hx203_0:=(HB.out.cell (World.block_lt_of_cell? w _ hx203_0)).trans hx203_0
        replace p203:=eq_true p203
        replace q203:=eq_true q203
        obtain⟨hcz22_0,hcz22_1,hcz22_2,hcz22_3,hcz22_4,hcz22_5,hcz22_6,hcz22_7,hcz22_8,hcz22_9⟩:=cC10 BK202.out
        obtain⟨hfz22_0,hfz22_1,hfz22_2,hfz22_3,hfz22_4,hfz22_5,hfz22_6,hfz22_7,hfz22_8,hfz22_9⟩:=cF10 BK202.out
        go_wp2_with (first|((with_reducible refine gate_callee (f:=119) rfl ?_);refine goesA (some 26) rfl rfl Try.func119 #[.slice A0 l0.length c0,.int .i64 a1_0,.int .i64 a1_3,.int .i64 (rd l2 x15_1)] rfl ?_;(with_reducible refine(spec_RouteTo.calls k1 _ _ l0 a1_0 a1_3 (rd l2 x15_1) t204 t205 true _ ?side1 ?side2 A8.out).mono ?_);(case side1=>exact bC HR0.out);(case side2=>exact HC0.out);rintro e w23 ⟨v207,rfl,ho0,hb⟩;refine⟨_,rfl,?_⟩;have n0_:=Aside0.mk (Kd.S_elder' (by(with_reducible repeat (first|apply Kd.S_alloc|apply Kd.S_drewN|apply Kd.S_drew));exact HO_7.out) (Kd.R_base ho0) hb);have n1_:=Aside0.mk (Kd.R_lower ho0 (below_size (bS GE202.out)));have n2_:=Aside0.mk (bM BK202.out hb);have n3_:=Aside0.mk (below_step (bS GE202.out) hb);clear HO_7 BK202 HB;have HO_7:=n0_;have HO208:=n1_;have BK202:=n2_;have HB:=n3_;clear n0_ n1_ n2_ n3_;(try clear hb);(try clear hb2);(try clear hk);(try clear hi);(try clear ho0);obtain⟨hcz24_0,hcz24_1,hcz24_2,hcz24_3,hcz24_4,hcz24_5,hcz24_6,hcz24_7,hcz24_8,hcz24_9⟩:=cC10 BK202.out;obtain⟨hfz24_0,hfz24_1,hfz24_2,hfz24_3,hfz24_4,hfz24_5,hfz24_6,hfz24_7,hfz24_8,hfz24_9⟩:=cF10 BK202.out))
        go_roundg k1
        case measure=>have:=HK1.out;omega
        case rel=>exact⟨(x7_1),(wrap64 (x15_1+1)),(bR),H',⟨by have:=HK1.out;omega⟩,⟨by(with_reducible repeat (first|apply Kd.S_alloc|apply Kd.S_drewN|apply Kd.S_drew));exact Kd.S_mono HO_7.out (fun _ hk=>trivial)⟩,⟨by(with_reducible repeat (first|refine blk_drewN ?_ _|refine blk_drew ?_|refine blk_alloc ?_ _));exact BK202.out⟩,⟨bS GE202.out⟩⟩
      ·replace c9:=Bool.eq_false_iff.mpr c9
       subst c9
       have H1:(spec_l17Reach.l0 k1 l0 x7_1 l2 (l2.length:Int) (wrap64 (x15_1+1)) a1_0 a1_1 a1_2 a1_3 a1_4 a1_5 a1_6 a1_7 a1_8 a1_9)=some r:=by rw[if_neg (show ¬ (false=true) by decide)] at H;exact H
       clear H
       have H:=H1
       clear H1
       have H':=Aside0.mk H
       clear H
       have p203:0≤(x15_1:Int):=of_decide_eq_true (bD)
       have q203:x15_1 < (l2.length:Int):=of_decide_eq_true (bD)
       obtain⟨ad203,e203,hx203_0⟩:=Kd.at_int HR2.out x15_1 p203 q203
       cases e203
       replace hx203_0:=(HB.out.cell (World.block_lt_of_cell? w _ hx203_0)).trans hx203_0
       replace p203:=eq_true p203
       replace q203:=eq_true q203
       obtain⟨hcz25_0,hcz25_1,hcz25_2,hcz25_3,hcz25_4,hcz25_5,hcz25_6,hcz25_7,hcz25_8,hcz25_9⟩:=cC10 BK202.out
       obtain⟨hfz25_0,hfz25_1,hfz25_2,hfz25_3,hfz25_4,hfz25_5,hfz25_6,hfz25_7,hfz25_8,hfz25_9⟩:=cF10 BK202.out
       go_wp2_with (first|((with_reducible refine gate_callee (f:=119) rfl ?_);refine goesA (some 26) rfl rfl Try.func119 #[.slice A0 l0.length c0,.int .i64 a1_0,.int .i64 a1_3,.int .i64 (rd l2 x15_1)] rfl ?_;(with_reducible refine(spec_RouteTo.calls k1 _ _ l0 a1_0 a1_3 (rd l2 x15_1) t204 t205 false _ ?side1 ?side2 A8.out).mono ?_);(case side1=>exact bC HR0.out);(case side2=>exact HC0.out);rintro e w26 ⟨v207,rfl,ho0,hb⟩;refine⟨_,rfl,?_⟩;have n0_:=Aside0.mk (Kd.S_elder' (by(with_reducible repeat (first|apply Kd.S_alloc|apply Kd.S_drewN|apply Kd.S_drew));exact HO_7.out) (Kd.R_base ho0) hb);have n1_:=Aside0.mk (Kd.R_lower ho0 (below_size (bS GE202.out)));have n2_:=Aside0.mk (bM BK202.out hb);have n3_:=Aside0.mk (below_step (bS GE202.out) hb);clear HO_7 BK202 HB;have HO_7:=n0_;have HO208:=n1_;have BK202:=n2_;have HB:=n3_;clear n0_ n1_ n2_ n3_;(try clear hb);(try clear hb2);(try clear hk);(try clear hi);(try clear ho0)))
       go_roundg k1
       case measure=>have:=HK1.out;omega
       case rel=>exact⟨(x7_1),(wrap64 (x15_1+1)),(bR),H',⟨by have:=HK1.out;omega⟩,⟨by(with_reducible repeat (first|apply Kd.S_alloc|apply Kd.S_drewN|apply Kd.S_drew));exact Kd.S_mono HO_7.out (fun _ hk=>trivial)⟩,⟨by(with_reducible repeat (first|refine blk_drewN ?_ _|refine blk_drew ?_|refine blk_alloc ?_ _));exact BK202.out⟩,⟨bS GE202.out⟩⟩
     ·rw[if_neg c7] at H
      exact absurd H (by simp)
    ·rw[if_neg c6] at H
     exact absurd H (by simp)
   ·rw[if_neg c5] at H
    have c5b0:decide (x15_1 < (l2.length:Int))=false:=decide_eq_false c5
    clear c5
    obtain rfl:=Option.some.inj H
    go_wp2
    go_ret
    exact⟨_,by first|rfl|(simp[errW_none,errW_some]<;>rfl)|(simp[*,errW_none,errW_some]<;>rfl),by(with_reducible repeat (first|apply Kd.S_alloc|apply Kd.S_drewN|apply Kd.S_drew));exact HO_7.out,bS GE202.out⟩

/-! ### spec_ReachAll: function 66 -/
def spec_ReachAll.f (k:Nat) (l0:List (S104)) (a1_0:Int) (a1_1:Int) (a1_2:Bool) (a1_3:Int) (a1_4:Int) (a1_5:Int) (a1_6:Int) (a1_7:Int) (a1_8:Int) (a1_9:ByteArray) (l2:List Int):Option ((List (S157)) × Bool):=(spec_l17Ask.f k l0 a1_0 a1_1 a1_2 a1_3 a1_4 a1_5 a1_6 a1_7 a1_8 a1_9 l2).bind fun t213=>(if t213=true then ((spec_l17Reach.f k l0 a1_0 a1_1 a1_2 a1_3 a1_4 a1_5 a1_6 a1_7 a1_8 a1_9 l2).bind fun t214=>(some (t214,true))) else (some (([]:List (S157)),false)))
theorem spec_ReachAll.mono : ∀ a0 a1 a2 a3 a4 a5 a6 a7 a8 a9 a10 a11 k,LeO (spec_ReachAll.f k a0 a1 a2 a3 a4 a5 a6 a7 a8 a9 a10 a11) (spec_ReachAll.f (k+1) a0 a1 a2 a3 a4 a5 a6 a7 a8 a9 a10 a11):=by
 intro a0 a1 a2 a3 a4 a5 a6 a7 a8 a9 a10 a11 k
 unfold spec_ReachAll.f
 repeat' first
  | (with_reducible exact spec_l17Ask.mono _ _ _ _ _ _ _ _ _ _ _ _ _)
  | (with_reducible exact spec_l17Reach.mono _ _ _ _ _ _ _ _ _ _ _ _ _)
  | (with_reducible exact LeO.refl _)
  | (with_reducible exact LeO.none _)
  | (with_reducible refine LeO.ite ?_ ?_)
  | (with_reducible refine LeO.bind ?_ (fun _ => ?_))
  | exact spec_l17Ask.mono _ _ _ _ _ _ _ _ _ _ _ _ _
  | exact spec_l17Reach.mono _ _ _ _ _ _ _ _ _ _ _ _ _
  | exact LeO.none _
  | refine LeO.ite ?_ ?_
  | refine LeO.bind ?_ (fun _ => ?_)
set_option maxHeartbeats 8000000 in
set_option maxRecDepth 100000 in
theorem spec_ReachAll.calls (k:Nat) (A0:Option Addr) (c0:Nat) (l0:List (S104)) (a1_0:Int) (a1_1:Int) (a1_2:Bool) (a1_3:Int) (a1_4:Int) (a1_5:Int) (a1_6:Int) (a1_7:Int) (a1_8:Int) (a1_9:ByteArray) (A2:Option Addr) (c2:Nat) (l2:List Int) (r1:List (S157)) (r2:Bool) (w:World) (hr0:Kd.C k104 w A0 l0.length l0) (hc0:l0.length≤c0) (hr2:Kd.C (Kd.int .i64) w A2 l2.length l2) (hc2:l2.length≤c2) (h:spec_ReachAll.f k l0 a1_0 a1_1 a1_2 a1_3 a1_4 a1_5 a1_6 a1_7 a1_8 a1_9 l2=some (r1,r2)) :
  Calls Try.prog 66 #[.slice A0 l0.length c0,.agg #[.int .i64 a1_0,.int .i64 a1_1,.bool a1_2,.int .i64 a1_3,.int .i64 a1_4,.int .i64 a1_5,.int .i64 a1_6,.int .i64 a1_7,.int .i64 a1_8,.string a1_9],.slice A2 l2.length c2] w fun e w' => ∃ v0_:Value,e=.returned (.tuple #[v0_,.bool r2])∧Kd.S k157 157 w' w.heap.size (fun _=>True) v0_ r1∧Below w.heap.size w w':=by
 have hu86:=Try.underlying86
 have HR0:=Aside0.mk hr0
 have HC0:=Aside0.mk hc0
 clear hr0 hc0
 have HR2:=Aside0.mk hr2
 have HC2:=Aside0.mk hc2
 clear hr2 hc2
 have HB:=Aside0.mk (Below.refl w.heap.size w)
 have H:((spec_l17Ask.f k l0 a1_0 a1_1 a1_2 a1_3 a1_4 a1_5 a1_6 a1_7 a1_8 a1_9 l2).bind fun t213=>(if t213=true then ((spec_l17Reach.f k l0 a1_0 a1_1 a1_2 a1_3 a1_4 a1_5 a1_6 a1_7 a1_8 a1_9 l2).bind fun t214=>(some (t214,true))) else (some (([]:List (S157)),false))))=some (r1,r2):=h
 clear h
 replace H:=Option.bind_eq_some_iff.mp H
 obtain⟨t213,A40,H⟩:=H
 replace H:(if t213=true then ((spec_l17Reach.f k l0 a1_0 a1_1 a1_2 a1_3 a1_4 a1_5 a1_6 a1_7 a1_8 a1_9 l2).bind fun t214=>(some (t214,true))) else (some (([]:List (S157)),false)))=some (r1,r2):=H
 have A4:=Aside0.mk A40
 clear A40
 by_cases c5:t213=true
 ·subst c5
  have H1:((spec_l17Reach.f k l0 a1_0 a1_1 a1_2 a1_3 a1_4 a1_5 a1_6 a1_7 a1_8 a1_9 l2).bind fun t214=>(some (t214,true)))=some (r1,r2):=by rw[if_pos rfl] at H;exact H
  clear H
  have H:=H1
  clear H1
  replace H:=Option.bind_eq_some_iff.mp H
  obtain⟨t214,A60,H⟩:=H
  replace H:(some (t214,true))=some (r1,r2):=H
  have A6:=Aside0.mk A60
  clear A60
  simp only[Option.some.injEq,Prod.mk.injEq] at H
  obtain⟨rfl,rfl⟩:=H
  go_enter Try.func66,Try.ntmps66
  go_wp2_with (first|((with_reducible refine gate_dst (N:=4) rfl ?_);refine box_event ?hg (N:=4) ?hd (cs:=#[.int .i64 a1_0,.int .i64 a1_1,.bool a1_2,.int .i64 a1_3,.int .i64 a1_4,.int .i64 a1_5,.int .i64 a1_6,.int .i64 a1_7,.int .i64 a1_8,.string a1_9]) (t:=86) ?hr ?_;(case hd=>rfl);(case hg=>rfl);(case hr=>first|(go_simp;done)|(go_simp;rfl));intro gb212 hg w7 hbox hb;have n0_:=Aside0.mk (below_step (bB) hb);have n1_:=Aside0.mk (hbox);have n2_:=Aside0.mk ((bG:w.heap.size≤gb212));have n3_:=Aside0.mk ((bG:w.heap.size≤gb212));clear HB;have HB:=n0_;have BK212:=n1_;have GW212:=n2_;have GE212:=n3_;clear n0_ n1_ n2_ n3_;clear hb hbox hg;obtain⟨hcz8_0,hcz8_1,hcz8_2,hcz8_3,hcz8_4,hcz8_5,hcz8_6,hcz8_7,hcz8_8,hcz8_9⟩:=cC10 BK212.out;obtain⟨hfz8_0,hfz8_1,hfz8_2,hfz8_3,hfz8_4,hfz8_5,hfz8_6,hfz8_7,hfz8_8,hfz8_9⟩:=cF10 BK212.out)|((with_reducible refine gate_callee (f:=123) rfl ?_);refine goesA (some 11) rfl rfl Try.func123 #[.slice A0 l0.length c0,.agg #[.int .i64 a1_0,.int .i64 a1_1,.bool a1_2,.int .i64 a1_3,.int .i64 a1_4,.int .i64 a1_5,.int .i64 a1_6,.int .i64 a1_7,.int .i64 a1_8,.string a1_9],.slice A2 l2.length c2] rfl ?_;(with_reducible refine(spec_l17Ask.calls k _ _ l0 a1_0 a1_1 a1_2 a1_3 a1_4 a1_5 a1_6 a1_7 a1_8 a1_9 _ _ l2 true _ ?side1 ?side2 ?side3 ?side4 A4.out).mono ?_);(case side1=>exact bC HR0.out);(case side2=>exact HC0.out);(case side3=>exact bC HR2.out);(case side4=>exact HC2.out);rintro e w9 ⟨rfl,hb⟩;refine⟨_,rfl,?_⟩;have n0_:=Aside0.mk (bM BK212.out hb);have n1_:=Aside0.mk (below_step (bS GE212.out) hb);clear BK212 HB;have BK212:=n0_;have HB:=n1_;clear n0_ n1_;(try clear hb);(try clear hb2);(try clear hk);(try clear hi);obtain⟨hcz10_0,hcz10_1,hcz10_2,hcz10_3,hcz10_4,hcz10_5,hcz10_6,hcz10_7,hcz10_8,hcz10_9⟩:=cC10 BK212.out;obtain⟨hfz10_0,hfz10_1,hfz10_2,hfz10_3,hfz10_4,hfz10_5,hfz10_6,hfz10_7,hfz10_8,hfz10_9⟩:=cF10 BK212.out)|((with_reducible refine gate_callee (f:=124) rfl ?_);refine goesA (some 16) rfl rfl Try.func124 #[.slice A0 l0.length c0,.agg #[.int .i64 a1_0,.int .i64 a1_1,.bool a1_2,.int .i64 a1_3,.int .i64 a1_4,.int .i64 a1_5,.int .i64 a1_6,.int .i64 a1_7,.int .i64 a1_8,.string a1_9],.slice A2 l2.length c2] rfl ?_;(with_reducible refine(spec_l17Reach.calls k _ _ l0 a1_0 a1_1 a1_2 a1_3 a1_4 a1_5 a1_6 a1_7 a1_8 a1_9 _ _ l2 t214 _ ?side1 ?side2 ?side3 ?side4 A6.out).mono ?_);(case side1=>exact bC HR0.out);(case side2=>exact HC0.out);(case side3=>exact bC HR2.out);(case side4=>exact HC2.out);rintro e w11 ⟨v215,rfl,ho0,hb⟩;refine⟨_,rfl,?_⟩;have n0_:=Aside0.mk (Kd.S_lower ho0 (below_size (bS GE212.out)));have n1_:=Aside0.mk (bM BK212.out hb);have n2_:=Aside0.mk (below_step (bS GE212.out) hb);clear BK212 HB;have HO216:=n0_;have BK212:=n1_;have HB:=n2_;clear n0_ n1_ n2_;(try clear hb);(try clear hb2);(try clear hk);(try clear hi);(try clear ho0)))
  go_ret2
  exact⟨_,by first|rfl|(simp[errW_none,errW_some]<;>rfl)|(simp[*,errW_none,errW_some]<;>rfl),by(with_reducible repeat (first|apply Kd.S_alloc|apply Kd.S_drewN|apply Kd.S_drew));exact HO216.out,bS GE212.out⟩
 ·replace c5:=Bool.eq_false_iff.mpr c5
  subst c5
  have H1:(some (([]:List (S157)),false))=some (r1,r2):=by rw[if_neg (show ¬ (false=true) by decide)] at H;exact H
  clear H
  have H:=H1
  clear H1
  simp only[Option.some.injEq,Prod.mk.injEq] at H
  obtain⟨rfl,rfl⟩:=H
  go_enter Try.func66,Try.ntmps66
  go_wp2_with (first|((with_reducible refine gate_dst (N:=4) rfl ?_);refine box_event ?hg (N:=4) ?hd (cs:=#[.int .i64 a1_0,.int .i64 a1_1,.bool a1_2,.int .i64 a1_3,.int .i64 a1_4,.int .i64 a1_5,.int .i64 a1_6,.int .i64 a1_7,.int .i64 a1_8,.string a1_9]) (t:=86) ?hr ?_;(case hd=>rfl);(case hg=>rfl);(case hr=>first|(go_simp;done)|(go_simp;rfl));intro gb212 hg w12 hbox hb;have n0_:=Aside0.mk (below_step (bB) hb);have n1_:=Aside0.mk (hbox);have n2_:=Aside0.mk ((bG:w.heap.size≤gb212));have n3_:=Aside0.mk ((bG:w.heap.size≤gb212));clear HB;have HB:=n0_;have BK212:=n1_;have GW212:=n2_;have GE212:=n3_;clear n0_ n1_ n2_ n3_;clear hb hbox hg;obtain⟨hcz13_0,hcz13_1,hcz13_2,hcz13_3,hcz13_4,hcz13_5,hcz13_6,hcz13_7,hcz13_8,hcz13_9⟩:=cC10 BK212.out;obtain⟨hfz13_0,hfz13_1,hfz13_2,hfz13_3,hfz13_4,hfz13_5,hfz13_6,hfz13_7,hfz13_8,hfz13_9⟩:=cF10 BK212.out)|((with_reducible refine gate_callee (f:=123) rfl ?_);refine goesA (some 11) rfl rfl Try.func123 #[.slice A0 l0.length c0,.agg #[.int .i64 a1_0,.int .i64 a1_1,.bool a1_2,.int .i64 a1_3,.int .i64 a1_4,.int .i64 a1_5,.int .i64 a1_6,.int .i64 a1_7,.int .i64 a1_8,.string a1_9],.slice A2 l2.length c2] rfl ?_;(with_reducible refine(spec_l17Ask.calls k _ _ l0 a1_0 a1_1 a1_2 a1_3 a1_4 a1_5 a1_6 a1_7 a1_8 a1_9 _ _ l2 false _ ?side1 ?side2 ?side3 ?side4 A4.out).mono ?_);(case side1=>exact bC HR0.out);(case side2=>exact HC0.out);(case side3=>exact bC HR2.out);(case side4=>exact HC2.out);rintro e w14 ⟨rfl,hb⟩;refine⟨_,rfl,?_⟩;have n0_:=Aside0.mk (bM BK212.out hb);have n1_:=Aside0.mk (below_step (bS GE212.out) hb);clear BK212 HB;have BK212:=n0_;have HB:=n1_;clear n0_ n1_;(try clear hb);(try clear hb2);(try clear hk);(try clear hi)))
  go_ret2
  exact⟨_,by first|rfl|(simp[errW_none,errW_some]<;>rfl)|(simp[*,errW_none,errW_some]<;>rfl),by first|exact Kd.S_nil _ _ _ _ _|exact Kd.N_nil _ _ _ _ _|exact Kd.V_nil _ _ _ _ _|exact Kd.Q_nil _ _ _ _ _|exact Kd.R_nil _ _ _ _ _,bS GE212.out⟩

-- NOT PRINTED: function 169 (impl_Contact_169)

-- NOT PRINTED: function 144 (impl_Contact_144)

/-! ### impl_within: function 79 -/
def impl_within.f (a0:Int) (a1:Int) (a2:Int):Option (Bool):=if a1≤a0 then (some (decide (a0≤a2))) else (some false)
set_option maxHeartbeats 8000000 in
set_option maxRecDepth 100000 in
theorem impl_within.calls (a0:Int) (a1:Int) (a2:Int) (r:Bool) (w:World) (h:impl_within.f a0 a1 a2=some r) :
  Calls Try.prog 79 #[.int .i64 a0,.int .i64 a1,.int .i64 a2] w fun e w'=>e=.returned (.bool r)∧Drawn0 w w':=by
 have H:(if a1≤a0 then (some (decide (a0≤a2))) else (some false))=some r:=h
 clear h
 by_cases c4:a1≤a0
 ·rw[if_pos c4] at H
  have c4b0:decide (a1≤a0)=true:=decide_eq_true c4
  clear c4
  obtain rfl:=Option.some.inj H
  go_enter Try.func79,Try.ntmps79
  go_wp2
  go_ret
  exact⟨bR,bW⟩
 ·rw[if_neg c4] at H
  have c4b0:decide (a1≤a0)=false:=decide_eq_false c4
  clear c4
  obtain rfl:=Option.some.inj H
  go_enter Try.func79,Try.ntmps79
  go_wp2
  go_ret
  exact⟨bR,bW⟩

/-! ### impl_isNode: function 89 -/
def impl_isNode.f (a0:Int):Option (Bool):=(impl_within.f a0 0 7).bind fun t219=>(some t219)
set_option maxHeartbeats 8000000 in
set_option maxRecDepth 100000 in
theorem impl_isNode.calls (a0:Int) (r:Bool) (w:World) (h:impl_isNode.f a0=some r) :
  Calls Try.prog 89 #[.int .i64 a0] w fun e w'=>e=.returned (.bool r)∧Drawn0 w w':=by
 have H:((impl_within.f a0 0 7).bind fun t219=>(some t219))=some r:=h
 clear h
 replace H:=Option.bind_eq_some_iff.mp H
 obtain⟨t219,A20,H⟩:=H
 have A2:=Aside0.mk A20
 clear A20
 obtain rfl:=Option.some.inj H
 go_enter Try.func89,Try.ntmps89
 go_wp2_with (first|((with_reducible refine gate_callee (f:=79) rfl ?_);refine goesA (some 4) rfl rfl Try.func79 #[.int .i64 a0,.int .i64 0,.int .i64 7] rfl ?_;(with_reducible refine(impl_within.calls a0 0 7 t219 _ A2.out).mono ?_);rintro e w' ⟨rfl,⟨nd,rfl⟩⟩;refine⟨_,rfl,?_⟩))
 go_ret
 exact⟨bR,bW⟩

/-! ### impl_areUnlike: function 146 -/
def impl_areUnlike.f (a0:Int) (a1:Int):Option (Bool):=(impl_isNode.f a0).bind fun t220=>(if t220=true then ((impl_isNode.f a1).bind fun t221=>(if t221=true then (some (a0 != a1)) else (some false))) else (some false))
set_option maxHeartbeats 8000000 in
set_option maxRecDepth 100000 in
theorem impl_areUnlike.calls (a0:Int) (a1:Int) (r:Bool) (w:World) (h:impl_areUnlike.f a0 a1=some r) :
  Calls Try.prog 146 #[.int .i64 a0,.int .i64 a1] w fun e w'=>e=.returned (.bool r)∧Drawn0 w w':=by
 have H:((impl_isNode.f a0).bind fun t220=>(if t220=true then ((impl_isNode.f a1).bind fun t221=>(if t221=true then (some (a0 != a1)) else (some false))) else (some false)))=some r:=h
 clear h
 replace H:=Option.bind_eq_some_iff.mp H
 obtain⟨t220,A30,H⟩:=H
 have A3:=Aside0.mk A30
 clear A30
 by_cases c4:t220=true
 ·subst c4
  have H1:((impl_isNode.f a1).bind fun t221=>(if t221=true then (some (a0 != a1)) else (some false)))=some r:=by rw[if_pos rfl] at H;exact H
  clear H
  have H:=H1
  clear H1
  replace H:=Option.bind_eq_some_iff.mp H
  obtain⟨t221,A50,H⟩:=H
  have A5:=Aside0.mk A50
  clear A50
  by_cases c6:t221=true
  ·subst c6
   have H1:(some (a0 != a1))=some r:=by rw[if_pos rfl] at H;exact H
   clear H
   have H:=H1
   clear H1
   obtain rfl:=Option.some.inj H
   go_enter Try.func146,Try.ntmps146
   go_wp2_with (first|((with_reducible refine gate_callee (f:=89) rfl ?_);refine goesA (some 6) rfl rfl Try.func89 #[.int .i64 a0] rfl ?_;(with_reducible refine(impl_isNode.calls a0 true _ A3.out).mono ?_);rintro e w' ⟨rfl,⟨nd,rfl⟩⟩;refine⟨_,rfl,?_⟩)|(go_at_call 89;(with_reducible refine(impl_isNode.calls a1 true _ A5.out).mono ?_);rintro e w' ⟨rfl,⟨nd,rfl⟩⟩))
   go_ret
   exact⟨bR,bW⟩
  ·replace c6:=Bool.eq_false_iff.mpr c6
   subst c6
   have H1:(some false)=some r:=by rw[if_neg (show ¬ (false=true) by decide)] at H;exact H
   clear H
   have H:=H1
   clear H1
   obtain rfl:=Option.some.inj H
   go_enter Try.func146,Try.ntmps146
   go_wp2_with (first|((with_reducible refine gate_callee (f:=89) rfl ?_);refine goesA (some 6) rfl rfl Try.func89 #[.int .i64 a0] rfl ?_;(with_reducible refine(impl_isNode.calls a0 true _ A3.out).mono ?_);rintro e w' ⟨rfl,⟨nd,rfl⟩⟩;refine⟨_,rfl,?_⟩)|(go_at_call 89;(with_reducible refine(impl_isNode.calls a1 false _ A5.out).mono ?_);rintro e w' ⟨rfl,⟨nd,rfl⟩⟩))
   go_ret
   exact⟨bR,bW⟩
 ·replace c4:=Bool.eq_false_iff.mpr c4
  subst c4
  have H1:(some false)=some r:=by rw[if_neg (show ¬ (false=true) by decide)] at H;exact H
  clear H
  have H:=H1
  clear H1
  obtain rfl:=Option.some.inj H
  go_enter Try.func146,Try.ntmps146
  go_wp2_with (first|((with_reducible refine gate_callee (f:=89) rfl ?_);refine goesA (some 6) rfl rfl Try.func89 #[.int .i64 a0] rfl ?_;(with_reducible refine(impl_isNode.calls a0 false _ A3.out).mono ?_);rintro e w' ⟨rfl,⟨nd,rfl⟩⟩;refine⟨_,rfl,?_⟩))
  go_ret
  exact⟨bR,bW⟩

/-! ### impl_GoodPlan_lit1: function 145 -/
def impl_GoodPlan_lit1.f (a0_0:Int) (a0_1:Int) (a0_2:Int) (a0_3:Int) (a0_4:Int):Option (Bool):=(impl_areUnlike.f a0_0 a0_1).bind fun t223=>(if t223=true then (if a0_2 < 0 then (some true) else (if a0_2 ≥ a0_3 then (some true) else (if a0_3 > 1000 then (some true) else ((impl_within.f a0_4 0 100).bind fun t224=>(some (!t224)))))) else (some true))
set_option maxHeartbeats 8000000 in
set_option maxRecDepth 100000 in
theorem impl_GoodPlan_lit1.calls (a0_0:Int) (a0_1:Int) (a0_2:Int) (a0_3:Int) (a0_4:Int) (r:Bool) (w:World) (h:impl_GoodPlan_lit1.f a0_0 a0_1 a0_2 a0_3 a0_4=some r) :
  Calls Try.prog 145 #[.agg #[.int .i64 a0_0,.int .i64 a0_1,.int .i64 a0_2,.int .i64 a0_3,.int .i64 a0_4]] w fun e w'=>e=.returned (.bool r)∧Below w.heap.size w w':=by
 have hu104:=Try.underlying104
 have HB:=Aside0.mk (Below.refl w.heap.size w)
 have H:((impl_areUnlike.f a0_0 a0_1).bind fun t223=>(if t223=true then (if a0_2 < 0 then (some true) else (if a0_2 ≥ a0_3 then (some true) else (if a0_3 > 1000 then (some true) else ((impl_within.f a0_4 0 100).bind fun t224=>(some (!t224)))))) else (some true)))=some r:=h
 clear h
 replace H:=Option.bind_eq_some_iff.mp H
 obtain⟨t223,A20,H⟩:=H
 have A2:=Aside0.mk A20
 clear A20
 by_cases c3:t223=true
 ·subst c3
  have H1:(if a0_2 < 0 then (some true) else (if a0_2 ≥ a0_3 then (some true) else (if a0_3 > 1000 then (some true) else ((impl_within.f a0_4 0 100).bind fun t224=>(some (!t224))))))=some r:=by rw[if_pos rfl] at H;exact H
  clear H
  have H:=H1
  clear H1
  by_cases c4:a0_2 < 0
  ·rw[if_pos c4] at H
   have c4b0:decide (a0_2 < 0)=true:=decide_eq_true c4
   clear c4
   obtain rfl:=Option.some.inj H
   go_enter Try.func145,Try.ntmps145
   go_wp2_with (first|((with_reducible refine gate_dst (N:=1) rfl ?_);refine box_event ?hg (N:=1) ?hd (cs:=#[.int .i64 a0_0,.int .i64 a0_1,.int .i64 a0_2,.int .i64 a0_3,.int .i64 a0_4]) (t:=104) ?hr ?_;(case hd=>rfl);(case hg=>rfl);(case hr=>first|(go_simp;done)|(go_simp;rfl));intro gb222 hg w5 hbox hb;have n0_:=Aside0.mk (below_step (bB) hb);have n1_:=Aside0.mk (hbox);have n2_:=Aside0.mk ((bG:w.heap.size≤gb222));have n3_:=Aside0.mk ((bG:w.heap.size≤gb222));clear HB;have HB:=n0_;have BK222:=n1_;have GW222:=n2_;have GE222:=n3_;clear n0_ n1_ n2_ n3_;clear hb hbox hg;obtain⟨hcz6_0,hcz6_1,hcz6_2,hcz6_3,hcz6_4⟩:=cC5 BK222.out;obtain⟨hfz6_0,hfz6_1,hfz6_2,hfz6_3,hfz6_4⟩:=cF5 BK222.out)|((with_reducible refine gate_callee (f:=146) rfl ?_);refine goesA (some 7) rfl rfl Try.func146 #[.int .i64 a0_0,.int .i64 a0_1] rfl ?_;(with_reducible refine(impl_areUnlike.calls a0_0 a0_1 true _ A2.out).mono ?_);rintro e w' ⟨rfl,⟨nd,rfl⟩⟩;refine⟨_,rfl,?_⟩))
   go_ret
   exact⟨bE,bS GE222.out⟩
  ·rw[if_neg c4] at H
   have c4b0:decide (a0_2 < 0)=false:=decide_eq_false c4
   clear c4
   by_cases c7:a0_2 ≥ a0_3
   ·rw[if_pos c7] at H
    have c7b0:decide (a0_3≤a0_2)=true:=decide_eq_true c7
    clear c7
    obtain rfl:=Option.some.inj H
    go_enter Try.func145,Try.ntmps145
    go_wp2_with (first|((with_reducible refine gate_dst (N:=1) rfl ?_);refine box_event ?hg (N:=1) ?hd (cs:=#[.int .i64 a0_0,.int .i64 a0_1,.int .i64 a0_2,.int .i64 a0_3,.int .i64 a0_4]) (t:=104) ?hr ?_;(case hd=>rfl);(case hg=>rfl);(case hr=>first|(go_simp;done)|(go_simp;rfl));intro gb222 hg w8 hbox hb;have n0_:=Aside0.mk (below_step (bB) hb);have n1_:=Aside0.mk (hbox);have n2_:=Aside0.mk ((bG:w.heap.size≤gb222));have n3_:=Aside0.mk ((bG:w.heap.size≤gb222));clear HB;have HB:=n0_;have BK222:=n1_;have GW222:=n2_;have GE222:=n3_;clear n0_ n1_ n2_ n3_;clear hb hbox hg;obtain⟨hcz9_0,hcz9_1,hcz9_2,hcz9_3,hcz9_4⟩:=cC5 BK222.out;obtain⟨hfz9_0,hfz9_1,hfz9_2,hfz9_3,hfz9_4⟩:=cF5 BK222.out)|((with_reducible refine gate_callee (f:=146) rfl ?_);refine goesA (some 7) rfl rfl Try.func146 #[.int .i64 a0_0,.int .i64 a0_1] rfl ?_;(with_reducible refine(impl_areUnlike.calls a0_0 a0_1 true _ A2.out).mono ?_);rintro e w' ⟨rfl,⟨nd,rfl⟩⟩;refine⟨_,rfl,?_⟩))
    go_ret
    exact⟨bE,bS GE222.out⟩
   ·rw[if_neg c7] at H
    have c7b0:decide (a0_3≤a0_2)=false:=decide_eq_false c7
    clear c7
    by_cases c10:a0_3 > 1000
    ·rw[if_pos c10] at H
     have c10b0:decide (1000 < a0_3)=true:=decide_eq_true c10
     clear c10
     obtain rfl:=Option.some.inj H
     go_enter Try.func145,Try.ntmps145
     go_wp2_with (first|((with_reducible refine gate_dst (N:=1) rfl ?_);refine box_event ?hg (N:=1) ?hd (cs:=#[.int .i64 a0_0,.int .i64 a0_1,.int .i64 a0_2,.int .i64 a0_3,.int .i64 a0_4]) (t:=104) ?hr ?_;(case hd=>rfl);(case hg=>rfl);(case hr=>first|(go_simp;done)|(go_simp;rfl));intro gb222 hg w11 hbox hb;have n0_:=Aside0.mk (below_step (bB) hb);have n1_:=Aside0.mk (hbox);have n2_:=Aside0.mk ((bG:w.heap.size≤gb222));have n3_:=Aside0.mk ((bG:w.heap.size≤gb222));clear HB;have HB:=n0_;have BK222:=n1_;have GW222:=n2_;have GE222:=n3_;clear n0_ n1_ n2_ n3_;clear hb hbox hg;obtain⟨hcz12_0,hcz12_1,hcz12_2,hcz12_3,hcz12_4⟩:=cC5 BK222.out;obtain⟨hfz12_0,hfz12_1,hfz12_2,hfz12_3,hfz12_4⟩:=cF5 BK222.out)|((with_reducible refine gate_callee (f:=146) rfl ?_);refine goesA (some 7) rfl rfl Try.func146 #[.int .i64 a0_0,.int .i64 a0_1] rfl ?_;(with_reducible refine(impl_areUnlike.calls a0_0 a0_1 true _ A2.out).mono ?_);rintro e w' ⟨rfl,⟨nd,rfl⟩⟩;refine⟨_,rfl,?_⟩))
     go_ret
     exact⟨bE,bS GE222.out⟩
    ·rw[if_neg c10] at H
     have c10b0:decide (1000 < a0_3)=false:=decide_eq_false c10
     clear c10
     replace H:=Option.bind_eq_some_iff.mp H
     obtain⟨t224,A130,H⟩:=H
     have A13:=Aside0.mk A130
     clear A130
     obtain rfl:=Option.some.inj H
     go_enter Try.func145,Try.ntmps145
     go_wp2_with (first|((with_reducible refine gate_dst (N:=1) rfl ?_);refine box_event ?hg (N:=1) ?hd (cs:=#[.int .i64 a0_0,.int .i64 a0_1,.int .i64 a0_2,.int .i64 a0_3,.int .i64 a0_4]) (t:=104) ?hr ?_;(case hd=>rfl);(case hg=>rfl);(case hr=>first|(go_simp;done)|(go_simp;rfl));intro gb222 hg w14 hbox hb;have n0_:=Aside0.mk (below_step (bB) hb);have n1_:=Aside0.mk (hbox);have n2_:=Aside0.mk ((bG:w.heap.size≤gb222));have n3_:=Aside0.mk ((bG:w.heap.size≤gb222));clear HB;have HB:=n0_;have BK222:=n1_;have GW222:=n2_;have GE222:=n3_;clear n0_ n1_ n2_ n3_;clear hb hbox hg;obtain⟨hcz15_0,hcz15_1,hcz15_2,hcz15_3,hcz15_4⟩:=cC5 BK222.out;obtain⟨hfz15_0,hfz15_1,hfz15_2,hfz15_3,hfz15_4⟩:=cF5 BK222.out)|((with_reducible refine gate_callee (f:=146) rfl ?_);refine goesA (some 7) rfl rfl Try.func146 #[.int .i64 a0_0,.int .i64 a0_1] rfl ?_;(with_reducible refine(impl_areUnlike.calls a0_0 a0_1 true _ A2.out).mono ?_);rintro e w' ⟨rfl,⟨nd,rfl⟩⟩;refine⟨_,rfl,?_⟩)|(go_at_call 79;(with_reducible refine(impl_within.calls a0_4 0 100 t224 _ A13.out).mono ?_);rintro e w' ⟨rfl,⟨nd,rfl⟩⟩))
     go_ret
     exact⟨bE,bS GE222.out⟩
 ·replace c3:=Bool.eq_false_iff.mpr c3
  subst c3
  have H1:(some true)=some r:=by rw[if_neg (show ¬ (false=true) by decide)] at H;exact H
  clear H
  have H:=H1
  clear H1
  obtain rfl:=Option.some.inj H
  go_enter Try.func145,Try.ntmps145
  go_wp2_with (first|((with_reducible refine gate_dst (N:=1) rfl ?_);refine box_event ?hg (N:=1) ?hd (cs:=#[.int .i64 a0_0,.int .i64 a0_1,.int .i64 a0_2,.int .i64 a0_3,.int .i64 a0_4]) (t:=104) ?hr ?_;(case hd=>rfl);(case hg=>rfl);(case hr=>first|(go_simp;done)|(go_simp;rfl));intro gb222 hg w16 hbox hb;have n0_:=Aside0.mk (below_step (bB) hb);have n1_:=Aside0.mk (hbox);have n2_:=Aside0.mk ((bG:w.heap.size≤gb222));have n3_:=Aside0.mk ((bG:w.heap.size≤gb222));clear HB;have HB:=n0_;have BK222:=n1_;have GW222:=n2_;have GE222:=n3_;clear n0_ n1_ n2_ n3_;clear hb hbox hg;obtain⟨hcz17_0,hcz17_1,hcz17_2,hcz17_3,hcz17_4⟩:=cC5 BK222.out;obtain⟨hfz17_0,hfz17_1,hfz17_2,hfz17_3,hfz17_4⟩:=cF5 BK222.out)|((with_reducible refine gate_callee (f:=146) rfl ?_);refine goesA (some 7) rfl rfl Try.func146 #[.int .i64 a0_0,.int .i64 a0_1] rfl ?_;(with_reducible refine(impl_areUnlike.calls a0_0 a0_1 false _ A2.out).mono ?_);rintro e w' ⟨rfl,⟨nd,rfl⟩⟩;refine⟨_,rfl,?_⟩))
  go_ret
  exact⟨bE,bS GE222.out⟩

end Go.Proofs.Yteneeohaoplpbaa.XFnExactReachAll
