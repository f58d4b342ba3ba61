-- Written by this session's own program (wip/xprint.py) out of the translation; Lean checks it.
import Derived.Test.YteneeohaoplpbaaXFnFollowx0
import Derived.Test.YteneeohaoplpbaaXFnFollowx1
import Derived.Test.YteneeohaoplpbaaXFnFollowx2
namespace Go.Proofs.Yteneeohaoplpbaa.XFnFollow
open Go.RowKit Go.Proofs.YteneeohaoplpbaaW.PrintWords Go.Proofs.YteneeohaoplpbaaW.PrintLast Go.Proofs.YteneeohaoplpbaaW.PrintMore
open Go.Proofs.YteneeohaoplpbaaW.PrintWords.Aside0 renaming mk → am
open List renaming setIfInBounds_toArray → zA, set_cons_zero → zB, set_cons_succ → zC
attribute [local go_sem] max2_int min2_int max_two min_two max_three min_three max_four min_four   -- for this text's walks alone
set_option linter.unusedVariables false
set_option linter.unusedSimpArgs false

/-! ### spec_RouteTo: function 119 -/
mutual
def spec_RouteTo.j0:Nat→List (S104)→Int→Int→Int→Bool→Option (List Int × Int × Bool)
 | 0,_,_,_,_,_=>none
 | k+1,x0,x1,x2,x3,x32=>if x32=true then (some (([]:List Int),0,false)) else ((spec_l6Search.f k x0 x1 x2).bind fun bt145=>(if 0≤x3 then (if x3 < (bt145.1.length:Int) then (if (rd bt145.1 x3) < 0 then (some (([]:List Int),0,false)) else (spec_RouteTo.l0 k x0 x1 x3 bt145.1 bt145.2 ([]:List Int) x3)) else (none)) else (none)))
def spec_RouteTo.l0:Nat→List (S104)→Int→Int→List Int→List Int→List Int→Int→Option (List Int × Int × Bool)
 | 0,_,_,_,_,_,_,_=>none
 | k+1,x0,x1,x3,x11,x12,x13,x14=>if x14=x1 then (if 0≤x3 then (if x3 < (x11.length:Int) then (some (x13,rd x11 x3,true)) else (none)) else (none)) else (if 0≤x14 then (if x14 < (x12.length:Int) then ((some (([rd x12 x14]:List Int):List Int)).bind fun y154=>(if y154.length+x13.length < 17592186044416 then (if 0≤(rd x12 x14) then (if (rd x12 x14) < (x0.length:Int) then (spec_RouteTo.l0 k x0 x1 x3 x11 x12 (y154++x13) ((rd_T104 x0 (rd x12 x14)).f0)) else (none)) else (none)) else (none))) else (none)) else (none))
end
def spec_RouteTo.f (k:Nat) (l0:List (S104)) (a1:Int) (a2:Int) (a3:Int):Option (List Int × Int × Bool):=(spec_GoodPlan.f k l0).bind fun t141=>(if t141=true then ((spec_l6Node.f a1).bind fun t142=>(if t142=true then ((spec_l6When.f a2).bind fun t143=>(if t143=true then ((spec_l6Node.f a3).bind fun t144=>(spec_RouteTo.j0 k l0 a1 a2 a3 (!t144))) else (spec_RouteTo.j0 k l0 a1 a2 a3 true))) else (spec_RouteTo.j0 k l0 a1 a2 a3 true))) else (spec_RouteTo.j0 k l0 a1 a2 a3 true))
theorem spec_RouteTo.mono_l : ∀ k,(∀ y0 y1 y2 y3 y4,LeO (spec_RouteTo.j0 k y0 y1 y2 y3 y4) (spec_RouteTo.j0 (k+1) y0 y1 y2 y3 y4))∧(∀ y0 y1 y2 y3 y4 y5 y6,LeO (spec_RouteTo.l0 k y0 y1 y2 y3 y4 y5 y6) (spec_RouteTo.l0 (k+1) y0 y1 y2 y3 y4 y5 y6))
 | 0=>⟨fun _ _ _ _ _ r h=>by simp[spec_RouteTo.j0] at h,fun _ _ _ _ _ _ _ r h=>by simp[spec_RouteTo.l0] at h⟩
 | k+1=>by
  obtain⟨ih0,ih1⟩:=spec_RouteTo.mono_l k
  refine⟨?_,?_⟩
  ·intro y0 y1 y2 y3 y4
   unfold spec_RouteTo.j0
   repeat' first
   | (with_reducible exact ih0 _ _ _ _ _)
   | (with_reducible exact ih1 _ _ _ _ _ _ _)
   | (with_reducible exact spec_GoodPlan.mono _ _)
   | (with_reducible exact spec_l6Search.mono _ _ _ _)
   | (with_reducible exact LeO.refl _)
   | (with_reducible exact LeO.none _)
   | (with_reducible refine LeO.ite ?_ ?_)
   | (with_reducible refine LeO.bind ?_ (fun _ => ?_))
  ·intro y0 y1 y2 y3 y4 y5 y6
   unfold spec_RouteTo.l0
   repeat' first
   | (with_reducible exact ih0 _ _ _ _ _)
   | (with_reducible exact ih1 _ _ _ _ _ _ _)
   | (with_reducible exact spec_GoodPlan.mono _ _)
   | (with_reducible exact spec_l6Search.mono _ _ _ _)
   | (with_reducible exact LeO.refl _)
   | (with_reducible exact LeO.none _)
   | (with_reducible refine LeO.ite ?_ ?_)
   | (with_reducible refine LeO.bind ?_ (fun _ => ?_))
theorem spec_RouteTo.mono : ∀ a0 a1 a2 a3 k,LeO (spec_RouteTo.f k a0 a1 a2 a3) (spec_RouteTo.f (k+1) a0 a1 a2 a3):=by
 intro a0 a1 a2 a3 k
 obtain⟨ih0,ih1⟩:=spec_RouteTo.mono_l k
 unfold spec_RouteTo.f
 repeat' first
  | (with_reducible exact ih0 _ _ _ _ _)
  | (with_reducible exact ih1 _ _ _ _ _ _ _)
  | (with_reducible exact spec_GoodPlan.mono _ _)
  | (with_reducible exact spec_l6Search.mono _ _ _ _)
  | (with_reducible exact LeO.refl _)
  | (with_reducible exact LeO.none _)
  | (with_reducible refine LeO.ite ?_ ?_)
  | (with_reducible refine LeO.bind ?_ (fun _ => ?_))
set_option maxHeartbeats 8000000 in
set_option maxRecDepth 100000 in
theorem spec_RouteTo.calls (k:Nat) (A0:Option Addr) (c0:Nat) (l0:List (S104)) (a1:Int) (a2:Int) (a3:Int) (r1:List Int) (r2:Int) (r3:Bool) (w:World) (hr0:Kd.C k104 w A0 l0.length l0) (hc0:l0.length≤c0) (h:spec_RouteTo.f k l0 a1 a2 a3=some (r1,r2,r3)) :
  Calls Try.prog 119 #[.slice A0 l0.length c0,.int .i64 a1,.int .i64 a2,.int .i64 a3] w fun e w' => ∃ v0_:Value,e=.returned (.tuple #[v0_,.int .i64 r2,.bool r3])∧Kd.R (Kd.int .i64) 3 w' w.heap.size (fun _=>True) v0_ r1∧Below w.heap.size w w':=by
 have HR0:=am hr0
 have HC0:=am hc0
 clear hr0 hc0
 have HB:=am (Below.refl w.heap.size w)
 have H:((spec_GoodPlan.f k l0).bind fun t141=>(if t141=true then ((spec_l6Node.f a1).bind fun t142=>(if t142=true then ((spec_l6When.f a2).bind fun t143=>(if t143=true then ((spec_l6Node.f a3).bind fun t144=>(spec_RouteTo.j0 k l0 a1 a2 a3 (!t144))) else (spec_RouteTo.j0 k l0 a1 a2 a3 true))) else (spec_RouteTo.j0 k l0 a1 a2 a3 true))) else (spec_RouteTo.j0 k l0 a1 a2 a3 true)))=some (r1,r2,r3):=h
 clear h
 have HC5:=am H
 clear H
 go_enter Try.func119,Try.ntmps119
 go_upto_region 1 with (fail)
 repeat (go_quiet (fail);go_upto_region 1 with (fail))
 go_cut [32] (fun v32 wc => ∃ (kq:Nat) (x32_4:Bool),v32=.bool x32_4∧Aside0 (spec_RouteTo.j0 kq l0 a1 a2 a3 x32_4=some (r1,r2,r3))∧Aside0 (kq≤k)∧Aside0 (Below w.heap.size w wc))
 case first =>
  have H:=HC5.out
  clear HC5
  replace H:=bI_ H
  obtain⟨t141,A60,H⟩:=H
  replace H:(if t141=true then ((spec_l6Node.f a1).bind fun t142=>(if t142=true then ((spec_l6When.f a2).bind fun t143=>(if t143=true then ((spec_l6Node.f a3).bind fun t144=>(spec_RouteTo.j0 k l0 a1 a2 a3 (!t144))) else (spec_RouteTo.j0 k l0 a1 a2 a3 true))) else (spec_RouteTo.j0 k l0 a1 a2 a3 true))) else (spec_RouteTo.j0 k l0 a1 a2 a3 true))=some (r1,r2,r3):=H
  have A6:=am A60
  clear A60
  by_cases c7:t141=true
  ·subst c7
   have H1:((spec_l6Node.f a1).bind fun t142=>(if t142=true then ((spec_l6When.f a2).bind fun t143=>(if t143=true then ((spec_l6Node.f a3).bind fun t144=>(spec_RouteTo.j0 k l0 a1 a2 a3 (!t144))) else (spec_RouteTo.j0 k l0 a1 a2 a3 true))) else (spec_RouteTo.j0 k l0 a1 a2 a3 true)))=some (r1,r2,r3):=by rw[if_pos rfl] at H;exact H
   clear H
   have H:=H1
   clear H1
   replace H:=bI_ H
   obtain⟨t142,A80,H⟩:=H
   replace H:(if t142=true then ((spec_l6When.f a2).bind fun t143=>(if t143=true then ((spec_l6Node.f a3).bind fun t144=>(spec_RouteTo.j0 k l0 a1 a2 a3 (!t144))) else (spec_RouteTo.j0 k l0 a1 a2 a3 true))) else (spec_RouteTo.j0 k l0 a1 a2 a3 true))=some (r1,r2,r3):=H
   have A8:=am A80
   clear A80
   by_cases c9:t142=true
   ·subst c9
    have H1:((spec_l6When.f a2).bind fun t143=>(if t143=true then ((spec_l6Node.f a3).bind fun t144=>(spec_RouteTo.j0 k l0 a1 a2 a3 (!t144))) else (spec_RouteTo.j0 k l0 a1 a2 a3 true)))=some (r1,r2,r3):=by rw[if_pos rfl] at H;exact H
    clear H
    have H:=H1
    clear H1
    replace H:=bI_ H
    obtain⟨t143,A100,H⟩:=H
    replace H:(if t143=true then ((spec_l6Node.f a3).bind fun t144=>(spec_RouteTo.j0 k l0 a1 a2 a3 (!t144))) else (spec_RouteTo.j0 k l0 a1 a2 a3 true))=some (r1,r2,r3):=H
    have A10:=am A100
    clear A100
    by_cases c11:t143=true
    ·subst c11
     have H1:((spec_l6Node.f a3).bind fun t144=>(spec_RouteTo.j0 k l0 a1 a2 a3 (!t144)))=some (r1,r2,r3):=by rw[if_pos rfl] at H;exact H
     clear H
     have H:=H1
     clear H1
     replace H:=bI_ H
     obtain⟨t144,A120,H⟩:=H
     replace H:(spec_RouteTo.j0 k l0 a1 a2 a3 (!t144))=some (r1,r2,r3):=H
     have A12:=am A120
     clear A120
     have H':=am H
     clear H
     go_wp2_with (first|(go_at_call 84;(with_reducible refine(spec_GoodPlan.calls k _ _ l0 true _ ?side1 ?side2 A6.out).mono ?_);(case side1=>exact bC HR0.out);(case side2=>exact HC0.out);rintro e w13 ⟨rfl,hb⟩;have n0_:=am (below_step (bB) hb);clear HB;have HB:=n0_;clear n0_;(try clear hb);(try clear hb2);(try clear hk);(try clear hi))|(go_at_call 85;(with_reducible refine(spec_l6Node.calls a1 true _ A8.out).mono ?_);rintro e w' ⟨rfl,⟨nd,rfl⟩⟩;(try first|exact⟨rfl,_,World.drewN_drewN _ _ _⟩|exact⟨rfl,_,Eq.trans (World.drewN_drewN _ _ _) (congrArg (World.drewN _) (Nat.add_assoc _ _ _))⟩))|(go_at_call 86;(with_reducible refine(spec_l6When.calls a2 true _ A10.out).mono ?_);rintro e w' ⟨rfl,⟨nd,rfl⟩⟩;(try first|exact⟨rfl,_,World.drewN_drewN _ _ _⟩|exact⟨rfl,_,Eq.trans (World.drewN_drewN _ _ _) (congrArg (World.drewN _) (Nat.add_assoc _ _ _))⟩))|(go_at_call 85;(with_reducible refine(spec_l6Node.calls a3 t144 _ A12.out).mono ?_);rintro e w' ⟨rfl,⟨nd,rfl⟩⟩;(try first|exact⟨rfl,_,World.drewN_drewN _ _ _⟩|exact⟨rfl,_,Eq.trans (World.drewN_drewN _ _ _) (congrArg (World.drewN _) (Nat.add_assoc _ _ _))⟩)))
     repeat (go_quiet (first|(go_at_call 84;(with_reducible refine(spec_GoodPlan.calls k _ _ l0 true _ ?side1 ?side2 A6.out).mono ?_);(case side1=>exact bC HR0.out);(case side2=>exact HC0.out);rintro e w13 ⟨rfl,hb⟩;have n0_:=am (below_step (bB) hb);clear HB;have HB:=n0_;clear n0_;(try clear hb);(try clear hb2);(try clear hk);(try clear hi))|(go_at_call 85;(with_reducible refine(spec_l6Node.calls a1 true _ A8.out).mono ?_);rintro e w' ⟨rfl,⟨nd,rfl⟩⟩;(try first|exact⟨rfl,_,World.drewN_drewN _ _ _⟩|exact⟨rfl,_,Eq.trans (World.drewN_drewN _ _ _) (congrArg (World.drewN _) (Nat.add_assoc _ _ _))⟩))|(go_at_call 86;(with_reducible refine(spec_l6When.calls a2 true _ A10.out).mono ?_);rintro e w' ⟨rfl,⟨nd,rfl⟩⟩;(try first|exact⟨rfl,_,World.drewN_drewN _ _ _⟩|exact⟨rfl,_,Eq.trans (World.drewN_drewN _ _ _) (congrArg (World.drewN _) (Nat.add_assoc _ _ _))⟩))|(go_at_call 85;(with_reducible refine(spec_l6Node.calls a3 t144 _ A12.out).mono ?_);rintro e w' ⟨rfl,⟨nd,rfl⟩⟩;(try first|exact⟨rfl,_,World.drewN_drewN _ _ _⟩|exact⟨rfl,_,Eq.trans (World.drewN_drewN _ _ _) (congrArg (World.drewN _) (Nat.add_assoc _ _ _))⟩)));try go_wp2_with (first|(go_at_call 84;(with_reducible refine(spec_GoodPlan.calls k _ _ l0 true _ ?side1 ?side2 A6.out).mono ?_);(case side1=>exact bC HR0.out);(case side2=>exact HC0.out);rintro e w13 ⟨rfl,hb⟩;have n0_:=am (below_step (bB) hb);clear HB;have HB:=n0_;clear n0_;(try clear hb);(try clear hb2);(try clear hk);(try clear hi))|(go_at_call 85;(with_reducible refine(spec_l6Node.calls a1 true _ A8.out).mono ?_);rintro e w' ⟨rfl,⟨nd,rfl⟩⟩;(try first|exact⟨rfl,_,World.drewN_drewN _ _ _⟩|exact⟨rfl,_,Eq.trans (World.drewN_drewN _ _ _) (congrArg (World.drewN _) (Nat.add_assoc _ _ _))⟩))|(go_at_call 86;(with_reducible refine(spec_l6When.calls a2 true _ A10.out).mono ?_);rintro e w' ⟨rfl,⟨nd,rfl⟩⟩;(try first|exact⟨rfl,_,World.drewN_drewN _ _ _⟩|exact⟨rfl,_,Eq.trans (World.drewN_drewN _ _ _) (congrArg (World.drewN _) (Nat.add_assoc _ _ _))⟩))|(go_at_call 85;(with_reducible refine(spec_l6Node.calls a3 t144 _ A12.out).mono ?_);rintro e w' ⟨rfl,⟨nd,rfl⟩⟩;(try first|exact⟨rfl,_,World.drewN_drewN _ _ _⟩|exact⟨rfl,_,Eq.trans (World.drewN_drewN _ _ _) (congrArg (World.drewN _) (Nat.add_assoc _ _ _))⟩))))
     go_meet
     case rel=>exact⟨_,(!t144),(bR),H',⟨by first|omega|exact Nat.le_refl _⟩,⟨by repeat (first|(with_reducible first|exact HB.out|apply below_alloc|apply pw_below_drewN|apply below_drew1)|exact HB.out)⟩⟩
    ·replace c11:=Bool.eq_false_iff.mpr c11
     subst c11
     have H1:(spec_RouteTo.j0 k l0 a1 a2 a3 true)=some (r1,r2,r3):=by rw[if_neg (show ¬ (false=true) by decide)] at H;exact H
     clear H
     have H:=H1
     clear H1
     have H':=am H
     clear H
     go_wp2_with (first|(go_at_call 84;(with_reducible refine(spec_GoodPlan.calls k _ _ l0 true _ ?side1 ?side2 A6.out).mono ?_);(case side1=>exact bC HR0.out);(case side2=>exact HC0.out);rintro e w14 ⟨rfl,hb⟩;have n0_:=am (below_step (bB) hb);clear HB;have HB:=n0_;clear n0_;(try clear hb);(try clear hb2);(try clear hk);(try clear hi))|(go_at_call 85;(with_reducible refine(spec_l6Node.calls a1 true _ A8.out).mono ?_);rintro e w' ⟨rfl,⟨nd,rfl⟩⟩;(try first|exact⟨rfl,_,World.drewN_drewN _ _ _⟩|exact⟨rfl,_,Eq.trans (World.drewN_drewN _ _ _) (congrArg (World.drewN _) (Nat.add_assoc _ _ _))⟩))|(go_at_call 86;(with_reducible refine(spec_l6When.calls a2 false _ A10.out).mono ?_);rintro e w' ⟨rfl,⟨nd,rfl⟩⟩;(try first|exact⟨rfl,_,World.drewN_drewN _ _ _⟩|exact⟨rfl,_,Eq.trans (World.drewN_drewN _ _ _) (congrArg (World.drewN _) (Nat.add_assoc _ _ _))⟩)))
     repeat (go_quiet (first|(go_at_call 84;(with_reducible refine(spec_GoodPlan.calls k _ _ l0 true _ ?side1 ?side2 A6.out).mono ?_);(case side1=>exact bC HR0.out);(case side2=>exact HC0.out);rintro e w14 ⟨rfl,hb⟩;have n0_:=am (below_step (bB) hb);clear HB;have HB:=n0_;clear n0_;(try clear hb);(try clear hb2);(try clear hk);(try clear hi))|(go_at_call 85;(with_reducible refine(spec_l6Node.calls a1 true _ A8.out).mono ?_);rintro e w' ⟨rfl,⟨nd,rfl⟩⟩;(try first|exact⟨rfl,_,World.drewN_drewN _ _ _⟩|exact⟨rfl,_,Eq.trans (World.drewN_drewN _ _ _) (congrArg (World.drewN _) (Nat.add_assoc _ _ _))⟩))|(go_at_call 86;(with_reducible refine(spec_l6When.calls a2 false _ A10.out).mono ?_);rintro e w' ⟨rfl,⟨nd,rfl⟩⟩;(try first|exact⟨rfl,_,World.drewN_drewN _ _ _⟩|exact⟨rfl,_,Eq.trans (World.drewN_drewN _ _ _) (congrArg (World.drewN _) (Nat.add_assoc _ _ _))⟩)));try go_wp2_with (first|(go_at_call 84;(with_reducible refine(spec_GoodPlan.calls k _ _ l0 true _ ?side1 ?side2 A6.out).mono ?_);(case side1=>exact bC HR0.out);(case side2=>exact HC0.out);rintro e w14 ⟨rfl,hb⟩;have n0_:=am (below_step (bB) hb);clear HB;have HB:=n0_;clear n0_;(try clear hb);(try clear hb2);(try clear hk);(try clear hi))|(go_at_call 85;(with_reducible refine(spec_l6Node.calls a1 true _ A8.out).mono ?_);rintro e w' ⟨rfl,⟨nd,rfl⟩⟩;(try first|exact⟨rfl,_,World.drewN_drewN _ _ _⟩|exact⟨rfl,_,Eq.trans (World.drewN_drewN _ _ _) (congrArg (World.drewN _) (Nat.add_assoc _ _ _))⟩))|(go_at_call 86;(with_reducible refine(spec_l6When.calls a2 false _ A10.out).mono ?_);rintro e w' ⟨rfl,⟨nd,rfl⟩⟩;(try first|exact⟨rfl,_,World.drewN_drewN _ _ _⟩|exact⟨rfl,_,Eq.trans (World.drewN_drewN _ _ _) (congrArg (World.drewN _) (Nat.add_assoc _ _ _))⟩))))
     go_meet
     case rel=>exact⟨_,(true),(bR),H',⟨by first|omega|exact Nat.le_refl _⟩,⟨by repeat (first|(with_reducible first|exact HB.out|apply below_alloc|apply pw_below_drewN|apply below_drew1)|exact HB.out)⟩⟩
   ·replace c9:=Bool.eq_false_iff.mpr c9
    subst c9
    have H1:(spec_RouteTo.j0 k l0 a1 a2 a3 true)=some (r1,r2,r3):=by rw[if_neg (show ¬ (false=true) by decide)] at H;exact H
    clear H
    have H:=H1
    clear H1
    have H':=am H
    clear H
    go_wp2_with (first|(go_at_call 84;(with_reducible refine(spec_GoodPlan.calls k _ _ l0 true _ ?side1 ?side2 A6.out).mono ?_);(case side1=>exact bC HR0.out);(case side2=>exact HC0.out);rintro e w15 ⟨rfl,hb⟩;have n0_:=am (below_step (bB) hb);clear HB;have HB:=n0_;clear n0_;(try clear hb);(try clear hb2);(try clear hk);(try clear hi))|(go_at_call 85;(with_reducible refine(spec_l6Node.calls a1 false _ A8.out).mono ?_);rintro e w' ⟨rfl,⟨nd,rfl⟩⟩;(try first|exact⟨rfl,_,World.drewN_drewN _ _ _⟩|exact⟨rfl,_,Eq.trans (World.drewN_drewN _ _ _) (congrArg (World.drewN _) (Nat.add_assoc _ _ _))⟩)))
    repeat (go_quiet (first|(go_at_call 84;(with_reducible refine(spec_GoodPlan.calls k _ _ l0 true _ ?side1 ?side2 A6.out).mono ?_);(case side1=>exact bC HR0.out);(case side2=>exact HC0.out);rintro e w15 ⟨rfl,hb⟩;have n0_:=am (below_step (bB) hb);clear HB;have HB:=n0_;clear n0_;(try clear hb);(try clear hb2);(try clear hk);(try clear hi))|(go_at_call 85;(with_reducible refine(spec_l6Node.calls a1 false _ A8.out).mono ?_);rintro e w' ⟨rfl,⟨nd,rfl⟩⟩;(try first|exact⟨rfl,_,World.drewN_drewN _ _ _⟩|exact⟨rfl,_,Eq.trans (World.drewN_drewN _ _ _) (congrArg (World.drewN _) (Nat.add_assoc _ _ _))⟩)));try go_wp2_with (first|(go_at_call 84;(with_reducible refine(spec_GoodPlan.calls k _ _ l0 true _ ?side1 ?side2 A6.out).mono ?_);(case side1=>exact bC HR0.out);(case side2=>exact HC0.out);rintro e w15 ⟨rfl,hb⟩;have n0_:=am (below_step (bB) hb);clear HB;have HB:=n0_;clear n0_;(try clear hb);(try clear hb2);(try clear hk);(try clear hi))|(go_at_call 85;(with_reducible refine(spec_l6Node.calls a1 false _ A8.out).mono ?_);rintro e w' ⟨rfl,⟨nd,rfl⟩⟩;(try first|exact⟨rfl,_,World.drewN_drewN _ _ _⟩|exact⟨rfl,_,Eq.trans (World.drewN_drewN _ _ _) (congrArg (World.drewN _) (Nat.add_assoc _ _ _))⟩))))
    go_meet
    case rel=>exact⟨_,(true),(bR),H',⟨by first|omega|exact Nat.le_refl _⟩,⟨by repeat (first|(with_reducible first|exact HB.out|apply below_alloc|apply pw_below_drewN|apply below_drew1)|exact HB.out)⟩⟩
  ·replace c7:=Bool.eq_false_iff.mpr c7
   subst c7
   have H1:(spec_RouteTo.j0 k l0 a1 a2 a3 true)=some (r1,r2,r3):=by rw[if_neg (show ¬ (false=true) by decide)] at H;exact H
   clear H
   have H:=H1
   clear H1
   have H':=am H
   clear H
   go_wp2_with (first|(go_at_call 84;(with_reducible refine(spec_GoodPlan.calls k _ _ l0 false _ ?side1 ?side2 A6.out).mono ?_);(case side1=>exact bC HR0.out);(case side2=>exact HC0.out);rintro e w16 ⟨rfl,hb⟩;have n0_:=am (below_step (bB) hb);clear HB;have HB:=n0_;clear n0_;(try clear hb);(try clear hb2);(try clear hk);(try clear hi)))
   repeat (go_quiet (first|(go_at_call 84;(with_reducible refine(spec_GoodPlan.calls k _ _ l0 false _ ?side1 ?side2 A6.out).mono ?_);(case side1=>exact bC HR0.out);(case side2=>exact HC0.out);rintro e w16 ⟨rfl,hb⟩;have n0_:=am (below_step (bB) hb);clear HB;have HB:=n0_;clear n0_;(try clear hb);(try clear hb2);(try clear hk);(try clear hi)));try go_wp2_with (first|(go_at_call 84;(with_reducible refine(spec_GoodPlan.calls k _ _ l0 false _ ?side1 ?side2 A6.out).mono ?_);(case side1=>exact bC HR0.out);(case side2=>exact HC0.out);rintro e w16 ⟨rfl,hb⟩;have n0_:=am (below_step (bB) hb);clear HB;have HB:=n0_;clear n0_;(try clear hb);(try clear hb2);(try clear hk);(try clear hi))))
   go_meet
   case rel=>exact⟨_,(true),(bR),H',⟨by first|omega|exact Nat.le_refl _⟩,⟨by repeat (first|(with_reducible first|exact HB.out|apply below_alloc|apply pw_below_drewN|apply below_drew1)|exact HB.out)⟩⟩
 case rest =>
  clear HC5
  try clear c1
  try clear p2
  try clear c7
  try clear c9
  try clear c11
  obtain⟨kq,x32_4,rfl,HA,HJ4,HB⟩:=hcut
  cases kq with
  | zero=>exact absurd HA.out (by simp[spec_RouteTo.j0])
  | succ kj4 =>
   have H:=HA.out
   clear HA
   simp only[spec_RouteTo.j0] at H
   by_cases c17:x32_4=true
   ·subst c17
    have H1:(some (([]:List Int),0,false))=some (r1,r2,r3):=by rw[if_pos rfl] at H;exact H
    clear H
    have H:=H1
    clear H1
    simp only[Option.some.injEq,Prod.mk.injEq] at H
    obtain⟨rfl,rfl,rfl⟩:=H
    go_wp2
    repeat (go_quiet (fail);try go_wp2)
    go_ret3
    exact⟨_,by first|rfl|(simp[errW_none,errW_some]<;>rfl)|(simp[*,errW_none,errW_some]<;>rfl),by first|exact Kd.R_nil _ _ _ _ _|exact Kd.N_nil _ _ _ _ _|exact Kd.V_nil _ _ _ _ _|exact Kd.Q_nil _ _ _ _ _|exact Kd.S_nil _ _ _ _ _,bB⟩
   ·replace c17:=Bool.eq_false_iff.mpr c17
    subst c17
    have H1:((spec_l6Search.f kj4 l0 a1 a2).bind fun bt145=>(if 0≤a3 then (if a3 < (bt145.1.length:Int) then (if (rd bt145.1 a3) < 0 then (some (([]:List Int),0,false)) else (spec_RouteTo.l0 kj4 l0 a1 a3 bt145.1 bt145.2 ([]:List Int) a3)) else (none)) else (none)))=some (r1,r2,r3):=by rw[if_neg (show ¬ (false=true) by decide)] at H;exact H
    clear H
    have H:=H1
    clear H1
    replace H:=bI_ H
    obtain⟨⟨t145,t146⟩,A180,H⟩:=H
    replace H:(if 0≤a3 then (if a3 < (t145.length:Int) then (if (rd t145 a3) < 0 then (some (([]:List Int),0,false)) else (spec_RouteTo.l0 kj4 l0 a1 a3 t145 t146 ([]:List Int) a3)) else (none)) else (none))=some (r1,r2,r3):=H
    have A18:=am A180
    clear A180
    by_cases c19:0≤a3
    ·rw[if_pos c19] at H
     have c19b0:decide (0≤a3)=true:=decide_eq_true c19
     clear c19
     by_cases c20:a3 < (t145.length:Int)
     ·rw[if_pos c20] at H
      have c20b0:decide (a3 < (t145.length:Int))=true:=decide_eq_true c20
      clear c20
      by_cases c21:(rd t145 a3) < 0
      ·rw[if_pos c21] at H
       have c21b0:decide ((rd t145 a3) < 0)=true:=decide_eq_true c21
       clear c21
       simp only[Option.some.injEq,Prod.mk.injEq] at H
       obtain⟨rfl,rfl,rfl⟩:=H
       go_wp2_with (first|(go_at_call 158;(with_reducible refine(spec_l6Search.calls kj4 _ _ l0 a1 a2 t145 t146 _ ?side1 ?side2 A18.out).mono ?_);(case side1=>exact bC HR0.out);(case side2=>exact HC0.out);rintro e w22 ⟨v147,v149,rfl,ho0,ho1,hb⟩;have n0_:=am (Kd.R_lower ho0 (below_size (bB)));have n1_:=am (Kd.R_lower ho1 (below_size (bB)));have n2_:=am (below_step (bB) hb);clear HB;have HO148:=n0_;have HO150:=n1_;have HB:=n2_;clear n0_ n1_ n2_;(try clear hb);(try clear hb2);(try clear hk);(try clear hi);(try clear ho0);(try clear ho1);obtain⟨Ao23,co23,eo23⟩:=Kd.R_slice HO148.out;subst eo23;have p151:0≤(a3:Int):=bD_;have q151:a3 < (t145.length:Int):=bD_;obtain⟨ad151,e151,hx151_0⟩:=Kd.at_int (Kd.R_reads' HO148.out).2.2 a3 p151 q151;cases e151;replace p151:=eq_true p151;replace q151:=eq_true q151))
       repeat (go_quiet (first|(go_at_call 158;(with_reducible refine(spec_l6Search.calls kj4 _ _ l0 a1 a2 t145 t146 _ ?side1 ?side2 A18.out).mono ?_);(case side1=>exact bC HR0.out);(case side2=>exact HC0.out);rintro e w22 ⟨v147,v149,rfl,ho0,ho1,hb⟩;have n0_:=am (Kd.R_lower ho0 (below_size (bB)));have n1_:=am (Kd.R_lower ho1 (below_size (bB)));have n2_:=am (below_step (bB) hb);clear HB;have HO148:=n0_;have HO150:=n1_;have HB:=n2_;clear n0_ n1_ n2_;(try clear hb);(try clear hb2);(try clear hk);(try clear hi);(try clear ho0);(try clear ho1);obtain⟨Ao23,co23,eo23⟩:=Kd.R_slice HO148.out;subst eo23;have p151:0≤(a3:Int):=bD_;have q151:a3 < (t145.length:Int):=bD_;obtain⟨ad151,e151,hx151_0⟩:=Kd.at_int (Kd.R_reads' HO148.out).2.2 a3 p151 q151;cases e151;replace p151:=eq_true p151;replace q151:=eq_true q151));try go_wp2_with (first|(go_at_call 158;(with_reducible refine(spec_l6Search.calls kj4 _ _ l0 a1 a2 t145 t146 _ ?side1 ?side2 A18.out).mono ?_);(case side1=>exact bC HR0.out);(case side2=>exact HC0.out);rintro e w22 ⟨v147,v149,rfl,ho0,ho1,hb⟩;have n0_:=am (Kd.R_lower ho0 (below_size (bB)));have n1_:=am (Kd.R_lower ho1 (below_size (bB)));have n2_:=am (below_step (bB) hb);clear HB;have HO148:=n0_;have HO150:=n1_;have HB:=n2_;clear n0_ n1_ n2_;(try clear hb);(try clear hb2);(try clear hk);(try clear hi);(try clear ho0);(try clear ho1);obtain⟨Ao23,co23,eo23⟩:=Kd.R_slice HO148.out;subst eo23;have p151:0≤(a3:Int):=bD_;have q151:a3 < (t145.length:Int):=bD_;obtain⟨ad151,e151,hx151_0⟩:=Kd.at_int (Kd.R_reads' HO148.out).2.2 a3 p151 q151;cases e151;replace p151:=eq_true p151;replace q151:=eq_true q151)))
       go_ret3
       exact⟨_,by first|rfl|(simp[errW_none,errW_some]<;>rfl)|(simp[*,errW_none,errW_some]<;>rfl),by first|exact Kd.R_nil _ _ _ _ _|exact Kd.N_nil _ _ _ _ _|exact Kd.V_nil _ _ _ _ _|exact Kd.Q_nil _ _ _ _ _|exact Kd.S_nil _ _ _ _ _,bB⟩
      ·rw[if_neg c21] at H
       have c21b0:decide ((rd t145 a3) < 0)=false:=decide_eq_false c21
       clear c21
       have H':=am H
       clear H
       go_wp2_with (first|(go_at_call 158;(with_reducible refine(spec_l6Search.calls kj4 _ _ l0 a1 a2 t145 t146 _ ?side1 ?side2 A18.out).mono ?_);(case side1=>exact bC HR0.out);(case side2=>exact HC0.out);rintro e w24 ⟨v147,v149,rfl,ho0,ho1,hb⟩;have n0_:=am (Kd.R_lower ho0 (below_size (bB)));have n1_:=am (Kd.R_lower ho1 (below_size (bB)));have n2_:=am (below_step (bB) hb);clear HB;have HO148:=n0_;have HO150:=n1_;have HB:=n2_;clear n0_ n1_ n2_;(try clear hb);(try clear hb2);(try clear hk);(try clear hi);(try clear ho0);(try clear ho1);obtain⟨Ao25,co25,eo25⟩:=Kd.R_slice HO148.out;subst eo25;have p151:0≤(a3:Int):=bD_;have q151:a3 < (t145.length:Int):=bD_;obtain⟨ad151,e151,hx151_0⟩:=Kd.at_int (Kd.R_reads' HO148.out).2.2 a3 p151 q151;cases e151;replace p151:=eq_true p151;replace q151:=eq_true q151))
       repeat (go_quiet (first|(go_at_call 158;(with_reducible refine(spec_l6Search.calls kj4 _ _ l0 a1 a2 t145 t146 _ ?side1 ?side2 A18.out).mono ?_);(case side1=>exact bC HR0.out);(case side2=>exact HC0.out);rintro e w24 ⟨v147,v149,rfl,ho0,ho1,hb⟩;have n0_:=am (Kd.R_lower ho0 (below_size (bB)));have n1_:=am (Kd.R_lower ho1 (below_size (bB)));have n2_:=am (below_step (bB) hb);clear HB;have HO148:=n0_;have HO150:=n1_;have HB:=n2_;clear n0_ n1_ n2_;(try clear hb);(try clear hb2);(try clear hk);(try clear hi);(try clear ho0);(try clear ho1);obtain⟨Ao25,co25,eo25⟩:=Kd.R_slice HO148.out;subst eo25;have p151:0≤(a3:Int):=bD_;have q151:a3 < (t145.length:Int):=bD_;obtain⟨ad151,e151,hx151_0⟩:=Kd.at_int (Kd.R_reads' HO148.out).2.2 a3 p151 q151;cases e151;replace p151:=eq_true p151;replace q151:=eq_true q151));try go_wp2_with (first|(go_at_call 158;(with_reducible refine(spec_l6Search.calls kj4 _ _ l0 a1 a2 t145 t146 _ ?side1 ?side2 A18.out).mono ?_);(case side1=>exact bC HR0.out);(case side2=>exact HC0.out);rintro e w24 ⟨v147,v149,rfl,ho0,ho1,hb⟩;have n0_:=am (Kd.R_lower ho0 (below_size (bB)));have n1_:=am (Kd.R_lower ho1 (below_size (bB)));have n2_:=am (below_step (bB) hb);clear HB;have HO148:=n0_;have HO150:=n1_;have HB:=n2_;clear n0_ n1_ n2_;(try clear hb);(try clear hb2);(try clear hk);(try clear hi);(try clear ho0);(try clear ho1);obtain⟨Ao25,co25,eo25⟩:=Kd.R_slice HO148.out;subst eo25;have p151:0≤(a3:Int):=bD_;have q151:a3 < (t145.length:Int):=bD_;obtain⟨ad151,e151,hx151_0⟩:=Kd.at_int (Kd.R_reads' HO148.out).2.2 a3 p151 q151;cases e151;replace p151:=eq_true p151;replace q151:=eq_true q151)))
       go_loopg [13,14] kj4 (fun kq v13 v14 w' => ∃ (x13_2:List Int) (x14_2:Int),v14=.int .i64 x14_2∧Aside0 (spec_RouteTo.l0 kq l0 a1 a3 t145 t146 x13_2 x14_2=some (r1,r2,r3))∧Aside0 (kq≤kj4)∧Aside0 (Kd.R (Kd.int .i64) 3 w' w.heap.size (fun k_=>some k_≠(v149:Value).ownBlock∧some k_≠(v13:Value).ownBlock) (.slice (some ad151) t145.length co25) t145)∧Aside0 (Kd.R (Kd.int .i64) 3 w' w.heap.size (fun k_=>some k_≠((.slice (some ad151) t145.length co25):Value).ownBlock∧some k_≠(v13:Value).ownBlock) v149 t146)∧Aside0 (Kd.R (Kd.int .i64) 3 w' w.heap.size (fun k_=>some k_≠((.slice (some ad151) t145.length co25):Value).ownBlock∧some k_≠(v149:Value).ownBlock) v13 x13_2)∧Aside0 (Below w.heap.size w w'))
       case atStart=>exact⟨(([]:List Int)),(a3),(bR),H',⟨Nat.le_refl _⟩,⟨by(with_reducible repeat (first|apply Kd.R_alloc|apply Kd.R_drewN|apply Kd.R_drew));exact Kd.R_mono HO148.out (fun _ hk=>⟨hk,(by simp[Value.ownBlock])⟩)⟩,⟨by(with_reducible repeat (first|apply Kd.R_alloc|apply Kd.R_drewN|apply Kd.R_drew));exact Kd.R_mono HO150.out (fun _ hk=>⟨hk,(by simp[Value.ownBlock])⟩)⟩,⟨by first|exact Kd.R_nil _ _ _ _ _|exact Kd.N_nil _ _ _ _ _|exact Kd.V_nil _ _ _ _ _|exact Kd.Q_nil _ _ _ _ _|exact Kd.S_nil _ _ _ _ _⟩,⟨by repeat (first|(with_reducible first|exact HB.out|apply below_alloc|apply pw_below_drewN|apply below_drew1)|exact HB.out)⟩⟩
       case round =>
        clear H'
        try clear c1
        try clear p1
        try clear q1
        try clear hx1
        try clear c2
        try clear p2
        try clear c7
        try clear c9
        try clear c11
        try clear p15
        try clear q15
        try clear hx15
        try clear c17
        try clear c19
        try clear c19b0
        try clear c20
        try clear c20b0
        try clear c21
        try clear c21b0
        try clear hx151_0
        try clear p151
        try clear p2
        try clear q151
        obtain⟨x13_2,x14_2,rfl,HA,HK2,HO_11,HO_12,HO_13,HB⟩:=hrel
        cases gk with
        | zero=>exact absurd HA.out (by simp[spec_RouteTo.l0])
        | succ k2 =>
         have H:=HA.out
         clear HA
         simp only[spec_RouteTo.l0] at H
         by_cases c26:x14_2=a1
         ·rw[if_pos c26] at H
          have c26b0:(x14_2 == a1)=true:=beq_iff_eq.mpr c26
          have c26b1:(x14_2 != a1)=false:=bne_eq_false_iff_eq.mpr c26
          clear c26
          by_cases c27:0≤a3
          ·rw[if_pos c27] at H
           have c27b0:decide (0≤a3)=true:=decide_eq_true c27
           clear c27
           by_cases c28:a3 < (t145.length:Int)
           ·rw[if_pos c28] at H
            have c28b0:decide (a3 < (t145.length:Int))=true:=decide_eq_true c28
            clear c28
            simp only[Option.some.injEq,Prod.mk.injEq] at H
            obtain⟨rfl,rfl,rfl⟩:=H
            have p152:0≤(a3:Int):=bD_
            have q152:a3 < (t145.length:Int):=bD_
            obtain⟨ad152,e152,hx152_0⟩:=Kd.at_int (Kd.R_reads' HO_11.out).2.2 a3 p152 q152
            obtain rfl:ad151=ad152:=(by injection e152)
            replace p152:=eq_true p152
            replace q152:=eq_true q152
            go_wp2
            repeat (go_quiet (fail);try go_wp2)
            go_ret3
            exact⟨_,by first|rfl|(simp[errW_none,errW_some]<;>rfl)|(simp[*,errW_none,errW_some]<;>rfl),by(with_reducible repeat (first|apply Kd.R_alloc|apply Kd.R_drewN|apply Kd.R_drew));exact Kd.R_mono HO_13.out (fun _ hk=>trivial),bB⟩
           ·rw[if_neg c28] at H
            exact absurd H (b27_)
          ·rw[if_neg c27] at H
           exact absurd H (b27_)
         ·rw[if_neg c26] at H
          have c26b0:(x14_2 == a1)=false:=beq_eq_false_iff_ne.mpr c26
          have c26b1:(x14_2 != a1)=true:=bne_iff_ne.mpr c26
          by_cases c29:0≤x14_2
          ·rw[if_pos c29] at H
           have c29b0:decide (0≤x14_2)=true:=decide_eq_true c29
           clear c29
           by_cases c30:x14_2 < (t146.length:Int)
           ·rw[if_pos c30] at H
            have c30b0:decide (x14_2 < (t146.length:Int))=true:=decide_eq_true c30
            clear c30
            obtain⟨y154,hy154⟩ : ∃ y_:List Int,y_=(([rd t146 x14_2]:List Int)):=⟨_,rfl⟩
            replace H:(if y154.length+x13_2.length < 17592186044416 then (if 0≤(rd t146 x14_2) then (if (rd t146 x14_2) < (l0.length:Int) then (spec_RouteTo.l0 k2 l0 a1 a3 t145 t146 (y154++x13_2) ((rd_T104 l0 (rd t146 x14_2)).f0)) else (none)) else (none)) else (none))=some (r1,r2,r3):=by first|(rw[hy154];with_reducible exact H)|(have H2_:=(Option.bind_some _ _).symm.trans H;rw[hy154];with_reducible exact H2_)|(have H2_:=(Option.bind_some _ _).symm.trans H;with_reducible exact H2_)|with_reducible exact H|(rw[hy154];exact H)|exact H
            have Ny154:=am hy154
            clear hy154
            by_cases c31:y154.length+x13_2.length < 17592186044416
            ·rw[if_pos c31] at H
             have LMc31:=am c31
             clear c31
             obtain⟨y157,hy157⟩ : ∃ y_:List Int,y_=(y154++x13_2):=⟨_,rfl⟩
             replace H:(if 0≤(rd t146 x14_2) then (if (rd t146 x14_2) < (l0.length:Int) then (spec_RouteTo.l0 k2 l0 a1 a3 t145 t146 y157 ((rd_T104 l0 (rd t146 x14_2)).f0)) else (none)) else (none))=some (r1,r2,r3):=by first|(rw[hy157];with_reducible exact H)|(have H2_:=(Option.bind_some _ _).symm.trans H;rw[hy157];with_reducible exact H2_)|(have H2_:=(Option.bind_some _ _).symm.trans H;with_reducible exact H2_)|with_reducible exact H|(rw[hy157];exact H)|exact H
             have Ny157:=am hy157
             clear hy157
             by_cases c32:0≤(rd t146 x14_2)
             ·rw[if_pos c32] at H
              have c32b0:decide (0≤(rd t146 x14_2))=true:=decide_eq_true c32
              clear c32
              by_cases c33:(rd t146 x14_2) < (l0.length:Int)
              ·rw[if_pos c33] at H
               have c33b0:decide ((rd t146 x14_2) < (l0.length:Int))=true:=decide_eq_true c33
               clear c33
               have H':=am H
               clear H
               obtain⟨Ao34,co34,eo34⟩:=Kd.R_slice HO_12.out
               subst eo34
               have p153:0≤(x14_2:Int):=bD_
               have q153:x14_2 < (t146.length:Int):=bD_
               obtain⟨ad153,e153,hx153_0⟩:=Kd.at_int (Kd.R_reads' HO_12.out).2.2 x14_2 p153 q153
               cases e153
               replace p153:=eq_true p153
               replace q153:=eq_true q153
               go_wp2_with (first|((with_reducible refine gate_dst (N:=61) rfl ?_);refine Kd.R_lit (Kd.int .i64) _ 3 ?hg (N:=61) ?hd (xs:=([rd t146 x14_2]:List Int)) (inner:=[.int .i64 (rd t146 x14_2)]) (ok:=fun _=>True) (okp:=fun _=>True) ?hr ?hp (fun _ hk=>hk) trivial (Below.refl _ _) (Nat.le_refl _) (b27_) ?_;(case hd=>rfl);(case hg=>rfl);(case hr=>first|(go_simp;done)|(go_simp;rfl));(case hp=>exact(Reps.one (show Kd.M (Kd.int .i64) _ _ _ (rd t146 x14_2) [.int .i64 (rd t146 x14_2)] from rfl) (Reps.none _ _)));intro v155 w35 ho36 hb hg_ hnew_;clear hg_ hnew_;(first|rw[← Ny154.out] at ho36|(simp only[Int.reduceToNat] at ho36;rw[← Ny154.out] at ho36));have n0_:=am (Kd.R_elder' (bK HO_11.out) (Kd.R_base ho36) hb);have n1_:=am (Kd.R_elder' (bK HO_12.out) (Kd.R_base ho36) hb);have n2_:=am (Kd.R_elder' (bK HO_13.out) (Kd.R_base ho36) hb);have n3_:=am (Kd.R_lower (Kd.R_new' (Kd.R_new' (Kd.R_new' ho36 (Kd.R_lt (bK HO_11.out))) (Kd.R_lt (bK HO_12.out))) (Kd.R_lt (bK HO_13.out))) (below_size (bB)));have n4_:=am (below_step (bB) hb);clear HO_11 HO_12 HO_13 HB;have HO_11:=n0_;have HO_12:=n1_;have HO_13:=n2_;have HO156:=n3_;have HB:=n4_;clear n0_ n1_ n2_ n3_ n4_;clear hb ho36;obtain⟨Ao38,co38,eo38⟩:=Kd.R_slice HO_13.out;subst eo38)|((with_reducible refine gate_builtin (b:=.append) (xs:=#[.tmp 61,.tmp 62]) rfl ?_);at_builtin;refine Kd.R_append_rows (Kd.int .i64) (w0:=w) w.heap.size rfl (.tmp 61) (.tmp 62) 37 3 (.int .i64 0) 8 rfl Try.underlying37 info3 rfl (b20_) (b28_) v155 y154 x13_2 _ _ _ (fun k_=>some k_≠(.slice (some ad151) t145.length co25:Value).ownBlock∧some k_≠(.slice (some ad153) t146.length co34:Value).ownBlock∧some k_≠(.slice Ao38 x13_2.length co38:Value).ownBlock) (fun _=>False) rfl rfl ?aO ?aR (fun _ _ h=>h) (fun _ h=>h.elim) ?aF ?aB ?aS ?aL ?_;(case aR=>exact bT HO_13.out);(case aB=>exact(bB));(case aF=>exact(fun k_ hk=>⟨Kd.fresh' (Kd.R_lt (bK HO_11.out)) k_ hk,Kd.fresh' (Kd.R_lt (bK HO_12.out)) k_ hk,Kd.fresh' (Kd.R_lt (bK HO_13.out)) k_ hk⟩));(case aO=>exact(by(with_reducible repeat (first|apply Kd.R_alloc|apply Kd.R_drewN|apply Kd.R_drew));exact Kd.R_mono HO156.out (fun _ hk=>⟨hk.1.1.2,⟨hk.1.2,hk.2⟩⟩)));(case aS=>exact(below_size (bB)));(case aL=>have:=LMc31.out;omega);intro v158 w37 ho hb hg hat;rw[← Ny157.out] at ho;have n0_:=am (Kd.R_after (ok:=(fun k_=>some k_≠(.slice (some ad153) t146.length co34:Value).ownBlock∧some k_≠(.slice Ao38 x13_2.length co38:Value).ownBlock)) (bK HO_11.out) hg hat);have n1_:=am (Kd.R_after (ok:=(fun k_=>some k_≠(.slice (some ad151) t145.length co25:Value).ownBlock∧some k_≠(.slice Ao38 x13_2.length co38:Value).ownBlock)) (bK HO_12.out) hg hat);have n2_:=am (Kd.R_after (ok:=(fun k_=>some k_≠(.slice (some ad151) t145.length co25:Value).ownBlock∧some k_≠(.slice (some ad153) t146.length co34:Value).ownBlock)) (bK HO_13.out) hg hat);have n3_:=am (hb);have n4_:=am (ho);clear HO_11 HO_12 HO_13 HB HO156;have HO_11:=n0_;have HO_12:=n1_;have HO_13:=n2_;have HB:=n3_;have HO159:=n4_;clear n0_ n1_ n2_ n3_ n4_;clear ho hb hg hat;have p160:0≤(x14_2:Int):=bD_;have q160:x14_2 < (t146.length:Int):=bD_;obtain⟨ad160,e160,hx160_0⟩:=Kd.at_int (Kd.R_reads' HO_12.out).2.2 x14_2 p160 q160;obtain rfl:ad153=ad160:=(by injection e160);replace p160:=eq_true p160;replace q160:=eq_true q160;have p161:0≤((rd t146 x14_2):Int):=bD_;have q161:(rd t146 x14_2) < (l0.length:Int):=bD_;obtain⟨ad161,e161,hx161_0,hx161_1,hx161_2,hx161_3,hx161_4⟩:=at_T104 HR0.out (rd t146 x14_2) p161 q161;cases e161;replace hx161_0:=bQ_ HB.out hx161_0;replace hx161_1:=bQ_ HB.out hx161_1;replace hx161_2:=bQ_ HB.out hx161_2;replace hx161_3:=bQ_ HB.out hx161_3;replace hx161_4:=bQ_ HB.out hx161_4;replace p161:=eq_true p161;replace q161:=eq_true q161))
               repeat (go_quiet (first|((with_reducible refine gate_dst (N:=61) rfl ?_);refine Kd.R_lit (Kd.int .i64) _ 3 ?hg (N:=61) ?hd (xs:=([rd t146 x14_2]:List Int)) (inner:=[.int .i64 (rd t146 x14_2)]) (ok:=fun _=>True) (okp:=fun _=>True) ?hr ?hp (fun _ hk=>hk) trivial (Below.refl _ _) (Nat.le_refl _) (b27_) ?_;(case hd=>rfl);(case hg=>rfl);(case hr=>first|(go_simp;done)|(go_simp;rfl));(case hp=>exact(Reps.one (show Kd.M (Kd.int .i64) _ _ _ (rd t146 x14_2) [.int .i64 (rd t146 x14_2)] from rfl) (Reps.none _ _)));intro v155 w35 ho36 hb hg_ hnew_;clear hg_ hnew_;(first|rw[← Ny154.out] at ho36|(simp only[Int.reduceToNat] at ho36;rw[← Ny154.out] at ho36));have n0_:=am (Kd.R_elder' (bK HO_11.out) (Kd.R_base ho36) hb);have n1_:=am (Kd.R_elder' (bK HO_12.out) (Kd.R_base ho36) hb);have n2_:=am (Kd.R_elder' (bK HO_13.out) (Kd.R_base ho36) hb);have n3_:=am (Kd.R_lower (Kd.R_new' (Kd.R_new' (Kd.R_new' ho36 (Kd.R_lt (bK HO_11.out))) (Kd.R_lt (bK HO_12.out))) (Kd.R_lt (bK HO_13.out))) (below_size (bB)));have n4_:=am (below_step (bB) hb);clear HO_11 HO_12 HO_13 HB;have HO_11:=n0_;have HO_12:=n1_;have HO_13:=n2_;have HO156:=n3_;have HB:=n4_;clear n0_ n1_ n2_ n3_ n4_;clear hb ho36;obtain⟨Ao38,co38,eo38⟩:=Kd.R_slice HO_13.out;subst eo38)|((with_reducible refine gate_builtin (b:=.append) (xs:=#[.tmp 61,.tmp 62]) rfl ?_);at_builtin;refine Kd.R_append_rows (Kd.int .i64) (w0:=w) w.heap.size rfl (.tmp 61) (.tmp 62) 37 3 (.int .i64 0) 8 rfl Try.underlying37 info3 rfl (b20_) (b28_) v155 y154 x13_2 _ _ _ (fun k_=>some k_≠(.slice (some ad151) t145.length co25:Value).ownBlock∧some k_≠(.slice (some ad153) t146.length co34:Value).ownBlock∧some k_≠(.slice Ao38 x13_2.length co38:Value).ownBlock) (fun _=>False) rfl rfl ?aO ?aR (fun _ _ h=>h) (fun _ h=>h.elim) ?aF ?aB ?aS ?aL ?_;(case aR=>exact bT HO_13.out);(case aB=>exact(bB));(case aF=>exact(fun k_ hk=>⟨Kd.fresh' (Kd.R_lt (bK HO_11.out)) k_ hk,Kd.fresh' (Kd.R_lt (bK HO_12.out)) k_ hk,Kd.fresh' (Kd.R_lt (bK HO_13.out)) k_ hk⟩));(case aO=>exact(by(with_reducible repeat (first|apply Kd.R_alloc|apply Kd.R_drewN|apply Kd.R_drew));exact Kd.R_mono HO156.out (fun _ hk=>⟨hk.1.1.2,⟨hk.1.2,hk.2⟩⟩)));(case aS=>exact(below_size (bB)));(case aL=>have:=LMc31.out;omega);intro v158 w37 ho hb hg hat;rw[← Ny157.out] at ho;have n0_:=am (Kd.R_after (ok:=(fun k_=>some k_≠(.slice (some ad153) t146.length co34:Value).ownBlock∧some k_≠(.slice Ao38 x13_2.length co38:Value).ownBlock)) (bK HO_11.out) hg hat);have n1_:=am (Kd.R_after (ok:=(fun k_=>some k_≠(.slice (some ad151) t145.length co25:Value).ownBlock∧some k_≠(.slice Ao38 x13_2.length co38:Value).ownBlock)) (bK HO_12.out) hg hat);have n2_:=am (Kd.R_after (ok:=(fun k_=>some k_≠(.slice (some ad151) t145.length co25:Value).ownBlock∧some k_≠(.slice (some ad153) t146.length co34:Value).ownBlock)) (bK HO_13.out) hg hat);have n3_:=am (hb);have n4_:=am (ho);clear HO_11 HO_12 HO_13 HB HO156;have HO_11:=n0_;have HO_12:=n1_;have HO_13:=n2_;have HB:=n3_;have HO159:=n4_;clear n0_ n1_ n2_ n3_ n4_;clear ho hb hg hat;have p160:0≤(x14_2:Int):=bD_;have q160:x14_2 < (t146.length:Int):=bD_;obtain⟨ad160,e160,hx160_0⟩:=Kd.at_int (Kd.R_reads' HO_12.out).2.2 x14_2 p160 q160;obtain rfl:ad153=ad160:=(by injection e160);replace p160:=eq_true p160;replace q160:=eq_true q160;have p161:0≤((rd t146 x14_2):Int):=bD_;have q161:(rd t146 x14_2) < (l0.length:Int):=bD_;obtain⟨ad161,e161,hx161_0,hx161_1,hx161_2,hx161_3,hx161_4⟩:=at_T104 HR0.out (rd t146 x14_2) p161 q161;cases e161;replace hx161_0:=bQ_ HB.out hx161_0;replace hx161_1:=bQ_ HB.out hx161_1;replace hx161_2:=bQ_ HB.out hx161_2;replace hx161_3:=bQ_ HB.out hx161_3;replace hx161_4:=bQ_ HB.out hx161_4;replace p161:=eq_true p161;replace q161:=eq_true q161));try go_wp2_with (first|((with_reducible refine gate_dst (N:=61) rfl ?_);refine Kd.R_lit (Kd.int .i64) _ 3 ?hg (N:=61) ?hd (xs:=([rd t146 x14_2]:List Int)) (inner:=[.int .i64 (rd t146 x14_2)]) (ok:=fun _=>True) (okp:=fun _=>True) ?hr ?hp (fun _ hk=>hk) trivial (Below.refl _ _) (Nat.le_refl _) (b27_) ?_;(case hd=>rfl);(case hg=>rfl);(case hr=>first|(go_simp;done)|(go_simp;rfl));(case hp=>exact(Reps.one (show Kd.M (Kd.int .i64) _ _ _ (rd t146 x14_2) [.int .i64 (rd t146 x14_2)] from rfl) (Reps.none _ _)));intro v155 w35 ho36 hb hg_ hnew_;clear hg_ hnew_;(first|rw[← Ny154.out] at ho36|(simp only[Int.reduceToNat] at ho36;rw[← Ny154.out] at ho36));have n0_:=am (Kd.R_elder' (bK HO_11.out) (Kd.R_base ho36) hb);have n1_:=am (Kd.R_elder' (bK HO_12.out) (Kd.R_base ho36) hb);have n2_:=am (Kd.R_elder' (bK HO_13.out) (Kd.R_base ho36) hb);have n3_:=am (Kd.R_lower (Kd.R_new' (Kd.R_new' (Kd.R_new' ho36 (Kd.R_lt (bK HO_11.out))) (Kd.R_lt (bK HO_12.out))) (Kd.R_lt (bK HO_13.out))) (below_size (bB)));have n4_:=am (below_step (bB) hb);clear HO_11 HO_12 HO_13 HB;have HO_11:=n0_;have HO_12:=n1_;have HO_13:=n2_;have HO156:=n3_;have HB:=n4_;clear n0_ n1_ n2_ n3_ n4_;clear hb ho36;obtain⟨Ao38,co38,eo38⟩:=Kd.R_slice HO_13.out;subst eo38)|((with_reducible refine gate_builtin (b:=.append) (xs:=#[.tmp 61,.tmp 62]) rfl ?_);at_builtin;refine Kd.R_append_rows (Kd.int .i64) (w0:=w) w.heap.size rfl (.tmp 61) (.tmp 62) 37 3 (.int .i64 0) 8 rfl Try.underlying37 info3 rfl (b20_) (b28_) v155 y154 x13_2 _ _ _ (fun k_=>some k_≠(.slice (some ad151) t145.length co25:Value).ownBlock∧some k_≠(.slice (some ad153) t146.length co34:Value).ownBlock∧some k_≠(.slice Ao38 x13_2.length co38:Value).ownBlock) (fun _=>False) rfl rfl ?aO ?aR (fun _ _ h=>h) (fun _ h=>h.elim) ?aF ?aB ?aS ?aL ?_;(case aR=>exact bT HO_13.out);(case aB=>exact(bB));(case aF=>exact(fun k_ hk=>⟨Kd.fresh' (Kd.R_lt (bK HO_11.out)) k_ hk,Kd.fresh' (Kd.R_lt (bK HO_12.out)) k_ hk,Kd.fresh' (Kd.R_lt (bK HO_13.out)) k_ hk⟩));(case aO=>exact(by(with_reducible repeat (first|apply Kd.R_alloc|apply Kd.R_drewN|apply Kd.R_drew));exact Kd.R_mono HO156.out (fun _ hk=>⟨hk.1.1.2,⟨hk.1.2,hk.2⟩⟩)));(case aS=>exact(below_size (bB)));(case aL=>have:=LMc31.out;omega);intro v158 w37 ho hb hg hat;rw[← Ny157.out] at ho;have n0_:=am (Kd.R_after (ok:=(fun k_=>some k_≠(.slice (some ad153) t146.length co34:Value).ownBlock∧some k_≠(.slice Ao38 x13_2.length co38:Value).ownBlock)) (bK HO_11.out) hg hat);have n1_:=am (Kd.R_after (ok:=(fun k_=>some k_≠(.slice (some ad151) t145.length co25:Value).ownBlock∧some k_≠(.slice Ao38 x13_2.length co38:Value).ownBlock)) (bK HO_12.out) hg hat);have n2_:=am (Kd.R_after (ok:=(fun k_=>some k_≠(.slice (some ad151) t145.length co25:Value).ownBlock∧some k_≠(.slice (some ad153) t146.length co34:Value).ownBlock)) (bK HO_13.out) hg hat);have n3_:=am (hb);have n4_:=am (ho);clear HO_11 HO_12 HO_13 HB HO156;have HO_11:=n0_;have HO_12:=n1_;have HO_13:=n2_;have HB:=n3_;have HO159:=n4_;clear n0_ n1_ n2_ n3_ n4_;clear ho hb hg hat;have p160:0≤(x14_2:Int):=bD_;have q160:x14_2 < (t146.length:Int):=bD_;obtain⟨ad160,e160,hx160_0⟩:=Kd.at_int (Kd.R_reads' HO_12.out).2.2 x14_2 p160 q160;obtain rfl:ad153=ad160:=(by injection e160);replace p160:=eq_true p160;replace q160:=eq_true q160;have p161:0≤((rd t146 x14_2):Int):=bD_;have q161:(rd t146 x14_2) < (l0.length:Int):=bD_;obtain⟨ad161,e161,hx161_0,hx161_1,hx161_2,hx161_3,hx161_4⟩:=at_T104 HR0.out (rd t146 x14_2) p161 q161;cases e161;replace hx161_0:=bQ_ HB.out hx161_0;replace hx161_1:=bQ_ HB.out hx161_1;replace hx161_2:=bQ_ HB.out hx161_2;replace hx161_3:=bQ_ HB.out hx161_3;replace hx161_4:=bQ_ HB.out hx161_4;replace p161:=eq_true p161;replace q161:=eq_true q161)))
               go_roundg k2
               case measure=>have:=HJ4.out;have:=HK2.out;omega
               case rel=>exact⟨(y157),((rd_T104 l0 (rd t146 x14_2)).f0),(bR),H',⟨by have:=HJ4.out;have:=HK2.out;omega⟩,⟨by(with_reducible repeat (first|apply Kd.R_alloc|apply Kd.R_drewN|apply Kd.R_drew));exact Kd.R_mono HO_11.out (fun _ hk=>⟨hk.1.1,hk.2⟩)⟩,⟨by(with_reducible repeat (first|apply Kd.R_alloc|apply Kd.R_drewN|apply Kd.R_drew));exact Kd.R_mono HO_12.out (fun _ hk=>⟨hk.1.1,hk.2⟩)⟩,⟨by(with_reducible repeat (first|apply Kd.R_alloc|apply Kd.R_drewN|apply Kd.R_drew));exact Kd.R_mono HO159.out (fun _ hk=>⟨hk.1,hk.2.1⟩)⟩,⟨by repeat (first|(with_reducible first|exact HB.out|apply below_alloc|apply pw_below_drewN|apply below_drew1)|exact HB.out)⟩⟩
              ·rw[if_neg c33] at H
               exact absurd H (b27_)
             ·rw[if_neg c32] at H
              exact absurd H (b27_)
            ·rw[if_neg c31] at H
             exact absurd H (b27_)
           ·rw[if_neg c30] at H
            exact absurd H (b27_)
          ·rw[if_neg c29] at H
           exact absurd H (b27_)
     ·rw[if_neg c20] at H
      exact absurd H (b27_)
    ·rw[if_neg c19] at H
     exact absurd H (b27_)

/-! ### spec_ForwardStep: function 52 -/
def spec_ForwardStep.j0:Nat→List (S104)→Int→List Int→Bool→Int→Int→Bool→Int→Int→Int→Int→Int→Int→ByteArray→Option (Int × Int × Bool)
 | 0,_,_,_,_,_,_,_,_,_,_,_,_,_,_=>none
 | k+1,x0,x3,x13,x36,x163000,x163001,x163002,x163003,x163004,x163005,x163006,x163007,x163008,x163009=>if x36=true then (some (0,0,false)) else (if 0 < (x13.length:Int) then (if 0≤(rd x13 0) then (if (rd x13 0) < (x0.length:Int) then ((spec_l6Over.f ((rd_T104 x0 (rd x13 0)).f0) ((rd_T104 x0 (rd x13 0)).f1) ((rd_T104 x0 (rd x13 0)).f2) ((rd_T104 x0 (rd x13 0)).f3) ((rd_T104 x0 (rd x13 0)).f4) x3).bind fun t171=>(if t171 > (wrap64 (x163003+x163005)) then (some (0,0,false)) else (some (rd x13 0,t171,true)))) else (none)) else (none)) else (none))
def spec_ForwardStep.f (k:Nat) (l0:List (S104)) (a1_0:Int) (a1_1:Int) (a1_2:Bool) (a1_3:Int) (a1_4:Int) (a1_5:Int) (a1_6:Int) (a1_7:Int) (a1_8:Int) (a1_9:ByteArray) (a2:Int) (a3:Int) (a4:Int):Option (Int × Int × Bool):=(spec_l17Fits.f k l0 a1_0 a1_1 a1_2 a1_3 a1_4 a1_5 a1_6 a1_7 a1_8 a1_9).bind fun t163=>(if t163=true then ((spec_RouteTo.f k l0 a2 a3 a4).bind fun bt164=>(if bt164.2.2=true then (spec_ForwardStep.j0 k l0 a3 bt164.1 ((bt164.1.length:Int) == 0) a1_0 a1_1 a1_2 a1_3 a1_4 a1_5 a1_6 a1_7 a1_8 a1_9) else (spec_ForwardStep.j0 k l0 a3 bt164.1 true a1_0 a1_1 a1_2 a1_3 a1_4 a1_5 a1_6 a1_7 a1_8 a1_9))) else (some (0,0,false)))
theorem spec_ForwardStep.mono_l : ∀ k,(∀ y0 y1 y2 y3 y4 y5 y6 y7 y8 y9 y10 y11 y12 y13,LeO (spec_ForwardStep.j0 k y0 y1 y2 y3 y4 y5 y6 y7 y8 y9 y10 y11 y12 y13) (spec_ForwardStep.j0 (k+1) y0 y1 y2 y3 y4 y5 y6 y7 y8 y9 y10 y11 y12 y13))
 | 0=>fun _ _ _ _ _ _ _ _ _ _ _ _ _ _ r h=>by simp[spec_ForwardStep.j0] at h
 | k+1=>by
  have ih0:=spec_ForwardStep.mono_l k
  ·intro y0 y1 y2 y3 y4 y5 y6 y7 y8 y9 y10 y11 y12 y13
   unfold spec_ForwardStep.j0
   repeat' first
   | (with_reducible exact ih0 _ _ _ _ _ _ _ _ _ _ _ _ _ _)
   | (with_reducible exact spec_RouteTo.mono _ _ _ _ _)
   | (with_reducible exact spec_l17Fits.mono _ _ _ _ _ _ _ _ _ _ _ _)
   | (with_reducible exact LeO.refl _)
   | (with_reducible exact LeO.none _)
   | (with_reducible refine LeO.ite ?_ ?_)
   | (with_reducible refine LeO.bind ?_ (fun _ => ?_))
theorem spec_ForwardStep.mono : ∀ a0 a1 a2 a3 a4 a5 a6 a7 a8 a9 a10 a11 a12 a13 k,LeO (spec_ForwardStep.f k a0 a1 a2 a3 a4 a5 a6 a7 a8 a9 a10 a11 a12 a13) (spec_ForwardStep.f (k+1) a0 a1 a2 a3 a4 a5 a6 a7 a8 a9 a10 a11 a12 a13):=by
 intro a0 a1 a2 a3 a4 a5 a6 a7 a8 a9 a10 a11 a12 a13 k
 have ih0:=spec_ForwardStep.mono_l k
 unfold spec_ForwardStep.f
 repeat' first
  | (with_reducible exact ih0 _ _ _ _ _ _ _ _ _ _ _ _ _ _)
  | (with_reducible exact spec_RouteTo.mono _ _ _ _ _)
  | (with_reducible exact spec_l17Fits.mono _ _ _ _ _ _ _ _ _ _ _ _)
  | (with_reducible exact LeO.refl _)
  | (with_reducible exact LeO.none _)
  | (with_reducible refine LeO.ite ?_ ?_)
  | (with_reducible refine LeO.bind ?_ (fun _ => ?_))
set_option maxHeartbeats 8000000 in
set_option maxRecDepth 100000 in
theorem spec_ForwardStep.calls (k:Nat) (A0:Option Addr) (c0:Nat) (l0:List (S104)) (a1_0:Int) (a1_1:Int) (a1_2:Bool) (a1_3:Int) (a1_4:Int) (a1_5:Int) (a1_6:Int) (a1_7:Int) (a1_8:Int) (a1_9:ByteArray) (a2:Int) (a3:Int) (a4:Int) (r1:Int) (r2:Int) (r3:Bool) (w:World) (hr0:Kd.C k104 w A0 l0.length l0) (hc0:l0.length≤c0) (h:spec_ForwardStep.f k l0 a1_0 a1_1 a1_2 a1_3 a1_4 a1_5 a1_6 a1_7 a1_8 a1_9 a2 a3 a4=some (r1,r2,r3)) :
  Calls Try.prog 52 #[.slice A0 l0.length c0,.agg #[.int .i64 a1_0,.int .i64 a1_1,.bool a1_2,.int .i64 a1_3,.int .i64 a1_4,.int .i64 a1_5,.int .i64 a1_6,.int .i64 a1_7,.int .i64 a1_8,.string a1_9],.int .i64 a2,.int .i64 a3,.int .i64 a4] w fun e w'=>e=.returned (.tuple #[.int .i64 r1,.int .i64 r2,.bool r3])∧Below w.heap.size w w':=by
 have hu86:=Try.underlying86
 have hu104:=Try.underlying104
 have HR0:=am hr0
 have HC0:=am hc0
 clear hr0 hc0
 have HB:=am (Below.refl w.heap.size w)
 have H:((spec_l17Fits.f k l0 a1_0 a1_1 a1_2 a1_3 a1_4 a1_5 a1_6 a1_7 a1_8 a1_9).bind fun t163=>(if t163=true then ((spec_RouteTo.f k l0 a2 a3 a4).bind fun bt164=>(if bt164.2.2=true then (spec_ForwardStep.j0 k l0 a3 bt164.1 ((bt164.1.length:Int) == 0) a1_0 a1_1 a1_2 a1_3 a1_4 a1_5 a1_6 a1_7 a1_8 a1_9) else (spec_ForwardStep.j0 k l0 a3 bt164.1 true a1_0 a1_1 a1_2 a1_3 a1_4 a1_5 a1_6 a1_7 a1_8 a1_9))) else (some (0,0,false))))=some (r1,r2,r3):=h
 clear h
 replace H:=bI_ H
 obtain⟨t163,A60,H⟩:=H
 replace H:(if t163=true then ((spec_RouteTo.f k l0 a2 a3 a4).bind fun bt164=>(if bt164.2.2=true then (spec_ForwardStep.j0 k l0 a3 bt164.1 ((bt164.1.length:Int) == 0) a1_0 a1_1 a1_2 a1_3 a1_4 a1_5 a1_6 a1_7 a1_8 a1_9) else (spec_ForwardStep.j0 k l0 a3 bt164.1 true a1_0 a1_1 a1_2 a1_3 a1_4 a1_5 a1_6 a1_7 a1_8 a1_9))) else (some (0,0,false)))=some (r1,r2,r3):=H
 have A6:=am A60
 clear A60
 by_cases c7:t163=true
 ·subst c7
  have H1:((spec_RouteTo.f k l0 a2 a3 a4).bind fun bt164=>(if bt164.2.2=true then (spec_ForwardStep.j0 k l0 a3 bt164.1 ((bt164.1.length:Int) == 0) a1_0 a1_1 a1_2 a1_3 a1_4 a1_5 a1_6 a1_7 a1_8 a1_9) else (spec_ForwardStep.j0 k l0 a3 bt164.1 true a1_0 a1_1 a1_2 a1_3 a1_4 a1_5 a1_6 a1_7 a1_8 a1_9)))=some (r1,r2,r3):=by rw[if_pos rfl] at H;exact H
  clear H
  have H:=H1
  clear H1
  replace H:=bI_ H
  obtain⟨⟨t164,t165,t166⟩,A80,H⟩:=H
  replace H:(if t166=true then (spec_ForwardStep.j0 k l0 a3 t164 ((t164.length:Int) == 0) a1_0 a1_1 a1_2 a1_3 a1_4 a1_5 a1_6 a1_7 a1_8 a1_9) else (spec_ForwardStep.j0 k l0 a3 t164 true a1_0 a1_1 a1_2 a1_3 a1_4 a1_5 a1_6 a1_7 a1_8 a1_9))=some (r1,r2,r3):=H
  have A8:=am A80
  clear A80
  have HC9:=am H
  clear H
  go_enter Try.func52,Try.ntmps52
  go_upto_region 4 with (first|((with_reducible refine gate_dst (N:=6) rfl ?_);(try (refine gate_guard (by rfl) ?_;dsimp only));refine box_event ?hg (N:=6) ?hd (cs:=#[.int .i64 a1_0,.int .i64 a1_1,.bool a1_2,.int .i64 a1_3,.int .i64 a1_4,.int .i64 a1_5,.int .i64 a1_6,.int .i64 a1_7,.int .i64 a1_8,.string a1_9]) (t:=86) ?hr ?_;(case hd=>rfl);(case hg=>rfl);(case hr=>first|(go_simp;done)|(go_simp;rfl));intro gb162 hg w10 hbox hb;have n0_:=am (below_step (bB) hb);have n1_:=am (hbox);have n2_:=am ((bG:w.heap.size≤gb162));have n3_:=am ((bG:w.heap.size≤gb162));clear HB;have HB:=n0_;have BK162:=n1_;have GW162:=n2_;have GE162:=n3_;clear n0_ n1_ n2_ n3_;clear hb hbox hg;obtain⟨hcz11_0,hcz11_1,hcz11_2,hcz11_3,hcz11_4,hcz11_5,hcz11_6,hcz11_7,hcz11_8,hcz11_9⟩:=cC10 BK162.out;obtain⟨hfz11_0,hfz11_1,hfz11_2,hfz11_3,hfz11_4,hfz11_5,hfz11_6,hfz11_7,hfz11_8,hfz11_9⟩:=cF10 BK162.out)|((with_reducible refine gate_callee (f:=118) rfl ?_);refine goesA (some 19) rfl rfl Try.func118 #[.slice A0 l0.length c0,.agg #[.int .i64 a1_0,.int .i64 a1_1,.bool a1_2,.int .i64 a1_3,.int .i64 a1_4,.int .i64 a1_5,.int .i64 a1_6,.int .i64 a1_7,.int .i64 a1_8,.string a1_9]] rfl ?_;(with_reducible refine(spec_l17Fits.calls k _ _ l0 a1_0 a1_1 a1_2 a1_3 a1_4 a1_5 a1_6 a1_7 a1_8 a1_9 true _ ?side1 ?side2 A6.out).mono ?_);(case side1=>exact bC HR0.out);(case side2=>exact HC0.out);rintro e w12 ⟨rfl,hb⟩;refine⟨_,rfl,?_⟩;have n0_:=am (bM BK162.out hb);have n1_:=am (below_step (bS GE162.out) hb);clear BK162 HB;have BK162:=n0_;have HB:=n1_;clear n0_ n1_;(try clear hb);(try clear hb2);(try clear hk);(try clear hi))|((with_reducible refine gate_callee (f:=119) rfl ?_);refine goesA (some 26) rfl rfl Try.func119 #[.slice A0 l0.length c0,.int .i64 a2,.int .i64 a3,.int .i64 a4] rfl ?_;(with_reducible refine(spec_RouteTo.calls k _ _ l0 a2 a3 a4 t164 t165 t166 _ ?side1 ?side2 A8.out).mono ?_);(case side1=>exact bC HR0.out);(case side2=>exact HC0.out);rintro e w13 ⟨v167,rfl,ho0,hb⟩;refine⟨_,rfl,?_⟩;have n0_:=am (Kd.R_lower ho0 (below_size (bS GE162.out)));have n1_:=am (bM BK162.out hb);have n2_:=am (below_step (bS GE162.out) hb);clear BK162 HB;have HO168:=n0_;have BK162:=n1_;have HB:=n2_;clear n0_ n1_ n2_;(try clear hb);(try clear hb2);(try clear hk);(try clear hi);(try clear ho0)))
  (try simp only[Act.put,zA,zB,zC])
  go_cut [36] (fun v36 wc => ∃ (kq:Nat) (x36_8:Bool),v36=.bool x36_8∧Aside0 (spec_ForwardStep.j0 kq l0 a3 t164 x36_8 a1_0 a1_1 a1_2 a1_3 a1_4 a1_5 a1_6 a1_7 a1_8 a1_9=some (r1,r2,r3))∧Aside0 (kq≤k)∧Aside0 (Kd.R (Kd.int .i64) 3 wc w.heap.size (fun _=>True) v167 t164)∧Aside0 (wc.heap[gb162]?=some (.cells #[.int .i64 a1_0,.int .i64 a1_1,.bool a1_2,.int .i64 a1_3,.int .i64 a1_4,.int .i64 a1_5,.int .i64 a1_6,.int .i64 a1_7,.int .i64 a1_8,.string a1_9] 86 (0,0)))∧Aside0 (Below w.heap.size w wc))
  case first =>
   have H:=HC9.out
   clear HC9
   by_cases c14:t166=true
   ·subst c14
    have H1:(spec_ForwardStep.j0 k l0 a3 t164 ((t164.length:Int) == 0) a1_0 a1_1 a1_2 a1_3 a1_4 a1_5 a1_6 a1_7 a1_8 a1_9)=some (r1,r2,r3):=by rw[if_pos rfl] at H;exact H
    clear H
    have H:=H1
    clear H1
    have H':=am H
    clear H
    obtain⟨Ao15,co15,eo15⟩:=Kd.R_slice HO168.out
    subst eo15
    go_wp2
    go_meet
    case rel=>exact⟨_,(((t164.length:Int) == 0)),(bR),H',⟨by first|omega|exact Nat.le_refl _⟩,⟨by(with_reducible repeat (first|apply Kd.R_alloc|apply Kd.R_drewN|apply Kd.R_drew));exact HO168.out⟩,⟨by(with_reducible repeat (first|refine blk_drewN ?_ _|refine blk_drew ?_|refine blk_alloc ?_ _));exact BK162.out⟩,⟨bS GE162.out⟩⟩
   ·replace c14:=Bool.eq_false_iff.mpr c14
    subst c14
    have H1:(spec_ForwardStep.j0 k l0 a3 t164 true a1_0 a1_1 a1_2 a1_3 a1_4 a1_5 a1_6 a1_7 a1_8 a1_9)=some (r1,r2,r3):=by rw[if_neg (show ¬ (false=true) by decide)] at H;exact H
    clear H
    have H:=H1
    clear H1
    have H':=am H
    clear H
    go_wp2
    go_meet
    case rel=>exact⟨_,(true),(bR),H',⟨by first|omega|exact Nat.le_refl _⟩,⟨by(with_reducible repeat (first|apply Kd.R_alloc|apply Kd.R_drewN|apply Kd.R_drew));exact HO168.out⟩,⟨by(with_reducible repeat (first|refine blk_drewN ?_ _|refine blk_drew ?_|refine blk_alloc ?_ _));exact BK162.out⟩,⟨bS GE162.out⟩⟩
  case rest =>
   clear HC9
   try clear c1
   try clear p2
   try clear c5
   try clear c7
   try clear c11
   try clear c14
   try clear hcz11_0 hcz11_1 hcz11_2 hcz11_3 hcz11_4 hcz11_5 hcz11_6 hcz11_7 hcz11_8 hcz11_9
   try clear hfz11_0 hfz11_1 hfz11_2 hfz11_3 hfz11_4 hfz11_5 hfz11_6 hfz11_7 hfz11_8 hfz11_9
   obtain⟨kq,x36_8,rfl,HA,HJ8,HO_13,BK162,HB⟩:=hcut
   cases kq with
   | zero=>exact absurd HA.out (by simp[spec_ForwardStep.j0])
   | succ kj8 =>
    have H:=HA.out
    clear HA
    simp only[spec_ForwardStep.j0] at H
    by_cases c16:x36_8=true
    ·subst c16
     have H1:(some (0,0,false))=some (r1,r2,r3):=by rw[if_pos rfl] at H;exact H
     clear H
     have H:=H1
     clear H1
     simp only[Option.some.injEq,Prod.mk.injEq] at H
     obtain⟨rfl,rfl,rfl⟩:=H
     go_wp2
     go_ret3
     exact⟨bE,bS GE162.out⟩
    ·replace c16:=Bool.eq_false_iff.mpr c16
     subst c16
     have H1:(if 0 < (t164.length:Int) then (if 0≤(rd t164 0) then (if (rd t164 0) < (l0.length:Int) then ((spec_l6Over.f ((rd_T104 l0 (rd t164 0)).f0) ((rd_T104 l0 (rd t164 0)).f1) ((rd_T104 l0 (rd t164 0)).f2) ((rd_T104 l0 (rd t164 0)).f3) ((rd_T104 l0 (rd t164 0)).f4) a3).bind fun t171=>(if t171 > (wrap64 (a1_3+a1_5)) then (some (0,0,false)) else (some (rd t164 0,t171,true)))) else (none)) else (none)) else (none))=some (r1,r2,r3):=by rw[if_neg (show ¬ (false=true) by decide)] at H;exact H
     clear H
     have H:=H1
     clear H1
     by_cases c17:0 < (t164.length:Int)
     ·rw[if_pos c17] at H
      have c17b0:decide (0 < (t164.length:Int))=true:=decide_eq_true c17
      have c17b1:decide (0 < t164.length)=true:=decide_eq_true (b28_)
      clear c17
      by_cases c18:0≤(rd t164 0)
      ·rw[if_pos c18] at H
       have c18b0:decide (0≤(rd t164 0))=true:=decide_eq_true c18
       clear c18
       by_cases c19:(rd t164 0) < (l0.length:Int)
       ·rw[if_pos c19] at H
        have c19b0:decide ((rd t164 0) < (l0.length:Int))=true:=decide_eq_true c19
        clear c19
        replace H:=bI_ H
        obtain⟨t171,A200,H⟩:=H
        replace H:(if t171 > (wrap64 (a1_3+a1_5)) then (some (0,0,false)) else (some (rd t164 0,t171,true)))=some (r1,r2,r3):=H
        have A20:=am A200
        clear A200
        by_cases c21:t171 > (wrap64 (a1_3+a1_5))
        ·rw[if_pos c21] at H
         have c21b0:decide ((wrap64 (a1_3+a1_5)) < t171)=true:=decide_eq_true c21
         clear c21
         simp only[Option.some.injEq,Prod.mk.injEq] at H
         obtain⟨rfl,rfl,rfl⟩:=H
         obtain⟨Ao22,co22,eo22⟩:=Kd.R_slice HO_13.out
         subst eo22
         have p169:0≤(0:Int):=(b28_)
         have q169:0 < (t164.length:Int):=bD_
         obtain⟨ad169,e169,hx169_0⟩:=Kd.at_int (Kd.R_reads' HO_13.out).2.2 0 p169 q169
         cases e169
         have qi169:(0 < t164.length)=True:=eq_true (b28_)
         (try rw[show((0:Int)).toNat=0 from rfl] at hx169_0)
         (try rw[Addr.add_zero'] at hx169_0)
         replace p169:=eq_true p169
         replace q169:=eq_true q169
         have p170:0≤((rd t164 0):Int):=bD_
         have q170:(rd t164 0) < (l0.length:Int):=bD_
         obtain⟨ad170,e170,hx170_0,hx170_1,hx170_2,hx170_3,hx170_4⟩:=at_T104 HR0.out (rd t164 0) p170 q170
         cases e170
         replace hx170_0:=bQ_ HB.out hx170_0
         replace hx170_1:=bQ_ HB.out hx170_1
         replace hx170_2:=bQ_ HB.out hx170_2
         replace hx170_3:=bQ_ HB.out hx170_3
         replace hx170_4:=bQ_ HB.out hx170_4
         replace p170:=eq_true p170
         replace q170:=eq_true q170
         go_wp2_with (first|((with_reducible refine gate_callee (f:=120) rfl ?_);refine goesA (some 44) rfl rfl Try.func120 #[.agg #[.int .i64 ((rd_T104 l0 (rd t164 0)).f0),.int .i64 ((rd_T104 l0 (rd t164 0)).f1),.int .i64 ((rd_T104 l0 (rd t164 0)).f2),.int .i64 ((rd_T104 l0 (rd t164 0)).f3),.int .i64 ((rd_T104 l0 (rd t164 0)).f4)],.int .i64 a3] rfl ?_;(with_reducible refine(spec_l6Over.calls ((rd_T104 l0 (rd t164 0)).f0) ((rd_T104 l0 (rd t164 0)).f1) ((rd_T104 l0 (rd t164 0)).f2) ((rd_T104 l0 (rd t164 0)).f3) ((rd_T104 l0 (rd t164 0)).f4) a3 t171 _ A20.out).mono ?_);rintro e w23 ⟨rfl,hb⟩;refine⟨_,rfl,?_⟩;have n0_:=am (Kd.R_below (bK HO_13.out) hb);have n1_:=am (bM BK162.out hb);have n2_:=am (below_step (bS GE162.out) hb);clear HO_13 BK162 HB;have HO_13:=n0_;have BK162:=n1_;have HB:=n2_;clear n0_ n1_ n2_;(try clear hb);(try clear hb2);(try clear hk);(try clear hi);obtain⟨hcz24_0,hcz24_1,hcz24_2,hcz24_3,hcz24_4,hcz24_5,hcz24_6,hcz24_7,hcz24_8,hcz24_9⟩:=cC10 BK162.out;obtain⟨hfz24_0,hfz24_1,hfz24_2,hfz24_3,hfz24_4,hfz24_5,hfz24_6,hfz24_7,hfz24_8,hfz24_9⟩:=cF10 BK162.out))
         go_ret3
         exact⟨bE,bS GE162.out⟩
        ·rw[if_neg c21] at H
         have c21b0:decide ((wrap64 (a1_3+a1_5)) < t171)=false:=decide_eq_false c21
         clear c21
         simp only[Option.some.injEq,Prod.mk.injEq] at H
         obtain⟨rfl,rfl,rfl⟩:=H
         obtain⟨Ao25,co25,eo25⟩:=Kd.R_slice HO_13.out
         subst eo25
         have p169:0≤(0:Int):=(b28_)
         have q169:0 < (t164.length:Int):=bD_
         obtain⟨ad169,e169,hx169_0⟩:=Kd.at_int (Kd.R_reads' HO_13.out).2.2 0 p169 q169
         cases e169
         have qi169:(0 < t164.length)=True:=eq_true (b28_)
         (try rw[show((0:Int)).toNat=0 from rfl] at hx169_0)
         (try rw[Addr.add_zero'] at hx169_0)
         replace p169:=eq_true p169
         replace q169:=eq_true q169
         have p170:0≤((rd t164 0):Int):=bD_
         have q170:(rd t164 0) < (l0.length:Int):=bD_
         obtain⟨ad170,e170,hx170_0,hx170_1,hx170_2,hx170_3,hx170_4⟩:=at_T104 HR0.out (rd t164 0) p170 q170
         cases e170
         replace hx170_0:=bQ_ HB.out hx170_0
         replace hx170_1:=bQ_ HB.out hx170_1
         replace hx170_2:=bQ_ HB.out hx170_2
         replace hx170_3:=bQ_ HB.out hx170_3
         replace hx170_4:=bQ_ HB.out hx170_4
         replace p170:=eq_true p170
         replace q170:=eq_true q170
         go_wp2_with (first|((with_reducible refine gate_callee (f:=120) rfl ?_);refine goesA (some 44) rfl rfl Try.func120 #[.agg #[.int .i64 ((rd_T104 l0 (rd t164 0)).f0),.int .i64 ((rd_T104 l0 (rd t164 0)).f1),.int .i64 ((rd_T104 l0 (rd t164 0)).f2),.int .i64 ((rd_T104 l0 (rd t164 0)).f3),.int .i64 ((rd_T104 l0 (rd t164 0)).f4)],.int .i64 a3] rfl ?_;(with_reducible refine(spec_l6Over.calls ((rd_T104 l0 (rd t164 0)).f0) ((rd_T104 l0 (rd t164 0)).f1) ((rd_T104 l0 (rd t164 0)).f2) ((rd_T104 l0 (rd t164 0)).f3) ((rd_T104 l0 (rd t164 0)).f4) a3 t171 _ A20.out).mono ?_);rintro e w26 ⟨rfl,hb⟩;refine⟨_,rfl,?_⟩;have n0_:=am (Kd.R_below (bK HO_13.out) hb);have n1_:=am (bM BK162.out hb);have n2_:=am (below_step (bS GE162.out) hb);clear HO_13 BK162 HB;have HO_13:=n0_;have BK162:=n1_;have HB:=n2_;clear n0_ n1_ n2_;(try clear hb);(try clear hb2);(try clear hk);(try clear hi);obtain⟨hcz27_0,hcz27_1,hcz27_2,hcz27_3,hcz27_4,hcz27_5,hcz27_6,hcz27_7,hcz27_8,hcz27_9⟩:=cC10 BK162.out;obtain⟨hfz27_0,hfz27_1,hfz27_2,hfz27_3,hfz27_4,hfz27_5,hfz27_6,hfz27_7,hfz27_8,hfz27_9⟩:=cF10 BK162.out;have p172:0≤(0:Int):=(b28_);have q172:0 < (t164.length:Int):=bD_;obtain⟨ad172,e172,hx172_0⟩:=Kd.at_int (Kd.R_reads' HO_13.out).2.2 0 p172 q172;obtain rfl:ad169=ad172:=(by injection e172);have qi172:(0 < t164.length)=True:=eq_true (b28_);(try rw[show((0:Int)).toNat=0 from rfl] at hx172_0);(try rw[Addr.add_zero'] at hx172_0);replace p172:=eq_true p172;replace q172:=eq_true q172))
         go_ret3
         exact⟨bE,bS GE162.out⟩
       ·rw[if_neg c19] at H
        exact absurd H (b27_)
      ·rw[if_neg c18] at H
       exact absurd H (b27_)
     ·rw[if_neg c17] at H
      exact absurd H (b27_)
 ·replace c7:=Bool.eq_false_iff.mpr c7
  subst c7
  have H1:(some (0,0,false))=some (r1,r2,r3):=by rw[if_neg (show ¬ (false=true) by decide)] at H;exact H
  clear H
  have H:=H1
  clear H1
  simp only[Option.some.injEq,Prod.mk.injEq] at H
  obtain⟨rfl,rfl,rfl⟩:=H
  go_enter Try.func52,Try.ntmps52
  go_wp2_with (first|((with_reducible refine gate_dst (N:=6) rfl ?_);(try (refine gate_guard (by rfl) ?_;dsimp only));refine box_event ?hg (N:=6) ?hd (cs:=#[.int .i64 a1_0,.int .i64 a1_1,.bool a1_2,.int .i64 a1_3,.int .i64 a1_4,.int .i64 a1_5,.int .i64 a1_6,.int .i64 a1_7,.int .i64 a1_8,.string a1_9]) (t:=86) ?hr ?_;(case hd=>rfl);(case hg=>rfl);(case hr=>first|(go_simp;done)|(go_simp;rfl));intro gb162 hg w28 hbox hb;have n0_:=am (below_step (bB) hb);have n1_:=am (hbox);have n2_:=am ((bG:w.heap.size≤gb162));have n3_:=am ((bG:w.heap.size≤gb162));clear HB;have HB:=n0_;have BK162:=n1_;have GW162:=n2_;have GE162:=n3_;clear n0_ n1_ n2_ n3_;clear hb hbox hg;obtain⟨hcz29_0,hcz29_1,hcz29_2,hcz29_3,hcz29_4,hcz29_5,hcz29_6,hcz29_7,hcz29_8,hcz29_9⟩:=cC10 BK162.out;obtain⟨hfz29_0,hfz29_1,hfz29_2,hfz29_3,hfz29_4,hfz29_5,hfz29_6,hfz29_7,hfz29_8,hfz29_9⟩:=cF10 BK162.out)|((with_reducible refine gate_callee (f:=118) rfl ?_);refine goesA (some 19) rfl rfl Try.func118 #[.slice A0 l0.length c0,.agg #[.int .i64 a1_0,.int .i64 a1_1,.bool a1_2,.int .i64 a1_3,.int .i64 a1_4,.int .i64 a1_5,.int .i64 a1_6,.int .i64 a1_7,.int .i64 a1_8,.string a1_9]] rfl ?_;(with_reducible refine(spec_l17Fits.calls k _ _ l0 a1_0 a1_1 a1_2 a1_3 a1_4 a1_5 a1_6 a1_7 a1_8 a1_9 false _ ?side1 ?side2 A6.out).mono ?_);(case side1=>exact bC HR0.out);(case side2=>exact HC0.out);rintro e w30 ⟨rfl,hb⟩;refine⟨_,rfl,?_⟩;have n0_:=am (bM BK162.out hb);have n1_:=am (below_step (bS GE162.out) hb);clear BK162 HB;have BK162:=n0_;have HB:=n1_;clear n0_ n1_;(try clear hb);(try clear hb2);(try clear hk);(try clear hi)))
  go_ret3
  exact⟨bE,bS GE162.out⟩

-- NOT PRINTED: function 169 (impl_Contact_169)

-- NOT PRINTED: function 144 (impl_Contact_144)

/-! ### impl_within: function 79 -/
def impl_within.f (a0:Int) (a1:Int) (a2:Int):Option (Bool):=if a1≤a0 then (some (decide (a0≤a2))) else (some false)
set_option maxHeartbeats 8000000 in
set_option maxRecDepth 100000 in
theorem impl_within.calls (a0:Int) (a1:Int) (a2:Int) (r:Bool) (w:World) (h:impl_within.f a0 a1 a2=some r) :
  Calls Try.prog 79 #[.int .i64 a0,.int .i64 a1,.int .i64 a2] w fun e w'=>e=.returned (.bool r)∧Drawn0 w w':=by
 have H:(if a1≤a0 then (some (decide (a0≤a2))) else (some false))=some r:=h
 clear h
 by_cases c4:a1≤a0
 ·rw[if_pos c4] at H
  have c4b0:decide (a1≤a0)=true:=decide_eq_true c4
  clear c4
  obtain rfl:=Option.some.inj H
  go_enter Try.func79,Try.ntmps79
  go_wp2
  go_ret
  exact⟨bR,bW⟩
 ·rw[if_neg c4] at H
  have c4b0:decide (a1≤a0)=false:=decide_eq_false c4
  clear c4
  obtain rfl:=Option.some.inj H
  go_enter Try.func79,Try.ntmps79
  go_wp2
  go_ret
  exact⟨bR,bW⟩

/-! ### impl_isNode: function 89 -/
def impl_isNode.f (a0:Int):Option (Bool):=(impl_within.f a0 0 7).bind fun t175=>(some t175)
set_option maxHeartbeats 8000000 in
set_option maxRecDepth 100000 in
theorem impl_isNode.calls (a0:Int) (r:Bool) (w:World) (h:impl_isNode.f a0=some r) :
  Calls Try.prog 89 #[.int .i64 a0] w fun e w'=>e=.returned (.bool r)∧Drawn0 w w':=by
 have H:((impl_within.f a0 0 7).bind fun t175=>(some t175))=some r:=h
 clear h
 replace H:=bI_ H
 obtain⟨t175,A20,H⟩:=H
 have A2:=am A20
 clear A20
 obtain rfl:=Option.some.inj H
 go_enter Try.func89,Try.ntmps89
 go_wp2_with (first|((with_reducible refine gate_callee (f:=79) rfl ?_);refine goesA (some 4) rfl rfl Try.func79 #[.int .i64 a0,.int .i64 0,.int .i64 7] rfl ?_;(with_reducible refine(impl_within.calls a0 0 7 t175 _ A2.out).mono ?_);rintro e w' ⟨rfl,⟨nd,rfl⟩⟩;refine⟨_,rfl,?_⟩))
 go_ret
 exact⟨bR,bW⟩

/-! ### impl_areUnlike: function 146 -/
def impl_areUnlike.f (a0:Int) (a1:Int):Option (Bool):=(impl_isNode.f a0).bind fun t176=>(if t176=true then ((impl_isNode.f a1).bind fun t177=>(if t177=true then (some (a0 != a1)) else (some false))) else (some false))
set_option maxHeartbeats 8000000 in
set_option maxRecDepth 100000 in
theorem impl_areUnlike.calls (a0:Int) (a1:Int) (r:Bool) (w:World) (h:impl_areUnlike.f a0 a1=some r) :
  Calls Try.prog 146 #[.int .i64 a0,.int .i64 a1] w fun e w'=>e=.returned (.bool r)∧Drawn0 w w':=by
 have H:((impl_isNode.f a0).bind fun t176=>(if t176=true then ((impl_isNode.f a1).bind fun t177=>(if t177=true then (some (a0 != a1)) else (some false))) else (some false)))=some r:=h
 clear h
 replace H:=bI_ H
 obtain⟨t176,A30,H⟩:=H
 have A3:=am A30
 clear A30
 by_cases c4:t176=true
 ·subst c4
  have H1:((impl_isNode.f a1).bind fun t177=>(if t177=true then (some (a0 != a1)) else (some false)))=some r:=by rw[if_pos rfl] at H;exact H
  clear H
  have H:=H1
  clear H1
  replace H:=bI_ H
  obtain⟨t177,A50,H⟩:=H
  have A5:=am A50
  clear A50
  by_cases c6:t177=true
  ·subst c6
   have H1:(some (a0 != a1))=some r:=by rw[if_pos rfl] at H;exact H
   clear H
   have H:=H1
   clear H1
   obtain rfl:=Option.some.inj H
   go_enter Try.func146,Try.ntmps146
   go_wp2_with (first|((with_reducible refine gate_callee (f:=89) rfl ?_);refine goesA (some 6) rfl rfl Try.func89 #[.int .i64 a0] rfl ?_;(with_reducible refine(impl_isNode.calls a0 true _ A3.out).mono ?_);rintro e w' ⟨rfl,⟨nd,rfl⟩⟩;refine⟨_,rfl,?_⟩)|(go_at_call 89;(with_reducible refine(impl_isNode.calls a1 true _ A5.out).mono ?_);rintro e w' ⟨rfl,⟨nd,rfl⟩⟩))
   go_ret
   exact⟨bR,bW⟩
  ·replace c6:=Bool.eq_false_iff.mpr c6
   subst c6
   have H1:(some false)=some r:=by rw[if_neg (show ¬ (false=true) by decide)] at H;exact H
   clear H
   have H:=H1
   clear H1
   obtain rfl:=Option.some.inj H
   go_enter Try.func146,Try.ntmps146
   go_wp2_with (first|((with_reducible refine gate_callee (f:=89) rfl ?_);refine goesA (some 6) rfl rfl Try.func89 #[.int .i64 a0] rfl ?_;(with_reducible refine(impl_isNode.calls a0 true _ A3.out).mono ?_);rintro e w' ⟨rfl,⟨nd,rfl⟩⟩;refine⟨_,rfl,?_⟩)|(go_at_call 89;(with_reducible refine(impl_isNode.calls a1 false _ A5.out).mono ?_);rintro e w' ⟨rfl,⟨nd,rfl⟩⟩))
   go_ret
   exact⟨bR,bW⟩
 ·replace c4:=Bool.eq_false_iff.mpr c4
  subst c4
  have H1:(some false)=some r:=by rw[if_neg (show ¬ (false=true) by decide)] at H;exact H
  clear H
  have H:=H1
  clear H1
  obtain rfl:=Option.some.inj H
  go_enter Try.func146,Try.ntmps146
  go_wp2_with (first|((with_reducible refine gate_callee (f:=89) rfl ?_);refine goesA (some 6) rfl rfl Try.func89 #[.int .i64 a0] rfl ?_;(with_reducible refine(impl_isNode.calls a0 false _ A3.out).mono ?_);rintro e w' ⟨rfl,⟨nd,rfl⟩⟩;refine⟨_,rfl,?_⟩))
  go_ret
  exact⟨bR,bW⟩

/-! ### impl_GoodPlan_lit1: function 145 -/
def impl_GoodPlan_lit1.f (a0_0:Int) (a0_1:Int) (a0_2:Int) (a0_3:Int) (a0_4:Int):Option (Bool):=(impl_areUnlike.f a0_0 a0_1).bind fun t179=>(if t179=true then (if a0_2 < 0 then (some true) else (if a0_2 ≥ a0_3 then (some true) else (if a0_3 > 1000 then (some true) else ((impl_within.f a0_4 0 100).bind fun t180=>(some (!t180)))))) else (some true))
set_option maxHeartbeats 8000000 in
set_option maxRecDepth 100000 in
theorem impl_GoodPlan_lit1.calls (a0_0:Int) (a0_1:Int) (a0_2:Int) (a0_3:Int) (a0_4:Int) (r:Bool) (w:World) (h:impl_GoodPlan_lit1.f a0_0 a0_1 a0_2 a0_3 a0_4=some r) :
  Calls Try.prog 145 #[.agg #[.int .i64 a0_0,.int .i64 a0_1,.int .i64 a0_2,.int .i64 a0_3,.int .i64 a0_4]] w fun e w'=>e=.returned (.bool r)∧Below w.heap.size w w':=by
 have hu104:=Try.underlying104
 have HB:=am (Below.refl w.heap.size w)
 have H:((impl_areUnlike.f a0_0 a0_1).bind fun t179=>(if t179=true then (if a0_2 < 0 then (some true) else (if a0_2 ≥ a0_3 then (some true) else (if a0_3 > 1000 then (some true) else ((impl_within.f a0_4 0 100).bind fun t180=>(some (!t180)))))) else (some true)))=some r:=h
 clear h
 replace H:=bI_ H
 obtain⟨t179,A20,H⟩:=H
 have A2:=am A20
 clear A20
 by_cases c3:t179=true
 ·subst c3
  have H1:(if a0_2 < 0 then (some true) else (if a0_2 ≥ a0_3 then (some true) else (if a0_3 > 1000 then (some true) else ((impl_within.f a0_4 0 100).bind fun t180=>(some (!t180))))))=some r:=by rw[if_pos rfl] at H;exact H
  clear H
  have H:=H1
  clear H1
  by_cases c4:a0_2 < 0
  ·rw[if_pos c4] at H
   have c4b0:decide (a0_2 < 0)=true:=decide_eq_true c4
   clear c4
   obtain rfl:=Option.some.inj H
   go_enter Try.func145,Try.ntmps145
   go_wp2_with (first|((with_reducible refine gate_dst (N:=1) rfl ?_);refine box_event ?hg (N:=1) ?hd (cs:=#[.int .i64 a0_0,.int .i64 a0_1,.int .i64 a0_2,.int .i64 a0_3,.int .i64 a0_4]) (t:=104) ?hr ?_;(case hd=>rfl);(case hg=>rfl);(case hr=>first|(go_simp;done)|(go_simp;rfl));intro gb178 hg w5 hbox hb;have n0_:=am (below_step (bB) hb);have n1_:=am (hbox);have n2_:=am ((bG:w.heap.size≤gb178));have n3_:=am ((bG:w.heap.size≤gb178));clear HB;have HB:=n0_;have BK178:=n1_;have GW178:=n2_;have GE178:=n3_;clear n0_ n1_ n2_ n3_;clear hb hbox hg;obtain⟨hcz6_0,hcz6_1,hcz6_2,hcz6_3,hcz6_4⟩:=cC5 BK178.out;obtain⟨hfz6_0,hfz6_1,hfz6_2,hfz6_3,hfz6_4⟩:=cF5 BK178.out)|((with_reducible refine gate_callee (f:=146) rfl ?_);refine goesA (some 7) rfl rfl Try.func146 #[.int .i64 a0_0,.int .i64 a0_1] rfl ?_;(with_reducible refine(impl_areUnlike.calls a0_0 a0_1 true _ A2.out).mono ?_);rintro e w' ⟨rfl,⟨nd,rfl⟩⟩;refine⟨_,rfl,?_⟩))
   go_ret
   exact⟨bE,bS GE178.out⟩
  ·rw[if_neg c4] at H
   have c4b0:decide (a0_2 < 0)=false:=decide_eq_false c4
   clear c4
   by_cases c7:a0_2 ≥ a0_3
   ·rw[if_pos c7] at H
    have c7b0:decide (a0_3≤a0_2)=true:=decide_eq_true c7
    clear c7
    obtain rfl:=Option.some.inj H
    go_enter Try.func145,Try.ntmps145
    go_wp2_with (first|((with_reducible refine gate_dst (N:=1) rfl ?_);refine box_event ?hg (N:=1) ?hd (cs:=#[.int .i64 a0_0,.int .i64 a0_1,.int .i64 a0_2,.int .i64 a0_3,.int .i64 a0_4]) (t:=104) ?hr ?_;(case hd=>rfl);(case hg=>rfl);(case hr=>first|(go_simp;done)|(go_simp;rfl));intro gb178 hg w8 hbox hb;have n0_:=am (below_step (bB) hb);have n1_:=am (hbox);have n2_:=am ((bG:w.heap.size≤gb178));have n3_:=am ((bG:w.heap.size≤gb178));clear HB;have HB:=n0_;have BK178:=n1_;have GW178:=n2_;have GE178:=n3_;clear n0_ n1_ n2_ n3_;clear hb hbox hg;obtain⟨hcz9_0,hcz9_1,hcz9_2,hcz9_3,hcz9_4⟩:=cC5 BK178.out;obtain⟨hfz9_0,hfz9_1,hfz9_2,hfz9_3,hfz9_4⟩:=cF5 BK178.out)|((with_reducible refine gate_callee (f:=146) rfl ?_);refine goesA (some 7) rfl rfl Try.func146 #[.int .i64 a0_0,.int .i64 a0_1] rfl ?_;(with_reducible refine(impl_areUnlike.calls a0_0 a0_1 true _ A2.out).mono ?_);rintro e w' ⟨rfl,⟨nd,rfl⟩⟩;refine⟨_,rfl,?_⟩))
    go_ret
    exact⟨bE,bS GE178.out⟩
   ·rw[if_neg c7] at H
    have c7b0:decide (a0_3≤a0_2)=false:=decide_eq_false c7
    clear c7
    by_cases c10:a0_3 > 1000
    ·rw[if_pos c10] at H
     have c10b0:decide (1000 < a0_3)=true:=decide_eq_true c10
     clear c10
     obtain rfl:=Option.some.inj H
     go_enter Try.func145,Try.ntmps145
     go_wp2_with (first|((with_reducible refine gate_dst (N:=1) rfl ?_);refine box_event ?hg (N:=1) ?hd (cs:=#[.int .i64 a0_0,.int .i64 a0_1,.int .i64 a0_2,.int .i64 a0_3,.int .i64 a0_4]) (t:=104) ?hr ?_;(case hd=>rfl);(case hg=>rfl);(case hr=>first|(go_simp;done)|(go_simp;rfl));intro gb178 hg w11 hbox hb;have n0_:=am (below_step (bB) hb);have n1_:=am (hbox);have n2_:=am ((bG:w.heap.size≤gb178));have n3_:=am ((bG:w.heap.size≤gb178));clear HB;have HB:=n0_;have BK178:=n1_;have GW178:=n2_;have GE178:=n3_;clear n0_ n1_ n2_ n3_;clear hb hbox hg;obtain⟨hcz12_0,hcz12_1,hcz12_2,hcz12_3,hcz12_4⟩:=cC5 BK178.out;obtain⟨hfz12_0,hfz12_1,hfz12_2,hfz12_3,hfz12_4⟩:=cF5 BK178.out)|((with_reducible refine gate_callee (f:=146) rfl ?_);refine goesA (some 7) rfl rfl Try.func146 #[.int .i64 a0_0,.int .i64 a0_1] rfl ?_;(with_reducible refine(impl_areUnlike.calls a0_0 a0_1 true _ A2.out).mono ?_);rintro e w' ⟨rfl,⟨nd,rfl⟩⟩;refine⟨_,rfl,?_⟩))
     go_ret
     exact⟨bE,bS GE178.out⟩
    ·rw[if_neg c10] at H
     have c10b0:decide (1000 < a0_3)=false:=decide_eq_false c10
     clear c10
     replace H:=bI_ H
     obtain⟨t180,A130,H⟩:=H
     have A13:=am A130
     clear A130
     obtain rfl:=Option.some.inj H
     go_enter Try.func145,Try.ntmps145
     go_wp2_with (first|((with_reducible refine gate_dst (N:=1) rfl ?_);refine box_event ?hg (N:=1) ?hd (cs:=#[.int .i64 a0_0,.int .i64 a0_1,.int .i64 a0_2,.int .i64 a0_3,.int .i64 a0_4]) (t:=104) ?hr ?_;(case hd=>rfl);(case hg=>rfl);(case hr=>first|(go_simp;done)|(go_simp;rfl));intro gb178 hg w14 hbox hb;have n0_:=am (below_step (bB) hb);have n1_:=am (hbox);have n2_:=am ((bG:w.heap.size≤gb178));have n3_:=am ((bG:w.heap.size≤gb178));clear HB;have HB:=n0_;have BK178:=n1_;have GW178:=n2_;have GE178:=n3_;clear n0_ n1_ n2_ n3_;clear hb hbox hg;obtain⟨hcz15_0,hcz15_1,hcz15_2,hcz15_3,hcz15_4⟩:=cC5 BK178.out;obtain⟨hfz15_0,hfz15_1,hfz15_2,hfz15_3,hfz15_4⟩:=cF5 BK178.out)|((with_reducible refine gate_callee (f:=146) rfl ?_);refine goesA (some 7) rfl rfl Try.func146 #[.int .i64 a0_0,.int .i64 a0_1] rfl ?_;(with_reducible refine(impl_areUnlike.calls a0_0 a0_1 true _ A2.out).mono ?_);rintro e w' ⟨rfl,⟨nd,rfl⟩⟩;refine⟨_,rfl,?_⟩)|(go_at_call 79;(with_reducible refine(impl_within.calls a0_4 0 100 t180 _ A13.out).mono ?_);rintro e w' ⟨rfl,⟨nd,rfl⟩⟩))
     go_ret
     exact⟨bE,bS GE178.out⟩
 ·replace c3:=Bool.eq_false_iff.mpr c3
  subst c3
  have H1:(some true)=some r:=by rw[if_neg (show ¬ (false=true) by decide)] at H;exact H
  clear H
  have H:=H1
  clear H1
  obtain rfl:=Option.some.inj H
  go_enter Try.func145,Try.ntmps145
  go_wp2_with (first|((with_reducible refine gate_dst (N:=1) rfl ?_);refine box_event ?hg (N:=1) ?hd (cs:=#[.int .i64 a0_0,.int .i64 a0_1,.int .i64 a0_2,.int .i64 a0_3,.int .i64 a0_4]) (t:=104) ?hr ?_;(case hd=>rfl);(case hg=>rfl);(case hr=>first|(go_simp;done)|(go_simp;rfl));intro gb178 hg w16 hbox hb;have n0_:=am (below_step (bB) hb);have n1_:=am (hbox);have n2_:=am ((bG:w.heap.size≤gb178));have n3_:=am ((bG:w.heap.size≤gb178));clear HB;have HB:=n0_;have BK178:=n1_;have GW178:=n2_;have GE178:=n3_;clear n0_ n1_ n2_ n3_;clear hb hbox hg;obtain⟨hcz17_0,hcz17_1,hcz17_2,hcz17_3,hcz17_4⟩:=cC5 BK178.out;obtain⟨hfz17_0,hfz17_1,hfz17_2,hfz17_3,hfz17_4⟩:=cF5 BK178.out)|((with_reducible refine gate_callee (f:=146) rfl ?_);refine goesA (some 7) rfl rfl Try.func146 #[.int .i64 a0_0,.int .i64 a0_1] rfl ?_;(with_reducible refine(impl_areUnlike.calls a0_0 a0_1 false _ A2.out).mono ?_);rintro e w' ⟨rfl,⟨nd,rfl⟩⟩;refine⟨_,rfl,?_⟩))
  go_ret
  exact⟨bE,bS GE178.out⟩

end Go.Proofs.Yteneeohaoplpbaa.XFnFollow
