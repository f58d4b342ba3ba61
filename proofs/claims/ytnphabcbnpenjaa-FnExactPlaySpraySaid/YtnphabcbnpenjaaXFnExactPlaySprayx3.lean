-- Written by this session's own program (wip/xprint.py) out of the translation; Lean checks it.
import Derived.Test.YtnphabcbnpenjaaXFnExactPlaySprayx0
import Derived.Test.YtnphabcbnpenjaaXFnExactPlaySprayx2
namespace Go.Proofs.Ytnphabcbnpenjaa.XFnExactPlaySpray
open Go.RowKit Go.Proofs.YtnphabcbnpenjaaW.PrintWords Go.Proofs.YtnphabcbnpenjaaW.PrintLast Go.Proofs.YtnphabcbnpenjaaW.PrintMore
attribute [local go_sem] max2_int min2_int max_two min_two max_three min_three max_four min_four   -- for this text's walks alone
set_option linter.unusedVariables false
set_option linter.unusedSimpArgs false

/-! ### spec_NewSpray: function 125 -/
def spec_NewSpray.f (a0:Int) (a1:Int) (a2:Int) (a3:Int):Option (List Int × Int × Bool × Bool):=(spec_l1In.f a0 2 8).bind fun t145=>(if t145=true then (if a1 < 0 then (some (([]:List Int),0,false,false)) else (if a1 ≥ a0 then (some (([]:List Int),0,false,false)) else (if a2 < 0 then (some (([]:List Int),0,false,false)) else (if a2 ≥ a0 then (some (([]:List Int),0,false,false)) else (if a1=a2 then (some (([]:List Int),0,false,false)) else ((spec_l1In.f a3 1 64).bind fun t146=>(if t146=true then (if 0≤a0 then (if (a0:Int).toNat≤35184372088832 then ((some (List.replicate (a0:Int).toNat 0:List Int)).bind fun y147=>(if 0≤a1 then (if a1 < (y147.length:Int) then (some ((y147.set (a1:Int).toNat a3),a2,false,true)) else (none)) else (none))) else (none)) else (none)) else (some (([]:List Int),0,false,false))))))))) else (some (([]:List Int),0,false,false)))
set_option maxHeartbeats 8000000 in
set_option maxRecDepth 100000 in
theorem spec_NewSpray.calls (a0:Int) (a1:Int) (a2:Int) (a3:Int) (r1:List Int) (r2:Int) (r3:Bool) (r4:Bool) (w:World) (h:spec_NewSpray.f a0 a1 a2 a3=some (r1,r2,r3,r4)) :
  Calls Try.prog 125 #[.int .i64 a0,.int .i64 a1,.int .i64 a2,.int .i64 a3] w fun e w' => ∃ v0_:Value,e=.returned (.tuple #[.agg #[v0_,.int .i64 r2,.bool r3],.bool r4])∧Kd.R (Kd.int .i64) 3 w' w.heap.size (fun _=>True) v0_ r1∧Below w.heap.size w w':=by
 have hu39:=Try.underlying39
 have HB:=Aside0.mk (Below.refl w.heap.size w)
 have H:((spec_l1In.f a0 2 8).bind fun t145=>(if t145=true then (if a1 < 0 then (some (([]:List Int),0,false,false)) else (if a1 ≥ a0 then (some (([]:List Int),0,false,false)) else (if a2 < 0 then (some (([]:List Int),0,false,false)) else (if a2 ≥ a0 then (some (([]:List Int),0,false,false)) else (if a1=a2 then (some (([]:List Int),0,false,false)) else ((spec_l1In.f a3 1 64).bind fun t146=>(if t146=true then (if 0≤a0 then (if (a0:Int).toNat≤35184372088832 then ((some (List.replicate (a0:Int).toNat 0:List Int)).bind fun y147=>(if 0≤a1 then (if a1 < (y147.length:Int) then (some ((y147.set (a1:Int).toNat a3),a2,false,true)) else (none)) else (none))) else (none)) else (none)) else (some (([]:List Int),0,false,false))))))))) else (some (([]:List Int),0,false,false))))=some (r1,r2,r3,r4):=h
 clear h
 replace H:=Option.bind_eq_some_iff.mp H
 obtain⟨t145,A50,H⟩:=H
 replace H:(if t145=true then (if a1 < 0 then (some (([]:List Int),0,false,false)) else (if a1 ≥ a0 then (some (([]:List Int),0,false,false)) else (if a2 < 0 then (some (([]:List Int),0,false,false)) else (if a2 ≥ a0 then (some (([]:List Int),0,false,false)) else (if a1=a2 then (some (([]:List Int),0,false,false)) else ((spec_l1In.f a3 1 64).bind fun t146=>(if t146=true then (if 0≤a0 then (if (a0:Int).toNat≤35184372088832 then ((some (List.replicate (a0:Int).toNat 0:List Int)).bind fun y147=>(if 0≤a1 then (if a1 < (y147.length:Int) then (some ((y147.set (a1:Int).toNat a3),a2,false,true)) else (none)) else (none))) else (none)) else (none)) else (some (([]:List Int),0,false,false))))))))) else (some (([]:List Int),0,false,false)))=some (r1,r2,r3,r4):=H
 have A5:=Aside0.mk A50
 clear A50
 by_cases c6:t145=true
 ·subst c6
  have H1:(if a1 < 0 then (some (([]:List Int),0,false,false)) else (if a1 ≥ a0 then (some (([]:List Int),0,false,false)) else (if a2 < 0 then (some (([]:List Int),0,false,false)) else (if a2 ≥ a0 then (some (([]:List Int),0,false,false)) else (if a1=a2 then (some (([]:List Int),0,false,false)) else ((spec_l1In.f a3 1 64).bind fun t146=>(if t146=true then (if 0≤a0 then (if (a0:Int).toNat≤35184372088832 then ((some (List.replicate (a0:Int).toNat 0:List Int)).bind fun y147=>(if 0≤a1 then (if a1 < (y147.length:Int) then (some ((y147.set (a1:Int).toNat a3),a2,false,true)) else (none)) else (none))) else (none)) else (none)) else (some (([]:List Int),0,false,false)))))))))=some (r1,r2,r3,r4):=by rw[if_pos rfl] at H;exact H
  clear H
  have H:=H1
  clear H1
  by_cases c7:a1 < 0
  ·rw[if_pos c7] at H
   have c7b0:decide (a1 < 0)=true:=decide_eq_true c7
   clear c7
   simp only[Option.some.injEq,Prod.mk.injEq] at H
   obtain⟨rfl,rfl,rfl,rfl⟩:=H
   go_enter Try.func125,Try.ntmps125
   go_wp2_with (first|((with_reducible refine gate_dst (N:=8) rfl ?_);refine box_event ?hg (N:=8) ?hd (cs:=#[.slice none 0 0,.int .i64 0,.bool false]) (t:=39) ?hr ?_;(case hd=>rfl);(case hg=>rfl);(case hr=>first|(go_simp;done)|(go_simp;rfl));intro gb144 hg w8 hbox hb;have n0_:=Aside0.mk (below_step (bB) hb);have n1_:=Aside0.mk (hbox);have n2_:=Aside0.mk ((bG:w.heap.size≤gb144));have n3_:=Aside0.mk ((bG:w.heap.size≤gb144));clear HB;have HB:=n0_;have BK144:=n1_;have GW144:=n2_;have GE144:=n3_;clear n0_ n1_ n2_ n3_;clear hb hbox hg)|((with_reducible refine gate_callee (f:=91) rfl ?_);refine goesA (some 12) rfl rfl Try.func91 #[.int .i64 a0,.int .i64 2,.int .i64 8] rfl ?_;(with_reducible refine(spec_l1In.calls a0 2 8 true _ A5.out).mono ?_);rintro e w' ⟨rfl,⟨nd,rfl⟩⟩;refine⟨_,rfl,?_⟩;(try (rw[drewN_self w8];generalize hq_:World.drewN w8 _=w8;have n0_:Aside0 (w8.heap[gb144]?=some (.cells #[.slice none 0 0,.int .i64 0,.bool false] 39 (0,0))):=⟨by rw[← hq_];exact(bL BK144.out)⟩;have n1_:Aside0 (Below w.heap.size w w8):=⟨by rw[← hq_];exact(bS GE144.out)⟩;clear BK144 HB hq_;have BK144:=n0_;have HB:=n1_;clear n0_ n1_));obtain⟨hcz9_0,hcz9_1,hcz9_2⟩:=cC3 BK144.out;obtain⟨hfz9_0,hfz9_1,hfz9_2⟩:=cF3 BK144.out))
   refine bodyPost_ret (results_ct rfl _ _ gb144 39 #[.slice none 0 0,.int .i64 0,.bool false] (0,0) _ rfl (by(with_reducible repeat (first|refine blk_drewN ?_ _|refine blk_drew ?_|refine blk_alloc ?_ _));refine blk_put (cs:=#[.slice none 0 0,.int .i64 0,.bool false]) ?_ 2 _ rfl;(with_reducible repeat (first|refine blk_drewN ?_ _|refine blk_drew ?_|refine blk_alloc ?_ _));refine blk_put (cs:=#[.slice none 0 0,.int .i64 0,.bool false]) ?_ 1 _ rfl;(with_reducible repeat (first|refine blk_drewN ?_ _|refine blk_drew ?_|refine blk_alloc ?_ _));refine blk_put (cs:=#[.slice none 0 0,.int .i64 0,.bool false]) ?_ 0 _ rfl;(with_reducible repeat (first|refine blk_drewN ?_ _|refine blk_drew ?_|refine blk_alloc ?_ _));exact BK144.out) Try.underlying39 rfl (by kernel_rfl)) rfl ?_
   exact⟨_,by first|rfl|(simp[errW_none,errW_some]<;>rfl)|(simp[*,errW_none,errW_some]<;>rfl),by first|exact Kd.R_nil _ _ _ _ _|exact Kd.N_nil _ _ _ _ _|exact Kd.V_nil _ _ _ _ _|exact Kd.Q_nil _ _ _ _ _|exact Kd.S_nil _ _ _ _ _,bS GE144.out⟩
  ·rw[if_neg c7] at H
   have c7b0:decide (a1 < 0)=false:=decide_eq_false c7
   clear c7
   by_cases c10:a1 ≥ a0
   ·rw[if_pos c10] at H
    have c10b0:decide (a0≤a1)=true:=decide_eq_true c10
    clear c10
    simp only[Option.some.injEq,Prod.mk.injEq] at H
    obtain⟨rfl,rfl,rfl,rfl⟩:=H
    go_enter Try.func125,Try.ntmps125
    go_wp2_with (first|((with_reducible refine gate_dst (N:=8) rfl ?_);refine box_event ?hg (N:=8) ?hd (cs:=#[.slice none 0 0,.int .i64 0,.bool false]) (t:=39) ?hr ?_;(case hd=>rfl);(case hg=>rfl);(case hr=>first|(go_simp;done)|(go_simp;rfl));intro gb144 hg w11 hbox hb;have n0_:=Aside0.mk (below_step (bB) hb);have n1_:=Aside0.mk (hbox);have n2_:=Aside0.mk ((bG:w.heap.size≤gb144));have n3_:=Aside0.mk ((bG:w.heap.size≤gb144));clear HB;have HB:=n0_;have BK144:=n1_;have GW144:=n2_;have GE144:=n3_;clear n0_ n1_ n2_ n3_;clear hb hbox hg)|((with_reducible refine gate_callee (f:=91) rfl ?_);refine goesA (some 12) rfl rfl Try.func91 #[.int .i64 a0,.int .i64 2,.int .i64 8] rfl ?_;(with_reducible refine(spec_l1In.calls a0 2 8 true _ A5.out).mono ?_);rintro e w' ⟨rfl,⟨nd,rfl⟩⟩;refine⟨_,rfl,?_⟩;(try (rw[drewN_self w11];generalize hq_:World.drewN w11 _=w11;have n0_:Aside0 (w11.heap[gb144]?=some (.cells #[.slice none 0 0,.int .i64 0,.bool false] 39 (0,0))):=⟨by rw[← hq_];exact(bL BK144.out)⟩;have n1_:Aside0 (Below w.heap.size w w11):=⟨by rw[← hq_];exact(bS GE144.out)⟩;clear BK144 HB hq_;have BK144:=n0_;have HB:=n1_;clear n0_ n1_));obtain⟨hcz12_0,hcz12_1,hcz12_2⟩:=cC3 BK144.out;obtain⟨hfz12_0,hfz12_1,hfz12_2⟩:=cF3 BK144.out))
    refine bodyPost_ret (results_ct rfl _ _ gb144 39 #[.slice none 0 0,.int .i64 0,.bool false] (0,0) _ rfl (by(with_reducible repeat (first|refine blk_drewN ?_ _|refine blk_drew ?_|refine blk_alloc ?_ _));refine blk_put (cs:=#[.slice none 0 0,.int .i64 0,.bool false]) ?_ 2 _ rfl;(with_reducible repeat (first|refine blk_drewN ?_ _|refine blk_drew ?_|refine blk_alloc ?_ _));refine blk_put (cs:=#[.slice none 0 0,.int .i64 0,.bool false]) ?_ 1 _ rfl;(with_reducible repeat (first|refine blk_drewN ?_ _|refine blk_drew ?_|refine blk_alloc ?_ _));refine blk_put (cs:=#[.slice none 0 0,.int .i64 0,.bool false]) ?_ 0 _ rfl;(with_reducible repeat (first|refine blk_drewN ?_ _|refine blk_drew ?_|refine blk_alloc ?_ _));exact BK144.out) Try.underlying39 rfl (by kernel_rfl)) rfl ?_
    exact⟨_,by first|rfl|(simp[errW_none,errW_some]<;>rfl)|(simp[*,errW_none,errW_some]<;>rfl),by first|exact Kd.R_nil _ _ _ _ _|exact Kd.N_nil _ _ _ _ _|exact Kd.V_nil _ _ _ _ _|exact Kd.Q_nil _ _ _ _ _|exact Kd.S_nil _ _ _ _ _,bS GE144.out⟩
   ·rw[if_neg c10] at H
    have c10b0:decide (a0≤a1)=false:=decide_eq_false c10
    clear c10
    by_cases c13:a2 < 0
    ·rw[if_pos c13] at H
     have c13b0:decide (a2 < 0)=true:=decide_eq_true c13
     clear c13
     simp only[Option.some.injEq,Prod.mk.injEq] at H
     obtain⟨rfl,rfl,rfl,rfl⟩:=H
     go_enter Try.func125,Try.ntmps125
     go_wp2_with (first|((with_reducible refine gate_dst (N:=8) rfl ?_);refine box_event ?hg (N:=8) ?hd (cs:=#[.slice none 0 0,.int .i64 0,.bool false]) (t:=39) ?hr ?_;(case hd=>rfl);(case hg=>rfl);(case hr=>first|(go_simp;done)|(go_simp;rfl));intro gb144 hg w14 hbox hb;have n0_:=Aside0.mk (below_step (bB) hb);have n1_:=Aside0.mk (hbox);have n2_:=Aside0.mk ((bG:w.heap.size≤gb144));have n3_:=Aside0.mk ((bG:w.heap.size≤gb144));clear HB;have HB:=n0_;have BK144:=n1_;have GW144:=n2_;have GE144:=n3_;clear n0_ n1_ n2_ n3_;clear hb hbox hg)|((with_reducible refine gate_callee (f:=91) rfl ?_);refine goesA (some 12) rfl rfl Try.func91 #[.int .i64 a0,.int .i64 2,.int .i64 8] rfl ?_;(with_reducible refine(spec_l1In.calls a0 2 8 true _ A5.out).mono ?_);rintro e w' ⟨rfl,⟨nd,rfl⟩⟩;refine⟨_,rfl,?_⟩;(try (rw[drewN_self w14];generalize hq_:World.drewN w14 _=w14;have n0_:Aside0 (w14.heap[gb144]?=some (.cells #[.slice none 0 0,.int .i64 0,.bool false] 39 (0,0))):=⟨by rw[← hq_];exact(bL BK144.out)⟩;have n1_:Aside0 (Below w.heap.size w w14):=⟨by rw[← hq_];exact(bS GE144.out)⟩;clear BK144 HB hq_;have BK144:=n0_;have HB:=n1_;clear n0_ n1_));obtain⟨hcz15_0,hcz15_1,hcz15_2⟩:=cC3 BK144.out;obtain⟨hfz15_0,hfz15_1,hfz15_2⟩:=cF3 BK144.out))
     refine bodyPost_ret (results_ct rfl _ _ gb144 39 #[.slice none 0 0,.int .i64 0,.bool false] (0,0) _ rfl (by(with_reducible repeat (first|refine blk_drewN ?_ _|refine blk_drew ?_|refine blk_alloc ?_ _));refine blk_put (cs:=#[.slice none 0 0,.int .i64 0,.bool false]) ?_ 2 _ rfl;(with_reducible repeat (first|refine blk_drewN ?_ _|refine blk_drew ?_|refine blk_alloc ?_ _));refine blk_put (cs:=#[.slice none 0 0,.int .i64 0,.bool false]) ?_ 1 _ rfl;(with_reducible repeat (first|refine blk_drewN ?_ _|refine blk_drew ?_|refine blk_alloc ?_ _));refine blk_put (cs:=#[.slice none 0 0,.int .i64 0,.bool false]) ?_ 0 _ rfl;(with_reducible repeat (first|refine blk_drewN ?_ _|refine blk_drew ?_|refine blk_alloc ?_ _));exact BK144.out) Try.underlying39 rfl (by kernel_rfl)) rfl ?_
     exact⟨_,by first|rfl|(simp[errW_none,errW_some]<;>rfl)|(simp[*,errW_none,errW_some]<;>rfl),by first|exact Kd.R_nil _ _ _ _ _|exact Kd.N_nil _ _ _ _ _|exact Kd.V_nil _ _ _ _ _|exact Kd.Q_nil _ _ _ _ _|exact Kd.S_nil _ _ _ _ _,bS GE144.out⟩
    ·rw[if_neg c13] at H
     have c13b0:decide (a2 < 0)=false:=decide_eq_false c13
     clear c13
     by_cases c16:a2 ≥ a0
     ·rw[if_pos c16] at H
      have c16b0:decide (a0≤a2)=true:=decide_eq_true c16
      clear c16
      simp only[Option.some.injEq,Prod.mk.injEq] at H
      obtain⟨rfl,rfl,rfl,rfl⟩:=H
      go_enter Try.func125,Try.ntmps125
      go_wp2_with (first|((with_reducible refine gate_dst (N:=8) rfl ?_);refine box_event ?hg (N:=8) ?hd (cs:=#[.slice none 0 0,.int .i64 0,.bool false]) (t:=39) ?hr ?_;(case hd=>rfl);(case hg=>rfl);(case hr=>first|(go_simp;done)|(go_simp;rfl));intro gb144 hg w17 hbox hb;have n0_:=Aside0.mk (below_step (bB) hb);have n1_:=Aside0.mk (hbox);have n2_:=Aside0.mk ((bG:w.heap.size≤gb144));have n3_:=Aside0.mk ((bG:w.heap.size≤gb144));clear HB;have HB:=n0_;have BK144:=n1_;have GW144:=n2_;have GE144:=n3_;clear n0_ n1_ n2_ n3_;clear hb hbox hg)|((with_reducible refine gate_callee (f:=91) rfl ?_);refine goesA (some 12) rfl rfl Try.func91 #[.int .i64 a0,.int .i64 2,.int .i64 8] rfl ?_;(with_reducible refine(spec_l1In.calls a0 2 8 true _ A5.out).mono ?_);rintro e w' ⟨rfl,⟨nd,rfl⟩⟩;refine⟨_,rfl,?_⟩;(try (rw[drewN_self w17];generalize hq_:World.drewN w17 _=w17;have n0_:Aside0 (w17.heap[gb144]?=some (.cells #[.slice none 0 0,.int .i64 0,.bool false] 39 (0,0))):=⟨by rw[← hq_];exact(bL BK144.out)⟩;have n1_:Aside0 (Below w.heap.size w w17):=⟨by rw[← hq_];exact(bS GE144.out)⟩;clear BK144 HB hq_;have BK144:=n0_;have HB:=n1_;clear n0_ n1_));obtain⟨hcz18_0,hcz18_1,hcz18_2⟩:=cC3 BK144.out;obtain⟨hfz18_0,hfz18_1,hfz18_2⟩:=cF3 BK144.out))
      refine bodyPost_ret (results_ct rfl _ _ gb144 39 #[.slice none 0 0,.int .i64 0,.bool false] (0,0) _ rfl (by(with_reducible repeat (first|refine blk_drewN ?_ _|refine blk_drew ?_|refine blk_alloc ?_ _));refine blk_put (cs:=#[.slice none 0 0,.int .i64 0,.bool false]) ?_ 2 _ rfl;(with_reducible repeat (first|refine blk_drewN ?_ _|refine blk_drew ?_|refine blk_alloc ?_ _));refine blk_put (cs:=#[.slice none 0 0,.int .i64 0,.bool false]) ?_ 1 _ rfl;(with_reducible repeat (first|refine blk_drewN ?_ _|refine blk_drew ?_|refine blk_alloc ?_ _));refine blk_put (cs:=#[.slice none 0 0,.int .i64 0,.bool false]) ?_ 0 _ rfl;(with_reducible repeat (first|refine blk_drewN ?_ _|refine blk_drew ?_|refine blk_alloc ?_ _));exact BK144.out) Try.underlying39 rfl (by kernel_rfl)) rfl ?_
      exact⟨_,by first|rfl|(simp[errW_none,errW_some]<;>rfl)|(simp[*,errW_none,errW_some]<;>rfl),by first|exact Kd.R_nil _ _ _ _ _|exact Kd.N_nil _ _ _ _ _|exact Kd.V_nil _ _ _ _ _|exact Kd.Q_nil _ _ _ _ _|exact Kd.S_nil _ _ _ _ _,bS GE144.out⟩
     ·rw[if_neg c16] at H
      have c16b0:decide (a0≤a2)=false:=decide_eq_false c16
      clear c16
      by_cases c19:a1=a2
      ·rw[if_pos c19] at H
       have c19b0:(a1 == a2)=true:=beq_iff_eq.mpr c19
       have c19b1:(a1 != a2)=false:=bne_eq_false_iff_eq.mpr c19
       clear c19
       simp only[Option.some.injEq,Prod.mk.injEq] at H
       obtain⟨rfl,rfl,rfl,rfl⟩:=H
       go_enter Try.func125,Try.ntmps125
       go_wp2_with (first|((with_reducible refine gate_dst (N:=8) rfl ?_);refine box_event ?hg (N:=8) ?hd (cs:=#[.slice none 0 0,.int .i64 0,.bool false]) (t:=39) ?hr ?_;(case hd=>rfl);(case hg=>rfl);(case hr=>first|(go_simp;done)|(go_simp;rfl));intro gb144 hg w20 hbox hb;have n0_:=Aside0.mk (below_step (bB) hb);have n1_:=Aside0.mk (hbox);have n2_:=Aside0.mk ((bG:w.heap.size≤gb144));have n3_:=Aside0.mk ((bG:w.heap.size≤gb144));clear HB;have HB:=n0_;have BK144:=n1_;have GW144:=n2_;have GE144:=n3_;clear n0_ n1_ n2_ n3_;clear hb hbox hg)|((with_reducible refine gate_callee (f:=91) rfl ?_);refine goesA (some 12) rfl rfl Try.func91 #[.int .i64 a0,.int .i64 2,.int .i64 8] rfl ?_;(with_reducible refine(spec_l1In.calls a0 2 8 true _ A5.out).mono ?_);rintro e w' ⟨rfl,⟨nd,rfl⟩⟩;refine⟨_,rfl,?_⟩;(try (rw[drewN_self w20];generalize hq_:World.drewN w20 _=w20;have n0_:Aside0 (w20.heap[gb144]?=some (.cells #[.slice none 0 0,.int .i64 0,.bool false] 39 (0,0))):=⟨by rw[← hq_];exact(bL BK144.out)⟩;have n1_:Aside0 (Below w.heap.size w w20):=⟨by rw[← hq_];exact(bS GE144.out)⟩;clear BK144 HB hq_;have BK144:=n0_;have HB:=n1_;clear n0_ n1_));obtain⟨hcz21_0,hcz21_1,hcz21_2⟩:=cC3 BK144.out;obtain⟨hfz21_0,hfz21_1,hfz21_2⟩:=cF3 BK144.out))
       refine bodyPost_ret (results_ct rfl _ _ gb144 39 #[.slice none 0 0,.int .i64 0,.bool false] (0,0) _ rfl (by(with_reducible repeat (first|refine blk_drewN ?_ _|refine blk_drew ?_|refine blk_alloc ?_ _));refine blk_put (cs:=#[.slice none 0 0,.int .i64 0,.bool false]) ?_ 2 _ rfl;(with_reducible repeat (first|refine blk_drewN ?_ _|refine blk_drew ?_|refine blk_alloc ?_ _));refine blk_put (cs:=#[.slice none 0 0,.int .i64 0,.bool false]) ?_ 1 _ rfl;(with_reducible repeat (first|refine blk_drewN ?_ _|refine blk_drew ?_|refine blk_alloc ?_ _));refine blk_put (cs:=#[.slice none 0 0,.int .i64 0,.bool false]) ?_ 0 _ rfl;(with_reducible repeat (first|refine blk_drewN ?_ _|refine blk_drew ?_|refine blk_alloc ?_ _));exact BK144.out) Try.underlying39 rfl (by kernel_rfl)) rfl ?_
       exact⟨_,by first|rfl|(simp[errW_none,errW_some]<;>rfl)|(simp[*,errW_none,errW_some]<;>rfl),by first|exact Kd.R_nil _ _ _ _ _|exact Kd.N_nil _ _ _ _ _|exact Kd.V_nil _ _ _ _ _|exact Kd.Q_nil _ _ _ _ _|exact Kd.S_nil _ _ _ _ _,bS GE144.out⟩
      ·rw[if_neg c19] at H
       have c19b0:(a1 == a2)=false:=beq_eq_false_iff_ne.mpr c19
       have c19b1:(a1 != a2)=true:=bne_iff_ne.mpr c19
       replace H:=Option.bind_eq_some_iff.mp H
       obtain⟨t146,A220,H⟩:=H
       replace H:(if t146=true then (if 0≤a0 then (if (a0:Int).toNat≤35184372088832 then ((some (List.replicate (a0:Int).toNat 0:List Int)).bind fun y147=>(if 0≤a1 then (if a1 < (y147.length:Int) then (some ((y147.set (a1:Int).toNat a3),a2,false,true)) else (none)) else (none))) else (none)) else (none)) else (some (([]:List Int),0,false,false)))=some (r1,r2,r3,r4):=H
       have A22:=Aside0.mk A220
       clear A220
       by_cases c23:t146=true
       ·subst c23
        have H1:(if 0≤a0 then (if (a0:Int).toNat≤35184372088832 then ((some (List.replicate (a0:Int).toNat 0:List Int)).bind fun y147=>(if 0≤a1 then (if a1 < (y147.length:Int) then (some ((y147.set (a1:Int).toNat a3),a2,false,true)) else (none)) else (none))) else (none)) else (none))=some (r1,r2,r3,r4):=by rw[if_pos rfl] at H;exact H
        clear H
        have H:=H1
        clear H1
        by_cases c24:0≤a0
        ·rw[if_pos c24] at H
         have c24b0:=eq_true c24
         have c24b1:decide (0≤a0)=true:=decide_eq_true c24
         clear c24
         by_cases c25:(a0:Int).toNat≤35184372088832
         ·rw[if_pos c25] at H
          have c25b0:=eq_true c25
          have c25b1:decide ((a0:Int).toNat≤35184372088832)=true:=decide_eq_true c25
          clear c25
          obtain⟨y147,hy147⟩ : ∃ y_:List Int,y_=(List.replicate (a0:Int).toNat 0):=⟨_,rfl⟩
          replace H:(if 0≤a1 then (if a1 < (y147.length:Int) then (some ((y147.set (a1:Int).toNat a3),a2,false,true)) else (none)) else (none))=some (r1,r2,r3,r4):=by first|(rw[hy147];with_reducible exact H)|(have H2_:=(Option.bind_some _ _).symm.trans H;rw[hy147];with_reducible exact H2_)|(have H2_:=(Option.bind_some _ _).symm.trans H;with_reducible exact H2_)|with_reducible exact H|(rw[hy147];exact H)|exact H
          have Ny147:=Aside0.mk hy147
          clear hy147
          by_cases c26:0≤a1
          ·rw[if_pos c26] at H
           have c26b0:decide (0≤a1)=true:=decide_eq_true c26
           clear c26
           by_cases c27:a1 < (y147.length:Int)
           ·rw[if_pos c27] at H
            have c27b0:decide (a1 < (y147.length:Int))=true:=decide_eq_true c27
            clear c27
            obtain⟨y151,hy151⟩ : ∃ y_:List Int,y_=(y147.set (a1:Int).toNat a3):=⟨_,rfl⟩
            replace H:(some (y151,a2,false,true))=some (r1,r2,r3,r4):=by first|(rw[hy151];with_reducible exact H)|(have H2_:=(Option.bind_some _ _).symm.trans H;rw[hy151];with_reducible exact H2_)|(have H2_:=(Option.bind_some _ _).symm.trans H;with_reducible exact H2_)|with_reducible exact H|(rw[hy151];exact H)|exact H
            have Ny151:=Aside0.mk hy151
            clear hy151
            simp only[Option.some.injEq,Prod.mk.injEq] at H
            obtain⟨rfl,rfl,rfl,rfl⟩:=H
            go_enter Try.func125,Try.ntmps125
            go_wp2_with (first|((with_reducible refine gate_dst (N:=8) rfl ?_);refine box_event ?hg (N:=8) ?hd (cs:=#[.slice none 0 0,.int .i64 0,.bool false]) (t:=39) ?hr ?_;(case hd=>rfl);(case hg=>rfl);(case hr=>first|(go_simp;done)|(go_simp;rfl));intro gb144 hg w29 hbox hb;have n0_:=Aside0.mk (below_step (bB) hb);have n1_:=Aside0.mk (hbox);have n2_:=Aside0.mk ((bG:w.heap.size≤gb144));have n3_:=Aside0.mk ((bG:w.heap.size≤gb144));clear HB;have HB:=n0_;have BK144:=n1_;have GW144:=n2_;have GE144:=n3_;clear n0_ n1_ n2_ n3_;clear hb hbox hg)|((with_reducible refine gate_callee (f:=91) rfl ?_);refine goesA (some 12) rfl rfl Try.func91 #[.int .i64 a0,.int .i64 2,.int .i64 8] rfl ?_;(with_reducible refine(spec_l1In.calls a0 2 8 true _ A5.out).mono ?_);rintro e w' ⟨rfl,⟨nd,rfl⟩⟩;refine⟨_,rfl,?_⟩;(try (rw[drewN_self w29];generalize hq_:World.drewN w29 _=w29;have n0_:Aside0 (w29.heap[gb144]?=some (.cells #[.slice none 0 0,.int .i64 0,.bool false] 39 (0,0))):=⟨by rw[← hq_];exact(bL BK144.out)⟩;have n1_:Aside0 (Below w.heap.size w w29):=⟨by rw[← hq_];exact(bS GE144.out)⟩;clear BK144 HB hq_;have BK144:=n0_;have HB:=n1_;clear n0_ n1_)))|(go_at_call 91;(with_reducible refine(spec_l1In.calls a3 1 64 true _ A22.out).mono ?_);rintro e w' ⟨rfl,⟨nd,rfl⟩⟩;(try (rw[drewN_self w29];generalize hq_:World.drewN w29 _=w29;have n0_:Aside0 (w29.heap[gb144]?=some (.cells #[.slice none 0 0,.int .i64 0,.bool false] 39 (0,0))):=⟨by rw[← hq_];exact(bL BK144.out)⟩;have n1_:Aside0 (Below w.heap.size w w29):=⟨by rw[← hq_];exact(bS GE144.out)⟩;clear BK144 HB hq_;have BK144:=n0_;have HB:=n1_;clear n0_ n1_)))|((with_reducible refine gate_dst (N:=44) rfl ?_);refine Kd.R_make (Kd.int .i64) _ 3 rfl (N:=44) rfl 33 _ _ rfl a0 rfl rfl Try.underlying33 (.int .i64 0) 8 info3 rfl (by decide) (by omega) 0 (ok:=fun _=>True) (okp:=fun _=>True) rfl (fun _ hk=>hk) trivial (of_decide_eq_true (bD)) (Nat.le_trans (Nat.mul_le_mul_right _ (of_decide_eq_true (bD):a0.toNat≤35184372088832)) (by omega)) (Below.refl _ _) (Nat.le_refl _) ?_;intro v148 w30 ho31 hb hg_ hnew_;clear hg_ hnew_;(first|rw[← Ny147.out] at ho31|(simp only[Int.reduceToNat] at ho31;rw[← Ny147.out] at ho31));have n0_:=Aside0.mk (Kd.R_lower ho31 (below_size (bS GE144.out)));have n1_:=Aside0.mk (bM BK144.out hb);have n2_:=Aside0.mk (below_step (bS GE144.out) hb);clear BK144 HB;have HO149:=n0_;have BK144:=n1_;have HB:=n2_;clear n0_ n1_ n2_;clear hb ho31;obtain⟨Ao32,co32,eo32⟩:=Kd.R_slice HO149.out;subst eo32)|((with_reducible refine gate_dst (N:=10) rfl ?_);refine box_event ?hg (N:=10) ?hd (cs:=#[.slice none 0 0,.int .i64 0,.bool false]) (t:=39) ?hr ?_;(case hd=>rfl);(case hg=>rfl);(case hr=>first|(go_simp;done)|(go_simp;rfl));intro gb150 hg w33 hbox hb;have n0_:=Aside0.mk (Kd.R_below (bK HO149.out) hb);have n1_:=Aside0.mk (bM BK144.out hb);have n2_:=Aside0.mk (below_step (bS GE144.out) hb);have n3_:=Aside0.mk (hbox);have n4_:=Aside0.mk ((by rw[hg];exact(below_size (bS GE144.out)):w.heap.size≤gb150));have n5_:=Aside0.mk ((by rw[hg];exact(below_size (bS GE144.out)):w.heap.size≤gb150));have n6_:=Aside0.mk ((bN BK144.out hg:gb144≠gb150));have n7_:=Aside0.mk ((bO BK144.out hg:gb150≠gb144));clear HO149 BK144 HB;have HO149:=n0_;have BK144:=n1_;have HB:=n2_;have BK150:=n3_;have GW150:=n4_;have GE150:=n5_;have NB144_150:=n6_;have NB150_144:=n7_;clear n0_ n1_ n2_ n3_ n4_ n5_ n6_ n7_;clear hb hbox hg;have hnb34:=NB150_144.out;have hnc34:=NB144_150.out;obtain⟨hcz35_0,hcz35_1,hcz35_2⟩:=cC3 BK150.out;obtain⟨hfz35_0,hfz35_1,hfz35_2⟩:=cF3 BK150.out)|((with_reducible refine gate_store (t:=39) (p:=10) rfl ?_);refine store_event (t:=39) (p:=10) (v:=?vo_w36) (w1:=(((w33.setCell ⟨gb150,0,none⟩ (.slice Ao32 y147.length co32)).setCell ⟨gb150,1,none⟩ (.int .i64 a2)).setCell ⟨gb150,2,none⟩ (.bool false))) ?hg ?ho ?hn ?hr ?_;(case ho=>rfl);(case hg=>rfl);(case hn=>rfl);(case hr=>first|(go_simp;done)|(go_simp;rfl));intro w36 hw;have n0_:Aside0 (Kd.R (Kd.int .i64) 3 w36 w.heap.size (fun _=>True) (.slice Ao32 y147.length co32) y147):=⟨(by rw[hw];exact(by(with_reducible repeat (first|apply Kd.R_alloc|apply Kd.R_drewN|apply Kd.R_drew));exact Kd.R_mono (Kd.R_far (p:=⟨gb150,2,none⟩) (Kd.R_far (p:=⟨gb150,1,none⟩) (Kd.R_far (p:=⟨gb150,0,none⟩) (Kd.R_types HO149.out BK150.out (by decide)) (fun _ hk=>hk.2) (.slice Ao32 y147.length co32)) (fun _ hk=>hk.2) (.int .i64 a2)) (fun _ hk=>hk.2) (.bool false)) (fun _ hk=>trivial)))⟩;have n1_:Aside0 (w36.heap[gb144]?=some (.cells #[.slice none 0 0,.int .i64 0,.bool false] 39 (0,0))):=⟨(by rw[hw];exact(by(with_reducible repeat (first|refine blk_drewN ?_ _|refine blk_drew ?_|refine blk_alloc ?_ _));refine blk_far ?_ NB144_150.out _;(with_reducible repeat (first|refine blk_drewN ?_ _|refine blk_drew ?_|refine blk_alloc ?_ _));refine blk_far ?_ NB144_150.out _;(with_reducible repeat (first|refine blk_drewN ?_ _|refine blk_drew ?_|refine blk_alloc ?_ _));refine blk_far ?_ NB144_150.out _;(with_reducible repeat (first|refine blk_drewN ?_ _|refine blk_drew ?_|refine blk_alloc ?_ _));exact BK144.out))⟩;have n2_:Aside0 (w36.heap[gb150]?=some (.cells #[.slice Ao32 y147.length co32,.int .i64 a2,.bool false] 39 (0,0))):=⟨(by rw[hw];exact(by(with_reducible repeat (first|refine blk_drewN ?_ _|refine blk_drew ?_|refine blk_alloc ?_ _));refine blk_put (cs:=#[.slice Ao32 y147.length co32,.int .i64 a2,.bool false]) ?_ 2 _ rfl;(with_reducible repeat (first|refine blk_drewN ?_ _|refine blk_drew ?_|refine blk_alloc ?_ _));refine blk_put (cs:=#[.slice Ao32 y147.length co32,.int .i64 0,.bool false]) ?_ 1 _ rfl;(with_reducible repeat (first|refine blk_drewN ?_ _|refine blk_drew ?_|refine blk_alloc ?_ _));refine blk_put (cs:=#[.slice none 0 0,.int .i64 0,.bool false]) ?_ 0 _ rfl;(with_reducible repeat (first|refine blk_drewN ?_ _|refine blk_drew ?_|refine blk_alloc ?_ _));exact BK150.out))⟩;have n3_:Aside0 (Below w.heap.size w w36):=⟨(by rw[hw];exact(bS2 GE144.out GE150.out))⟩;clear hw HO149 BK144 BK150 HB;have HO149:=n0_;have BK144:=n1_;have BK150:=n2_;have HB:=n3_;clear n0_ n1_ n2_ n3_;obtain⟨hcz37_0,hcz37_1,hcz37_2⟩:=cC3 BK150.out;obtain⟨hfz37_0,hfz37_1,hfz37_2⟩:=cF3 BK150.out;have p28:0≤(a1:Int):=of_decide_eq_true (bD);have q28:(a1:Int) < ((y147.length:Int):Int):=of_decide_eq_true (bD);obtain⟨go28,co28,eo28,gb28,gl28,cl28,HG28⟩:=Kd.R_form HO149.out (by omega);(first|cases eo28|(injection eo28 with ea_ en_ ec_;(first|subst ea_|(injection ea_ with ea_;subst ea_));subst ec_;clear en_));have GB28:=Aside0.mk gb28;have GG28:=Aside0.mk HG28;clear gb28 gl28 HG28;obtain⟨hx28_0,hf28_0⟩:=Kd.R_celln 0 HO149.out (a1:Int) p28 q28;replace p28:=eq_true p28;replace q28:=eq_true q28;obtain⟨hy38_,hz38_⟩:=Kd.R_celln 0 HO149.out (a1:Int) (of_decide_eq_true (bD)) (of_decide_eq_true (bD));have HP38:=Kd.R_putg HO149.out (a1:Int) a3)|((with_reducible refine gate_store (t:=3) (p:=51) rfl ?_);refine store_event (t:=3) (p:=51) (v:=?vo_w39) (w1:=(w36.setCell ⟨go28,(a1:Int).toNat,none⟩ (.int .i64 a3))) ?hg ?ho ?hn ?hr ?_;(case ho=>rfl);(case hg=>rfl);(case hn=>rfl);(case hr=>first|(go_simp;done)|(go_simp;rfl));intro w39 hw;have hg:w36.grownBy w39 (some go28):=(by rw[hw];exact HP38.2);have hp_:Kd.R (Kd.int .i64) 3 w39 w.heap.size (fun _=>True) (.slice (some ⟨go28,0,none⟩) y147.length co32) y151:=(by rw[hw,Ny151.out];exact HP38.1);clear HP38;have n0_:=Aside0.mk (blk_grown (g:=gb144) (o:=.cells #[.slice none 0 0,.int .i64 0,.bool false] 39 (0,0)) (bL BK144.out) hg (Kd.R_ne HO149.out BK144.out (by decide)));have n1_:=Aside0.mk (hp_);have n2_:=Aside0.mk (blk_grown (g:=gb150) (o:=.cells #[.slice (some ⟨go28,0,none⟩) y147.length co32,.int .i64 a2,.bool false] 39 (0,0)) (bL BK150.out) hg (Kd.R_ne HO149.out BK150.out (by decide)));have n3_:=Aside0.mk ((by rw[hw];exact below_set (HB.out) GB28.out:Below w.heap.size w w39));clear BK144 HO149 BK150 HB;have BK144:=n0_;have HO149:=n1_;have BK150:=n2_;have HB:=n3_;clear n0_ n1_ n2_ n3_;clear hg hw hp_;obtain⟨hcz40_0,hcz40_1,hcz40_2⟩:=cC3 BK150.out;obtain⟨hfz40_0,hfz40_1,hfz40_2⟩:=cF3 BK150.out;obtain⟨hcz41_0,hcz41_1,hcz41_2⟩:=cC3 BK144.out;obtain⟨hfz41_0,hfz41_1,hfz41_2⟩:=cF3 BK144.out))
            refine bodyPost_ret (results_ct rfl _ _ gb144 39 #[.slice (some ⟨go28,0,none⟩) y147.length co32,.int .i64 a2,.bool false] (0,0) _ rfl (by(with_reducible repeat (first|refine blk_drewN ?_ _|refine blk_drew ?_|refine blk_alloc ?_ _));refine blk_put (cs:=#[.slice (some ⟨go28,0,none⟩) y147.length co32,.int .i64 a2,.bool false]) ?_ 2 _ rfl;(with_reducible repeat (first|refine blk_drewN ?_ _|refine blk_drew ?_|refine blk_alloc ?_ _));refine blk_put (cs:=#[.slice (some ⟨go28,0,none⟩) y147.length co32,.int .i64 0,.bool false]) ?_ 1 _ rfl;(with_reducible repeat (first|refine blk_drewN ?_ _|refine blk_drew ?_|refine blk_alloc ?_ _));refine blk_put (cs:=#[.slice none 0 0,.int .i64 0,.bool false]) ?_ 0 _ rfl;(with_reducible repeat (first|refine blk_drewN ?_ _|refine blk_drew ?_|refine blk_alloc ?_ _));exact BK144.out) Try.underlying39 rfl (by kernel_rfl)) rfl ?_
            exact⟨_,by first|rfl|(simp[errW_none,errW_some]<;>rfl)|(simp[*,errW_none,errW_some]<;>rfl),by(with_reducible repeat (first|apply Kd.R_alloc|apply Kd.R_drewN|apply Kd.R_drew));exact Kd.R_mono (Kd.R_far (p:=⟨gb144,2,none⟩) (Kd.R_far (p:=⟨gb144,1,none⟩) (Kd.R_far (p:=⟨gb144,0,none⟩) (Kd.R_types HO149.out BK144.out (by decide)) (fun _ hk=>hk.2) (.slice (some ⟨go28,0,none⟩) y147.length co32)) (fun _ hk=>hk.2) (.int .i64 a2)) (fun _ hk=>hk.2) (.bool false)) (fun _ hk=>trivial),bS2 GE144.out GE150.out⟩
           ·rw[if_neg c27] at H
            exact absurd H (by simp)
          ·rw[if_neg c26] at H
           exact absurd H (by simp)
         ·rw[if_neg c25] at H
          exact absurd H (by simp)
        ·rw[if_neg c24] at H
         exact absurd H (by simp)
       ·replace c23:=Bool.eq_false_iff.mpr c23
        subst c23
        have H1:(some (([]:List Int),0,false,false))=some (r1,r2,r3,r4):=by rw[if_neg (show ¬ (false=true) by decide)] at H;exact H
        clear H
        have H:=H1
        clear H1
        simp only[Option.some.injEq,Prod.mk.injEq] at H
        obtain⟨rfl,rfl,rfl,rfl⟩:=H
        go_enter Try.func125,Try.ntmps125
        go_wp2_with (first|((with_reducible refine gate_dst (N:=8) rfl ?_);refine box_event ?hg (N:=8) ?hd (cs:=#[.slice none 0 0,.int .i64 0,.bool false]) (t:=39) ?hr ?_;(case hd=>rfl);(case hg=>rfl);(case hr=>first|(go_simp;done)|(go_simp;rfl));intro gb144 hg w42 hbox hb;have n0_:=Aside0.mk (below_step (bB) hb);have n1_:=Aside0.mk (hbox);have n2_:=Aside0.mk ((bG:w.heap.size≤gb144));have n3_:=Aside0.mk ((bG:w.heap.size≤gb144));clear HB;have HB:=n0_;have BK144:=n1_;have GW144:=n2_;have GE144:=n3_;clear n0_ n1_ n2_ n3_;clear hb hbox hg)|((with_reducible refine gate_callee (f:=91) rfl ?_);refine goesA (some 12) rfl rfl Try.func91 #[.int .i64 a0,.int .i64 2,.int .i64 8] rfl ?_;(with_reducible refine(spec_l1In.calls a0 2 8 true _ A5.out).mono ?_);rintro e w' ⟨rfl,⟨nd,rfl⟩⟩;refine⟨_,rfl,?_⟩;(try (rw[drewN_self w42];generalize hq_:World.drewN w42 _=w42;have n0_:Aside0 (w42.heap[gb144]?=some (.cells #[.slice none 0 0,.int .i64 0,.bool false] 39 (0,0))):=⟨by rw[← hq_];exact(bL BK144.out)⟩;have n1_:Aside0 (Below w.heap.size w w42):=⟨by rw[← hq_];exact(bS GE144.out)⟩;clear BK144 HB hq_;have BK144:=n0_;have HB:=n1_;clear n0_ n1_)))|(go_at_call 91;(with_reducible refine(spec_l1In.calls a3 1 64 false _ A22.out).mono ?_);rintro e w' ⟨rfl,⟨nd,rfl⟩⟩;(try (rw[drewN_self w42];generalize hq_:World.drewN w42 _=w42;have n0_:Aside0 (w42.heap[gb144]?=some (.cells #[.slice none 0 0,.int .i64 0,.bool false] 39 (0,0))):=⟨by rw[← hq_];exact(bL BK144.out)⟩;have n1_:Aside0 (Below w.heap.size w w42):=⟨by rw[← hq_];exact(bS GE144.out)⟩;clear BK144 HB hq_;have BK144:=n0_;have HB:=n1_;clear n0_ n1_));obtain⟨hcz43_0,hcz43_1,hcz43_2⟩:=cC3 BK144.out;obtain⟨hfz43_0,hfz43_1,hfz43_2⟩:=cF3 BK144.out))
        refine bodyPost_ret (results_ct rfl _ _ gb144 39 #[.slice none 0 0,.int .i64 0,.bool false] (0,0) _ rfl (by(with_reducible repeat (first|refine blk_drewN ?_ _|refine blk_drew ?_|refine blk_alloc ?_ _));refine blk_put (cs:=#[.slice none 0 0,.int .i64 0,.bool false]) ?_ 2 _ rfl;(with_reducible repeat (first|refine blk_drewN ?_ _|refine blk_drew ?_|refine blk_alloc ?_ _));refine blk_put (cs:=#[.slice none 0 0,.int .i64 0,.bool false]) ?_ 1 _ rfl;(with_reducible repeat (first|refine blk_drewN ?_ _|refine blk_drew ?_|refine blk_alloc ?_ _));refine blk_put (cs:=#[.slice none 0 0,.int .i64 0,.bool false]) ?_ 0 _ rfl;(with_reducible repeat (first|refine blk_drewN ?_ _|refine blk_drew ?_|refine blk_alloc ?_ _));exact BK144.out) Try.underlying39 rfl (by kernel_rfl)) rfl ?_
        exact⟨_,by first|rfl|(simp[errW_none,errW_some]<;>rfl)|(simp[*,errW_none,errW_some]<;>rfl),by first|exact Kd.R_nil _ _ _ _ _|exact Kd.N_nil _ _ _ _ _|exact Kd.V_nil _ _ _ _ _|exact Kd.Q_nil _ _ _ _ _|exact Kd.S_nil _ _ _ _ _,bS GE144.out⟩
 ·replace c6:=Bool.eq_false_iff.mpr c6
  subst c6
  have H1:(some (([]:List Int),0,false,false))=some (r1,r2,r3,r4):=by rw[if_neg (show ¬ (false=true) by decide)] at H;exact H
  clear H
  have H:=H1
  clear H1
  simp only[Option.some.injEq,Prod.mk.injEq] at H
  obtain⟨rfl,rfl,rfl,rfl⟩:=H
  go_enter Try.func125,Try.ntmps125
  go_wp2_with (first|((with_reducible refine gate_dst (N:=8) rfl ?_);refine box_event ?hg (N:=8) ?hd (cs:=#[.slice none 0 0,.int .i64 0,.bool false]) (t:=39) ?hr ?_;(case hd=>rfl);(case hg=>rfl);(case hr=>first|(go_simp;done)|(go_simp;rfl));intro gb144 hg w44 hbox hb;have n0_:=Aside0.mk (below_step (bB) hb);have n1_:=Aside0.mk (hbox);have n2_:=Aside0.mk ((bG:w.heap.size≤gb144));have n3_:=Aside0.mk ((bG:w.heap.size≤gb144));clear HB;have HB:=n0_;have BK144:=n1_;have GW144:=n2_;have GE144:=n3_;clear n0_ n1_ n2_ n3_;clear hb hbox hg)|((with_reducible refine gate_callee (f:=91) rfl ?_);refine goesA (some 12) rfl rfl Try.func91 #[.int .i64 a0,.int .i64 2,.int .i64 8] rfl ?_;(with_reducible refine(spec_l1In.calls a0 2 8 false _ A5.out).mono ?_);rintro e w' ⟨rfl,⟨nd,rfl⟩⟩;refine⟨_,rfl,?_⟩;(try (rw[drewN_self w44];generalize hq_:World.drewN w44 _=w44;have n0_:Aside0 (w44.heap[gb144]?=some (.cells #[.slice none 0 0,.int .i64 0,.bool false] 39 (0,0))):=⟨by rw[← hq_];exact(bL BK144.out)⟩;have n1_:Aside0 (Below w.heap.size w w44):=⟨by rw[← hq_];exact(bS GE144.out)⟩;clear BK144 HB hq_;have BK144:=n0_;have HB:=n1_;clear n0_ n1_));obtain⟨hcz45_0,hcz45_1,hcz45_2⟩:=cC3 BK144.out;obtain⟨hfz45_0,hfz45_1,hfz45_2⟩:=cF3 BK144.out))
  refine bodyPost_ret (results_ct rfl _ _ gb144 39 #[.slice none 0 0,.int .i64 0,.bool false] (0,0) _ rfl (by(with_reducible repeat (first|refine blk_drewN ?_ _|refine blk_drew ?_|refine blk_alloc ?_ _));refine blk_put (cs:=#[.slice none 0 0,.int .i64 0,.bool false]) ?_ 2 _ rfl;(with_reducible repeat (first|refine blk_drewN ?_ _|refine blk_drew ?_|refine blk_alloc ?_ _));refine blk_put (cs:=#[.slice none 0 0,.int .i64 0,.bool false]) ?_ 1 _ rfl;(with_reducible repeat (first|refine blk_drewN ?_ _|refine blk_drew ?_|refine blk_alloc ?_ _));refine blk_put (cs:=#[.slice none 0 0,.int .i64 0,.bool false]) ?_ 0 _ rfl;(with_reducible repeat (first|refine blk_drewN ?_ _|refine blk_drew ?_|refine blk_alloc ?_ _));exact BK144.out) Try.underlying39 rfl (by kernel_rfl)) rfl ?_
  exact⟨_,by first|rfl|(simp[errW_none,errW_some]<;>rfl)|(simp[*,errW_none,errW_some]<;>rfl),by first|exact Kd.R_nil _ _ _ _ _|exact Kd.N_nil _ _ _ _ _|exact Kd.V_nil _ _ _ _ _|exact Kd.Q_nil _ _ _ _ _|exact Kd.S_nil _ _ _ _ _,bS GE144.out⟩

/-! ### spec_PlaySpray: function 69 -/
mutual
def spec_PlaySpray.j0:Nat→List (S60)→Bool→List Int→Int→Bool→Option (List Int × Int × Bool × Int × Bool)
 | 0,_,_,_,_,_=>none
 | k+1,x4,x34,x160000,x160001,x160002=>if x34=true then (some (([]:List Int),0,false,0,false)) else (spec_PlaySpray.l0 k 0 x4 (x4.length:Int) 0 x160000 x160001 x160002)
def spec_PlaySpray.l0:Nat→Int→List (S60)→Int→Int→List Int→Int→Bool→Option (List Int × Int × Bool × Int × Bool)
 | 0,_,_,_,_,_,_,_=>none
 | k+1,x15,x36,x37,x38,x160000,x160001,x160002=>if x38 < x37 then (if 0≤x38 then (if x38 < (x36.length:Int) then ((spec_l15Meet.f k x160000 x160001 x160002 ((rd_T60 x36 x38).f0) ((rd_T60 x36 x38).f1)).bind fun bt162=>(if bt162.2.2.2=true then (if bt162.2.2.1=true then (if x160002=true then (spec_PlaySpray.l0 k x15 x36 x37 (wrap64 (x38+1)) bt162.1 bt162.2.1 bt162.2.2.1) else (spec_PlaySpray.l0 k (wrap64 (x38+1)) x36 x37 (wrap64 (x38+1)) bt162.1 bt162.2.1 bt162.2.2.1)) else (spec_PlaySpray.l0 k x15 x36 x37 (wrap64 (x38+1)) bt162.1 bt162.2.1 bt162.2.2.1)) else (some (([]:List Int),0,false,0,false)))) else (none)) else (none)) else (some (x160000,x160001,x160002,x15,true))
end
def spec_PlaySpray.f (k:Nat) (a0:Int) (a1:Int) (a2:Int) (a3:Int) (l4:List (S60)):Option (List Int × Int × Bool × Int × Bool):=(spec_NewSpray.f a0 a1 a2 a3).bind fun bt153=>(if bt153.2.2.2=true then (spec_PlaySpray.j0 k l4 (decide ((l4.length:Int) > 100)) bt153.1 bt153.2.1 bt153.2.2.1) else (spec_PlaySpray.j0 k l4 true bt153.1 bt153.2.1 bt153.2.2.1))
theorem spec_PlaySpray.mono_l : ∀ k,(∀ y0 y1 y2 y3 y4,LeO (spec_PlaySpray.j0 k y0 y1 y2 y3 y4) (spec_PlaySpray.j0 (k+1) y0 y1 y2 y3 y4))∧(∀ y0 y1 y2 y3 y4 y5 y6,LeO (spec_PlaySpray.l0 k y0 y1 y2 y3 y4 y5 y6) (spec_PlaySpray.l0 (k+1) y0 y1 y2 y3 y4 y5 y6))
 | 0=>⟨fun _ _ _ _ _ r h=>by simp[spec_PlaySpray.j0] at h,fun _ _ _ _ _ _ _ r h=>by simp[spec_PlaySpray.l0] at h⟩
 | k+1=>by
  obtain⟨ih0,ih1⟩:=spec_PlaySpray.mono_l k
  refine⟨?_,?_⟩
  ·intro y0 y1 y2 y3 y4
   unfold spec_PlaySpray.j0
   repeat' first
   | (with_reducible exact ih0 _ _ _ _ _)
   | (with_reducible exact ih1 _ _ _ _ _ _ _)
   | (with_reducible exact spec_l15Meet.mono _ _ _ _ _ _)
   | (with_reducible exact LeO.refl _)
   | (with_reducible exact LeO.none _)
   | (with_reducible refine LeO.ite ?_ ?_)
   | (with_reducible refine LeO.bind ?_ (fun _ => ?_))
   | exact ih0 _ _ _ _ _
   | exact ih1 _ _ _ _ _ _ _
   | exact spec_l15Meet.mono _ _ _ _ _ _
   | exact LeO.none _
   | refine LeO.ite ?_ ?_
   | refine LeO.bind ?_ (fun _ => ?_)
  ·intro y0 y1 y2 y3 y4 y5 y6
   unfold spec_PlaySpray.l0
   repeat' first
   | (with_reducible exact ih0 _ _ _ _ _)
   | (with_reducible exact ih1 _ _ _ _ _ _ _)
   | (with_reducible exact spec_l15Meet.mono _ _ _ _ _ _)
   | (with_reducible exact LeO.refl _)
   | (with_reducible exact LeO.none _)
   | (with_reducible refine LeO.ite ?_ ?_)
   | (with_reducible refine LeO.bind ?_ (fun _ => ?_))
   | exact ih0 _ _ _ _ _
   | exact ih1 _ _ _ _ _ _ _
   | exact spec_l15Meet.mono _ _ _ _ _ _
   | exact LeO.none _
   | refine LeO.ite ?_ ?_
   | refine LeO.bind ?_ (fun _ => ?_)
theorem spec_PlaySpray.mono : ∀ a0 a1 a2 a3 a4 k,LeO (spec_PlaySpray.f k a0 a1 a2 a3 a4) (spec_PlaySpray.f (k+1) a0 a1 a2 a3 a4):=by
 intro a0 a1 a2 a3 a4 k
 obtain⟨ih0,ih1⟩:=spec_PlaySpray.mono_l k
 unfold spec_PlaySpray.f
 repeat' first
  | (with_reducible exact ih0 _ _ _ _ _)
  | (with_reducible exact ih1 _ _ _ _ _ _ _)
  | (with_reducible exact spec_l15Meet.mono _ _ _ _ _ _)
  | (with_reducible exact LeO.refl _)
  | (with_reducible exact LeO.none _)
  | (with_reducible refine LeO.ite ?_ ?_)
  | (with_reducible refine LeO.bind ?_ (fun _ => ?_))
  | exact ih0 _ _ _ _ _
  | exact ih1 _ _ _ _ _ _ _
  | exact spec_l15Meet.mono _ _ _ _ _ _
  | exact LeO.none _
  | refine LeO.ite ?_ ?_
  | refine LeO.bind ?_ (fun _ => ?_)
set_option maxHeartbeats 8000000 in
set_option maxRecDepth 100000 in
theorem spec_PlaySpray.calls (k:Nat) (a0:Int) (a1:Int) (a2:Int) (a3:Int) (A4:Option Addr) (c4:Nat) (l4:List (S60)) (r1:List Int) (r2:Int) (r3:Bool) (r4:Int) (r5:Bool) (w:World) (hr4:Kd.C k60 w A4 l4.length l4) (hc4:l4.length≤c4) (h:spec_PlaySpray.f k a0 a1 a2 a3 l4=some (r1,r2,r3,r4,r5)) :
  Calls Try.prog 69 #[.int .i64 a0,.int .i64 a1,.int .i64 a2,.int .i64 a3,.slice A4 l4.length c4] w fun e w' => ∃ v0_:Value,e=.returned (.tuple #[.agg #[v0_,.int .i64 r2,.bool r3],.int .i64 r4,.bool r5])∧Kd.R (Kd.int .i64) 3 w' w.heap.size (fun _=>True) v0_ r1∧Below w.heap.size w w':=by
 have hu39:=Try.underlying39
 have hu60:=Try.underlying60
 have HR4:=Aside0.mk hr4
 have HC4:=Aside0.mk hc4
 clear hr4 hc4
 have HB:=Aside0.mk (Below.refl w.heap.size w)
 have H:((spec_NewSpray.f a0 a1 a2 a3).bind fun bt153=>(if bt153.2.2.2=true then (spec_PlaySpray.j0 k l4 (decide ((l4.length:Int) > 100)) bt153.1 bt153.2.1 bt153.2.2.1) else (spec_PlaySpray.j0 k l4 true bt153.1 bt153.2.1 bt153.2.2.1)))=some (r1,r2,r3,r4,r5):=h
 clear h
 replace H:=Option.bind_eq_some_iff.mp H
 obtain⟨⟨t153,t156,t157,t158⟩,A60,H⟩:=H
 replace H:(if t158=true then (spec_PlaySpray.j0 k l4 (decide ((l4.length:Int) > 100)) t153 t156 t157) else (spec_PlaySpray.j0 k l4 true t153 t156 t157))=some (r1,r2,r3,r4,r5):=H
 have A6:=Aside0.mk A60
 clear A60
 have HC7:=Aside0.mk H
 clear H
 go_enter Try.func69,Try.ntmps69
 go_upto_region 2 with (first|((with_reducible refine gate_dst (N:=10) rfl ?_);(try (refine gate_guard (by rfl) ?_;dsimp only));refine box_event ?hg (N:=10) ?hd (cs:=#[.slice none 0 0,.int .i64 0,.bool false]) (t:=39) ?hr ?_;(case hd=>rfl);(case hg=>rfl);(case hr=>first|(go_simp;done)|(go_simp;rfl));intro gb152 hg w8 hbox hb;have n0_:=Aside0.mk (below_step (bB) hb);have n1_:=Aside0.mk (hbox);have n2_:=Aside0.mk ((bG:w.heap.size≤gb152));have n3_:=Aside0.mk ((bG:w.heap.size≤gb152));clear HB;have HB:=n0_;have BK152:=n1_;have GW152:=n2_;have GE152:=n3_;clear n0_ n1_ n2_ n3_;clear hb hbox hg)|((with_reducible refine gate_callee (f:=125) rfl ?_);refine goesA (some 25) rfl rfl Try.func125 #[.int .i64 a0,.int .i64 a1,.int .i64 a2,.int .i64 a3] rfl ?_;(with_reducible refine(spec_NewSpray.calls a0 a1 a2 a3 t153 t156 t157 t158 _ A6.out).mono ?_);rintro e w9 ⟨v154,rfl,ho0,hb⟩;refine⟨_,rfl,?_⟩;have n0_:=Aside0.mk (Kd.R_lower ho0 (below_size (bS GE152.out)));have n1_:=Aside0.mk (bM BK152.out hb);have n2_:=Aside0.mk (below_step (bS GE152.out) hb);clear BK152 HB;have HO155:=n0_;have BK152:=n1_;have HB:=n2_;clear n0_ n1_ n2_;(try clear hb);(try clear hb2);(try clear hk);(try clear hi);(try clear ho0))|((with_reducible refine gate_dst (N:=13) rfl ?_);(try (refine gate_guard (by rfl) ?_;dsimp only));refine box_event ?hg (N:=13) ?hd (cs:=#[.slice none 0 0,.int .i64 0,.bool false]) (t:=39) ?hr ?_;(case hd=>rfl);(case hg=>rfl);(case hr=>first|(go_simp;done)|(go_simp;rfl));intro gb159 hg w10 hbox hb;have n0_:=Aside0.mk (Kd.R_below (bK HO155.out) hb);have n1_:=Aside0.mk (bM BK152.out hb);have n2_:=Aside0.mk (below_step (bS GE152.out) hb);have n3_:=Aside0.mk (hbox);have n4_:=Aside0.mk ((by rw[hg];exact(below_size (bS GE152.out)):w.heap.size≤gb159));have n5_:=Aside0.mk ((by rw[hg];exact(below_size (bS GE152.out)):w.heap.size≤gb159));have n6_:=Aside0.mk ((bN BK152.out hg:gb152≠gb159));have n7_:=Aside0.mk ((bO BK152.out hg:gb159≠gb152));clear HO155 BK152 HB;have HO155:=n0_;have BK152:=n1_;have HB:=n2_;have BK159:=n3_;have GW159:=n4_;have GE159:=n5_;have NB152_159:=n6_;have NB159_152:=n7_;clear n0_ n1_ n2_ n3_ n4_ n5_ n6_ n7_;clear hb hbox hg;obtain⟨Ao11,co11,eo11⟩:=Kd.R_slice HO155.out;subst eo11;have hnb12:=NB159_152.out;have hnc12:=NB152_159.out;obtain⟨hcz13_0,hcz13_1,hcz13_2⟩:=cC3 BK159.out;obtain⟨hfz13_0,hfz13_1,hfz13_2⟩:=cF3 BK159.out))
 (try simp only[Act.put,List.setIfInBounds_toArray,List.set_cons_zero,List.set_cons_succ])
 go_cut [34] (fun v34 wc => ∃ (kq:Nat) (x34_6:Bool),v34=.bool x34_6∧Aside0 (spec_PlaySpray.j0 kq l4 x34_6 t153 t156 t157=some (r1,r2,r3,r4,r5))∧Aside0 (kq≤k)∧Aside0 (Kd.R (Kd.int .i64) 3 wc w.heap.size (fun _=>True) (.slice Ao11 t153.length co11) t153)∧Aside0 (wc.heap[gb152]?=some (.cells #[(.slice none 0 0),.int .i64 0,.bool false] 39 (0,0)))∧Aside0 (wc.heap[gb159]?=some (.cells #[(.slice Ao11 t153.length co11),.int .i64 t156,.bool t157] 39 (0,0)))∧Aside0 (Below w.heap.size w wc))
 case first =>
  have H:=HC7.out
  clear HC7
  by_cases c14:t158=true
  ·subst c14
   have H1:(spec_PlaySpray.j0 k l4 (decide ((l4.length:Int) > 100)) t153 t156 t157)=some (r1,r2,r3,r4,r5):=by rw[if_pos rfl] at H;exact H
   clear H
   have H:=H1
   clear H1
   have H':=Aside0.mk H
   clear H
   go_wp2
   go_meet
   case rel=>exact⟨_,(decide ((l4.length:Int) > 100)),(bR),H',⟨by first|omega|exact Nat.le_refl _⟩,⟨by(with_reducible repeat (first|apply Kd.R_alloc|apply Kd.R_drewN|apply Kd.R_drew));exact Kd.R_mono (Kd.R_far (p:=⟨gb159,2,none⟩) (Kd.R_far (p:=⟨gb159,1,none⟩) (Kd.R_far (p:=⟨gb159,0,none⟩) (Kd.R_types HO155.out BK159.out (by decide)) (fun _ hk=>hk.2) (.slice Ao11 t153.length co11)) (fun _ hk=>hk.2) (.int .i64 t156)) (fun _ hk=>hk.2) (.bool t157)) (fun _ hk=>trivial)⟩,⟨by(with_reducible repeat (first|refine blk_drewN ?_ _|refine blk_drew ?_|refine blk_alloc ?_ _));refine blk_far ?_ NB152_159.out _;(with_reducible repeat (first|refine blk_drewN ?_ _|refine blk_drew ?_|refine blk_alloc ?_ _));refine blk_far ?_ NB152_159.out _;(with_reducible repeat (first|refine blk_drewN ?_ _|refine blk_drew ?_|refine blk_alloc ?_ _));refine blk_far ?_ NB152_159.out _;(with_reducible repeat (first|refine blk_drewN ?_ _|refine blk_drew ?_|refine blk_alloc ?_ _));exact BK152.out⟩,⟨by(with_reducible repeat (first|refine blk_drewN ?_ _|refine blk_drew ?_|refine blk_alloc ?_ _));refine blk_put (cs:=#[.slice Ao11 t153.length co11,.int .i64 t156,.bool false]) ?_ 2 _ rfl;(with_reducible repeat (first|refine blk_drewN ?_ _|refine blk_drew ?_|refine blk_alloc ?_ _));refine blk_put (cs:=#[.slice Ao11 t153.length co11,.int .i64 0,.bool false]) ?_ 1 _ rfl;(with_reducible repeat (first|refine blk_drewN ?_ _|refine blk_drew ?_|refine blk_alloc ?_ _));refine blk_put (cs:=#[.slice none 0 0,.int .i64 0,.bool false]) ?_ 0 _ rfl;(with_reducible repeat (first|refine blk_drewN ?_ _|refine blk_drew ?_|refine blk_alloc ?_ _));exact BK159.out⟩,⟨bS2 GE152.out GE159.out⟩⟩
  ·replace c14:=Bool.eq_false_iff.mpr c14
   subst c14
   have H1:(spec_PlaySpray.j0 k l4 true t153 t156 t157)=some (r1,r2,r3,r4,r5):=by rw[if_neg (show ¬ (false=true) by decide)] at H;exact H
   clear H
   have H:=H1
   clear H1
   have H':=Aside0.mk H
   clear H
   go_wp2
   go_meet
   case rel=>exact⟨_,(true),(bR),H',⟨by first|omega|exact Nat.le_refl _⟩,⟨by(with_reducible repeat (first|apply Kd.R_alloc|apply Kd.R_drewN|apply Kd.R_drew));exact Kd.R_mono (Kd.R_far (p:=⟨gb159,2,none⟩) (Kd.R_far (p:=⟨gb159,1,none⟩) (Kd.R_far (p:=⟨gb159,0,none⟩) (Kd.R_types HO155.out BK159.out (by decide)) (fun _ hk=>hk.2) (.slice Ao11 t153.length co11)) (fun _ hk=>hk.2) (.int .i64 t156)) (fun _ hk=>hk.2) (.bool t157)) (fun _ hk=>trivial)⟩,⟨by(with_reducible repeat (first|refine blk_drewN ?_ _|refine blk_drew ?_|refine blk_alloc ?_ _));refine blk_far ?_ NB152_159.out _;(with_reducible repeat (first|refine blk_drewN ?_ _|refine blk_drew ?_|refine blk_alloc ?_ _));refine blk_far ?_ NB152_159.out _;(with_reducible repeat (first|refine blk_drewN ?_ _|refine blk_drew ?_|refine blk_alloc ?_ _));refine blk_far ?_ NB152_159.out _;(with_reducible repeat (first|refine blk_drewN ?_ _|refine blk_drew ?_|refine blk_alloc ?_ _));exact BK152.out⟩,⟨by(with_reducible repeat (first|refine blk_drewN ?_ _|refine blk_drew ?_|refine blk_alloc ?_ _));refine blk_put (cs:=#[.slice Ao11 t153.length co11,.int .i64 t156,.bool false]) ?_ 2 _ rfl;(with_reducible repeat (first|refine blk_drewN ?_ _|refine blk_drew ?_|refine blk_alloc ?_ _));refine blk_put (cs:=#[.slice Ao11 t153.length co11,.int .i64 0,.bool false]) ?_ 1 _ rfl;(with_reducible repeat (first|refine blk_drewN ?_ _|refine blk_drew ?_|refine blk_alloc ?_ _));refine blk_put (cs:=#[.slice none 0 0,.int .i64 0,.bool false]) ?_ 0 _ rfl;(with_reducible repeat (first|refine blk_drewN ?_ _|refine blk_drew ?_|refine blk_alloc ?_ _));exact BK159.out⟩,⟨bS2 GE152.out GE159.out⟩⟩
 case rest =>
  clear HC7
  try clear c1
  try clear p2
  try clear c4
  try clear c6
  try clear c12
  try clear c14
  try clear hcz13_0
  try clear hcz13_1
  try clear hcz13_2
  try clear hfz13_0
  try clear hfz13_1
  try clear hfz13_2
  obtain⟨kq,x34_6,rfl,HA,HJ6,HO_160000,BK152,BK159,HB⟩:=hcut
  cases kq with
  | zero=>exact absurd HA.out (by simp[spec_PlaySpray.j0])
  | succ kj6 =>
   have H:=HA.out
   clear HA
   simp only[spec_PlaySpray.j0] at H
   by_cases c15:x34_6=true
   ·subst c15
    have H1:(some (([]:List Int),0,false,0,false))=some (r1,r2,r3,r4,r5):=by rw[if_pos rfl] at H;exact H
    clear H
    have H:=H1
    clear H1
    simp only[Option.some.injEq,Prod.mk.injEq] at H
    obtain⟨rfl,rfl,rfl,rfl,rfl⟩:=H
    have hnb16:=NB152_159.out
    have hnc16:=NB159_152.out
    obtain⟨hcz17_0,hcz17_1,hcz17_2⟩:=cC3 BK152.out
    obtain⟨hfz17_0,hfz17_1,hfz17_2⟩:=cF3 BK152.out
    go_wp2
    refine bodyPost_ret (results_ctt rfl _ _ gb152 39 #[.slice none 0 0,.int .i64 0,.bool false] (0,0) _ rfl (by(with_reducible repeat (first|refine blk_drewN ?_ _|refine blk_drew ?_|refine blk_alloc ?_ _));refine blk_put (cs:=#[.slice none 0 0,.int .i64 0,.bool false]) ?_ 2 _ rfl;(with_reducible repeat (first|refine blk_drewN ?_ _|refine blk_drew ?_|refine blk_alloc ?_ _));refine blk_put (cs:=#[.slice none 0 0,.int .i64 0,.bool false]) ?_ 1 _ rfl;(with_reducible repeat (first|refine blk_drewN ?_ _|refine blk_drew ?_|refine blk_alloc ?_ _));refine blk_put (cs:=#[.slice none 0 0,.int .i64 0,.bool false]) ?_ 0 _ rfl;(with_reducible repeat (first|refine blk_drewN ?_ _|refine blk_drew ?_|refine blk_alloc ?_ _));exact BK152.out) Try.underlying39 rfl (by kernel_rfl)) rfl ?_
    exact⟨_,by first|rfl|(simp[errW_none,errW_some]<;>rfl)|(simp[*,errW_none,errW_some]<;>rfl),by first|exact Kd.R_nil _ _ _ _ _|exact Kd.N_nil _ _ _ _ _|exact Kd.V_nil _ _ _ _ _|exact Kd.Q_nil _ _ _ _ _|exact Kd.S_nil _ _ _ _ _,bS2 GE152.out GE159.out⟩
   ·replace c15:=Bool.eq_false_iff.mpr c15
    subst c15
    have H1:(spec_PlaySpray.l0 kj6 0 l4 (l4.length:Int) 0 t153 t156 t157)=some (r1,r2,r3,r4,r5):=by rw[if_neg (show ¬ (false=true) by decide)] at H;exact H
    clear H
    have H:=H1
    clear H1
    have H':=Aside0.mk H
    clear H
    go_wp2
    go_loopg [15,38] kj6 (fun kq v15 v38 w' => ∃ (x15_2:Int) (x38_2:Int) (x153001_2:Int) (x153002_2:Bool) (x160000_2:List Int) (x160001_2:Int) (x160002_2:Bool) (u160000:Value),v15=.int .i64 x15_2∧v38=.int .i64 x38_2∧Aside0 (spec_PlaySpray.l0 kq x15_2 l4 (l4.length:Int) x38_2 x160000_2 x160001_2 x160002_2=some (r1,r2,r3,r4,r5))∧Aside0 (kq≤kj6)∧Aside0 (Kd.R (Kd.int .i64) 3 w' w.heap.size (fun _=>True) u160000 x160000_2)∧Aside0 (w'.heap[gb152]?=some (.cells #[(.slice none 0 0),.int .i64 x153001_2,.bool x153002_2] 39 (0,0)))∧Aside0 (w'.heap[gb159]?=some (.cells #[u160000,.int .i64 x160001_2,.bool x160002_2] 39 (0,0)))∧Aside0 (Below w.heap.size w w'))
    case atStart=>exact⟨(0),(0),(0),(false),(t153),(t156),(t157),(.slice Ao11 t153.length co11),(bR),(bR),H',⟨Nat.le_refl _⟩,⟨by(with_reducible repeat (first|apply Kd.R_alloc|apply Kd.R_drewN|apply Kd.R_drew));exact HO_160000.out⟩,⟨by(with_reducible repeat (first|refine blk_drewN ?_ _|refine blk_drew ?_|refine blk_alloc ?_ _));exact BK152.out⟩,⟨by(with_reducible repeat (first|refine blk_drewN ?_ _|refine blk_drew ?_|refine blk_alloc ?_ _));exact BK159.out⟩,⟨bS2 GE152.out GE159.out⟩⟩
    case round =>
     clear H'
     try clear c1
     try clear p2
     try clear c4
     try clear c6
     try clear c12
     try clear c14
     try clear c15
     try clear c16
     try clear hcz13_0
     try clear hcz13_1
     try clear hcz13_2
     try clear hcz17_0
     try clear hcz17_1
     try clear hcz17_2
     try clear hfz13_0
     try clear hfz13_1
     try clear hfz13_2
     try clear hfz17_0
     try clear hfz17_1
     try clear hfz17_2
     try clear p2
     obtain⟨x15_2,x38_2,x153001_2,x153002_2,x160000_2,x160001_2,x160002_2,u160000,rfl,rfl,HA,HK2,HO_160000,BK152,BK159,HB⟩:=hrel
     cases gk with
     | zero=>exact absurd HA.out (by simp[spec_PlaySpray.l0])
     | succ k2 =>
      have H:=HA.out
      clear HA
      simp only[spec_PlaySpray.l0] at H
      by_cases c18:x38_2 < (l4.length:Int)
      ·rw[if_pos c18] at H
       have c18b0:decide (x38_2 < (l4.length:Int))=true:=decide_eq_true c18
       clear c18
       by_cases c19:0≤x38_2
       ·rw[if_pos c19] at H
        have c19b0:decide (0≤x38_2)=true:=decide_eq_true c19
        clear c19
        by_cases c20:x38_2 < (l4.length:Int)
        ·rw[if_pos c20] at H
         have c20b0:decide (x38_2 < (l4.length:Int))=true:=decide_eq_true c20
         clear c20
         replace H:=Option.bind_eq_some_iff.mp H
         obtain⟨⟨t162,t165,t166,t167⟩,A210,H⟩:=H
         replace H:(if t167=true then (if t166=true then (if x160002_2=true then (spec_PlaySpray.l0 k2 x15_2 l4 (l4.length:Int) (wrap64 (x38_2+1)) t162 t165 t166) else (spec_PlaySpray.l0 k2 (wrap64 (x38_2+1)) l4 (l4.length:Int) (wrap64 (x38_2+1)) t162 t165 t166)) else (spec_PlaySpray.l0 k2 x15_2 l4 (l4.length:Int) (wrap64 (x38_2+1)) t162 t165 t166)) else (some (([]:List Int),0,false,0,false)))=some (r1,r2,r3,r4,r5):=H
         have A21:=Aside0.mk A210
         clear A210
         by_cases c22:t167=true
         ·subst c22
          have H1:(if t166=true then (if x160002_2=true then (spec_PlaySpray.l0 k2 x15_2 l4 (l4.length:Int) (wrap64 (x38_2+1)) t162 t165 t166) else (spec_PlaySpray.l0 k2 (wrap64 (x38_2+1)) l4 (l4.length:Int) (wrap64 (x38_2+1)) t162 t165 t166)) else (spec_PlaySpray.l0 k2 x15_2 l4 (l4.length:Int) (wrap64 (x38_2+1)) t162 t165 t166))=some (r1,r2,r3,r4,r5):=by rw[if_pos rfl] at H;exact H
          clear H
          have H:=H1
          clear H1
          by_cases c23:t166=true
          ·subst c23
           have H1:(if x160002_2=true then (spec_PlaySpray.l0 k2 x15_2 l4 (l4.length:Int) (wrap64 (x38_2+1)) t162 t165 true) else (spec_PlaySpray.l0 k2 (wrap64 (x38_2+1)) l4 (l4.length:Int) (wrap64 (x38_2+1)) t162 t165 true))=some (r1,r2,r3,r4,r5):=by rw[if_pos rfl] at H;exact H
           clear H
           have H:=H1
           clear H1
           by_cases c24:x160002_2=true
           ·subst c24
            have H1:(spec_PlaySpray.l0 k2 x15_2 l4 (l4.length:Int) (wrap64 (x38_2+1)) t162 t165 true)=some (r1,r2,r3,r4,r5):=by rw[if_pos rfl] at H;exact H
            clear H
            have H:=H1
            clear H1
            have H':=Aside0.mk H
            clear H
            have p160:0≤(x38_2:Int):=of_decide_eq_true (bD)
            have q160:x38_2 < (l4.length:Int):=of_decide_eq_true (bD)
            obtain⟨ad160,e160,hx160_0,hx160_1⟩:=at_T60 HR4.out x38_2 p160 q160
            cases e160
            replace hx160_0:=(HB.out.cell (World.block_lt_of_cell? w _ hx160_0)).trans hx160_0
            replace hx160_1:=(HB.out.cell (World.block_lt_of_cell? w _ hx160_1)).trans hx160_1
            replace p160:=eq_true p160
            replace q160:=eq_true q160
            go_wp2_with (first|((with_reducible refine gate_dst (N:=17) rfl ?_);(try (refine gate_guard (by rfl) ?_;dsimp only));refine box_event ?hg (N:=17) ?hd (cs:=#[.int .i64 0,.int .i64 0]) (t:=60) ?hr ?_;(case hd=>rfl);(case hg=>rfl);(case hr=>first|(go_simp;done)|(go_simp;rfl));intro gb161 hg w25 hbox hb;have n0_:=Aside0.mk (Kd.R_below (bK HO_160000.out) hb);have n1_:=Aside0.mk (bM BK152.out hb);have n2_:=Aside0.mk (bM BK159.out hb);have n3_:=Aside0.mk (below_step (bS2 GE152.out GE159.out) hb);have n4_:=Aside0.mk (hbox);have n5_:=Aside0.mk ((by rw[hg];exact(below_size (bS2 GE152.out GE159.out)):w.heap.size≤gb161));have n6_:=Aside0.mk ((by rw[hg];exact(below_size (bS2 GE152.out GE159.out)):w.heap.size≤gb161));have n7_:=Aside0.mk ((bN BK152.out hg:gb152≠gb161));have n8_:=Aside0.mk ((bO BK152.out hg:gb161≠gb152));have n9_:=Aside0.mk ((bN BK159.out hg:gb159≠gb161));have n10_:=Aside0.mk ((bO BK159.out hg:gb161≠gb159));clear HO_160000 BK152 BK159 HB;have HO_160000:=n0_;have BK152:=n1_;have BK159:=n2_;have HB:=n3_;have BK161:=n4_;have GW161:=n5_;have GE161:=n6_;have NB152_161:=n7_;have NB161_152:=n8_;have NB159_161:=n9_;have NB161_159:=n10_;clear n0_ n1_ n2_ n3_ n4_ n5_ n6_ n7_ n8_ n9_ n10_;clear hb hbox hg;have hnb26:=NB161_152.out;have hnc26:=NB152_161.out;have hnb27:=NB161_159.out;have hnc27:=NB159_161.out;obtain⟨hcz28_0,hcz28_1⟩:=cC2 BK161.out;obtain⟨hfz28_0,hfz28_1⟩:=cF2 BK161.out;have hnb29:=NB159_152.out;have hnc29:=NB152_159.out;obtain⟨hcz30_0,hcz30_1,hcz30_2⟩:=cC3 BK159.out;obtain⟨hfz30_0,hfz30_1,hfz30_2⟩:=cF3 BK159.out;obtain⟨Ao31,co31,eo31⟩:=Kd.R_slice HO_160000.out;subst eo31)|((with_reducible refine gate_callee (f:=105) rfl ?_);refine goesA (some 46) rfl rfl Try.func105 #[.agg #[.slice Ao31 x160000_2.length co31,.int .i64 x160001_2,.bool true],.agg #[.int .i64 ((rd_T60 l4 x38_2).f0),.int .i64 ((rd_T60 l4 x38_2).f1)]] rfl ?_;(with_reducible refine(spec_l15Meet.calls k2 _ _ x160000_2 x160001_2 true ((rd_T60 l4 x38_2).f0) ((rd_T60 l4 x38_2).f1) t162 t165 true true _ ?side1 ?side2 A21.out).mono ?_);(case side1=>refine(Kd.R_reads' (e:=3) (base:=w.heap.size) (ok:=fun k_=>True) (n:=x160000_2.length) (c:=co31) ?_).2.2;exact(by(with_reducible repeat (first|apply Kd.R_alloc|apply Kd.R_drewN|apply Kd.R_drew));exact(Kd.R_mono (Kd.R_far (p:=⟨gb161,1,none⟩) (Kd.R_far (p:=⟨gb161,0,none⟩) (Kd.R_types HO_160000.out BK161.out (by decide)) (fun _ hk=>hk.2) (.int .i64 ((rd_T60 l4 x38_2).f0))) (fun _ hk=>hk.2) (.int .i64 ((rd_T60 l4 x38_2).f1))) (fun _ h_=>h_.1))));(case side2=>exact(Kd.R_reads' HO_160000.out).2.1);rintro e w32 ⟨v163,rfl,ho0,hb⟩;refine⟨_,rfl,?_⟩;have n0_:=Aside0.mk (Kd.R_elder' (by(with_reducible repeat (first|apply Kd.R_alloc|apply Kd.R_drewN|apply Kd.R_drew));exact(Kd.R_mono (Kd.R_far (p:=⟨gb161,1,none⟩) (Kd.R_far (p:=⟨gb161,0,none⟩) (Kd.R_types HO_160000.out BK161.out (by decide)) (fun _ hk=>hk.2) (.int .i64 ((rd_T60 l4 x38_2).f0))) (fun _ hk=>hk.2) (.int .i64 ((rd_T60 l4 x38_2).f1))) (fun _ h_=>h_.1))) (Kd.R_base ho0) hb);have n1_:=Aside0.mk (Kd.R_lower (Kd.R_new' ho0 (Kd.R_lt (by(with_reducible repeat (first|apply Kd.R_alloc|apply Kd.R_drewN|apply Kd.R_drew));exact(Kd.R_mono (Kd.R_far (p:=⟨gb161,1,none⟩) (Kd.R_far (p:=⟨gb161,0,none⟩) (Kd.R_types HO_160000.out BK161.out (by decide)) (fun _ hk=>hk.2) (.int .i64 ((rd_T60 l4 x38_2).f0))) (fun _ hk=>hk.2) (.int .i64 ((rd_T60 l4 x38_2).f1))) (fun _ h_=>h_.1))))) (below_size (bS3 GE152.out GE159.out GE161.out)));have n2_:=Aside0.mk (blk_below (g:=gb152) (o:=.cells #[.slice none 0 0,.int .i64 x153001_2,.bool x153002_2] 39 (0,0)) (by(with_reducible repeat (first|refine blk_drewN ?_ _|refine blk_drew ?_|refine blk_alloc ?_ _));refine blk_far ?_ NB152_161.out _;(with_reducible repeat (first|refine blk_drewN ?_ _|refine blk_drew ?_|refine blk_alloc ?_ _));refine blk_far ?_ NB152_161.out _;(with_reducible repeat (first|refine blk_drewN ?_ _|refine blk_drew ?_|refine blk_alloc ?_ _));exact BK152.out) hb);have n3_:=Aside0.mk (blk_below (g:=gb159) (o:=.cells #[.slice Ao31 x160000_2.length co31,.int .i64 x160001_2,.bool true] 39 (0,0)) (by(with_reducible repeat (first|refine blk_drewN ?_ _|refine blk_drew ?_|refine blk_alloc ?_ _));refine blk_far ?_ NB159_161.out _;(with_reducible repeat (first|refine blk_drewN ?_ _|refine blk_drew ?_|refine blk_alloc ?_ _));refine blk_far ?_ NB159_161.out _;(with_reducible repeat (first|refine blk_drewN ?_ _|refine blk_drew ?_|refine blk_alloc ?_ _));exact BK159.out) hb);have n4_:=Aside0.mk (blk_below (g:=gb161) (o:=.cells #[.int .i64 ((rd_T60 l4 x38_2).f0),.int .i64 ((rd_T60 l4 x38_2).f1)] 60 (0,0)) (by(with_reducible repeat (first|refine blk_drewN ?_ _|refine blk_drew ?_|refine blk_alloc ?_ _));refine blk_put (cs:=#[.int .i64 ((rd_T60 l4 x38_2).f0),.int .i64 0]) ?_ 1 _ rfl;(with_reducible repeat (first|refine blk_drewN ?_ _|refine blk_drew ?_|refine blk_alloc ?_ _));refine blk_put (cs:=#[.int .i64 0,.int .i64 0]) ?_ 0 _ rfl;(with_reducible repeat (first|refine blk_drewN ?_ _|refine blk_drew ?_|refine blk_alloc ?_ _));exact BK161.out) hb);have n5_:=Aside0.mk (below_step (bS3 GE152.out GE159.out GE161.out) hb);clear HO_160000 BK152 BK159 BK161 HB;have HO_160000:=n0_;have HO164:=n1_;have BK152:=n2_;have BK159:=n3_;have BK161:=n4_;have HB:=n5_;clear n0_ n1_ n2_ n3_ n4_ n5_;(try clear hb);(try clear hb2);(try clear hk);(try clear hi);(try clear ho0))|((with_reducible refine gate_dst (N:=18) rfl ?_);(try (refine gate_guard (by rfl) ?_;dsimp only));refine box_event ?hg (N:=18) ?hd (cs:=#[.slice none 0 0,.int .i64 0,.bool false]) (t:=39) ?hr ?_;(case hd=>rfl);(case hg=>rfl);(case hr=>first|(go_simp;done)|(go_simp;rfl));intro gb168 hg w33 hbox hb;have n0_:=Aside0.mk (Kd.R_below (bK HO_160000.out) hb);have n1_:=Aside0.mk (Kd.R_below (bK HO164.out) hb);have n2_:=Aside0.mk (bM BK152.out hb);have n3_:=Aside0.mk (bM BK159.out hb);have n4_:=Aside0.mk (bM BK161.out hb);have n5_:=Aside0.mk (below_step (bS3 GE152.out GE159.out GE161.out) hb);have n6_:=Aside0.mk (hbox);have n7_:=Aside0.mk ((by rw[hg];exact(below_size (bS3 GE152.out GE159.out GE161.out)):w.heap.size≤gb168));have n8_:=Aside0.mk ((by rw[hg];exact(below_size (bS3 GE152.out GE159.out GE161.out)):w.heap.size≤gb168));have n9_:=Aside0.mk ((bN BK152.out hg:gb152≠gb168));have n10_:=Aside0.mk ((bO BK152.out hg:gb168≠gb152));have n11_:=Aside0.mk ((bN BK159.out hg:gb159≠gb168));have n12_:=Aside0.mk ((bO BK159.out hg:gb168≠gb159));have n13_:=Aside0.mk ((bN BK161.out hg:gb161≠gb168));have n14_:=Aside0.mk ((bO BK161.out hg:gb168≠gb161));clear HO_160000 HO164 BK152 BK159 BK161 HB;have HO_160000:=n0_;have HO164:=n1_;have BK152:=n2_;have BK159:=n3_;have BK161:=n4_;have HB:=n5_;have BK168:=n6_;have GW168:=n7_;have GE168:=n8_;have NB152_168:=n9_;have NB168_152:=n10_;have NB159_168:=n11_;have NB168_159:=n12_;have NB161_168:=n13_;have NB168_161:=n14_;clear n0_ n1_ n2_ n3_ n4_ n5_ n6_ n7_ n8_ n9_ n10_ n11_ n12_ n13_ n14_;clear hb hbox hg;obtain⟨Ao34,co34,eo34⟩:=Kd.R_slice HO164.out;subst eo34;have hnb35:=NB168_152.out;have hnc35:=NB152_168.out;have hnb36:=NB168_159.out;have hnc36:=NB159_168.out;have hnb37:=NB168_161.out;have hnc37:=NB161_168.out;obtain⟨hcz38_0,hcz38_1,hcz38_2⟩:=cC3 BK168.out;obtain⟨hfz38_0,hfz38_1,hfz38_2⟩:=cF3 BK168.out;obtain⟨hcz39_0,hcz39_1,hcz39_2⟩:=cC3 BK159.out;obtain⟨hfz39_0,hfz39_1,hfz39_2⟩:=cF3 BK159.out))
            go_roundg k2
            case measure=>have:=HJ6.out;have:=HK2.out;omega
            case rel=>exact⟨(x15_2),(wrap64 (x38_2+1)),(x153001_2),(x153002_2),(t162),(t165),(true),(.slice Ao34 t162.length co34),(bR),(bR),H',⟨by have:=HJ6.out;have:=HK2.out;omega⟩,⟨by(with_reducible repeat (first|apply Kd.R_alloc|apply Kd.R_drewN|apply Kd.R_drew));exact Kd.R_mono (Kd.R_far (p:=⟨gb159,2,none⟩) (Kd.R_far (p:=⟨gb159,1,none⟩) (Kd.R_far (p:=⟨gb159,0,none⟩) (Kd.R_far (p:=⟨gb168,2,none⟩) (Kd.R_far (p:=⟨gb168,1,none⟩) (Kd.R_far (p:=⟨gb168,0,none⟩) (Kd.R_types (Kd.R_types HO164.out BK168.out (by decide)) BK159.out (by decide)) (fun _ hk=>hk.1.2) (.slice Ao34 t162.length co34)) (fun _ hk=>hk.1.2) (.int .i64 t165)) (fun _ hk=>hk.1.2) (.bool true)) (fun _ hk=>hk.2) (.slice Ao34 t162.length co34)) (fun _ hk=>hk.2) (.int .i64 t165)) (fun _ hk=>hk.2) (.bool true)) (fun _ hk=>trivial)⟩,⟨by(with_reducible repeat (first|refine blk_drewN ?_ _|refine blk_drew ?_|refine blk_alloc ?_ _));refine blk_far ?_ NB152_159.out _;(with_reducible repeat (first|refine blk_drewN ?_ _|refine blk_drew ?_|refine blk_alloc ?_ _));refine blk_far ?_ NB152_159.out _;(with_reducible repeat (first|refine blk_drewN ?_ _|refine blk_drew ?_|refine blk_alloc ?_ _));refine blk_far ?_ NB152_159.out _;(with_reducible repeat (first|refine blk_drewN ?_ _|refine blk_drew ?_|refine blk_alloc ?_ _));refine blk_far ?_ NB152_168.out _;(with_reducible repeat (first|refine blk_drewN ?_ _|refine blk_drew ?_|refine blk_alloc ?_ _));refine blk_far ?_ NB152_168.out _;(with_reducible repeat (first|refine blk_drewN ?_ _|refine blk_drew ?_|refine blk_alloc ?_ _));refine blk_far ?_ NB152_168.out _;(with_reducible repeat (first|refine blk_drewN ?_ _|refine blk_drew ?_|refine blk_alloc ?_ _));exact BK152.out⟩,⟨by(with_reducible repeat (first|refine blk_drewN ?_ _|refine blk_drew ?_|refine blk_alloc ?_ _));refine blk_put (cs:=#[.slice Ao34 t162.length co34,.int .i64 t165,.bool true]) ?_ 2 _ rfl;(with_reducible repeat (first|refine blk_drewN ?_ _|refine blk_drew ?_|refine blk_alloc ?_ _));refine blk_put (cs:=#[.slice Ao34 t162.length co34,.int .i64 x160001_2,.bool true]) ?_ 1 _ rfl;(with_reducible repeat (first|refine blk_drewN ?_ _|refine blk_drew ?_|refine blk_alloc ?_ _));refine blk_put (cs:=#[.slice Ao31 x160000_2.length co31,.int .i64 x160001_2,.bool true]) ?_ 0 _ rfl;(with_reducible repeat (first|refine blk_drewN ?_ _|refine blk_drew ?_|refine blk_alloc ?_ _));refine blk_far ?_ NB159_168.out _;(with_reducible repeat (first|refine blk_drewN ?_ _|refine blk_drew ?_|refine blk_alloc ?_ _));refine blk_far ?_ NB159_168.out _;(with_reducible repeat (first|refine blk_drewN ?_ _|refine blk_drew ?_|refine blk_alloc ?_ _));refine blk_far ?_ NB159_168.out _;(with_reducible repeat (first|refine blk_drewN ?_ _|refine blk_drew ?_|refine blk_alloc ?_ _));exact BK159.out⟩,⟨bS4 GE152.out GE159.out GE161.out GE168.out⟩⟩
           ·replace c24:=Bool.eq_false_iff.mpr c24
            subst c24
            have H1:(spec_PlaySpray.l0 k2 (wrap64 (x38_2+1)) l4 (l4.length:Int) (wrap64 (x38_2+1)) t162 t165 true)=some (r1,r2,r3,r4,r5):=by rw[if_neg (show ¬ (false=true) by decide)] at H;exact H
            clear H
            have H:=H1
            clear H1
            have H':=Aside0.mk H
            clear H
            have p160:0≤(x38_2:Int):=of_decide_eq_true (bD)
            have q160:x38_2 < (l4.length:Int):=of_decide_eq_true (bD)
            obtain⟨ad160,e160,hx160_0,hx160_1⟩:=at_T60 HR4.out x38_2 p160 q160
            cases e160
            replace hx160_0:=(HB.out.cell (World.block_lt_of_cell? w _ hx160_0)).trans hx160_0
            replace hx160_1:=(HB.out.cell (World.block_lt_of_cell? w _ hx160_1)).trans hx160_1
            replace p160:=eq_true p160
            replace q160:=eq_true q160
            go_wp2_with (first|((with_reducible refine gate_dst (N:=17) rfl ?_);(try (refine gate_guard (by rfl) ?_;dsimp only));refine box_event ?hg (N:=17) ?hd (cs:=#[.int .i64 0,.int .i64 0]) (t:=60) ?hr ?_;(case hd=>rfl);(case hg=>rfl);(case hr=>first|(go_simp;done)|(go_simp;rfl));intro gb161 hg w40 hbox hb;have n0_:=Aside0.mk (Kd.R_below (bK HO_160000.out) hb);have n1_:=Aside0.mk (bM BK152.out hb);have n2_:=Aside0.mk (bM BK159.out hb);have n3_:=Aside0.mk (below_step (bS2 GE152.out GE159.out) hb);have n4_:=Aside0.mk (hbox);have n5_:=Aside0.mk ((by rw[hg];exact(below_size (bS2 GE152.out GE159.out)):w.heap.size≤gb161));have n6_:=Aside0.mk ((by rw[hg];exact(below_size (bS2 GE152.out GE159.out)):w.heap.size≤gb161));have n7_:=Aside0.mk ((bN BK152.out hg:gb152≠gb161));have n8_:=Aside0.mk ((bO BK152.out hg:gb161≠gb152));have n9_:=Aside0.mk ((bN BK159.out hg:gb159≠gb161));have n10_:=Aside0.mk ((bO BK159.out hg:gb161≠gb159));clear HO_160000 BK152 BK159 HB;have HO_160000:=n0_;have BK152:=n1_;have BK159:=n2_;have HB:=n3_;have BK161:=n4_;have GW161:=n5_;have GE161:=n6_;have NB152_161:=n7_;have NB161_152:=n8_;have NB159_161:=n9_;have NB161_159:=n10_;clear n0_ n1_ n2_ n3_ n4_ n5_ n6_ n7_ n8_ n9_ n10_;clear hb hbox hg;have hnb41:=NB161_152.out;have hnc41:=NB152_161.out;have hnb42:=NB161_159.out;have hnc42:=NB159_161.out;obtain⟨hcz43_0,hcz43_1⟩:=cC2 BK161.out;obtain⟨hfz43_0,hfz43_1⟩:=cF2 BK161.out;have hnb44:=NB159_152.out;have hnc44:=NB152_159.out;obtain⟨hcz45_0,hcz45_1,hcz45_2⟩:=cC3 BK159.out;obtain⟨hfz45_0,hfz45_1,hfz45_2⟩:=cF3 BK159.out;obtain⟨Ao46,co46,eo46⟩:=Kd.R_slice HO_160000.out;subst eo46)|((with_reducible refine gate_callee (f:=105) rfl ?_);refine goesA (some 46) rfl rfl Try.func105 #[.agg #[.slice Ao46 x160000_2.length co46,.int .i64 x160001_2,.bool false],.agg #[.int .i64 ((rd_T60 l4 x38_2).f0),.int .i64 ((rd_T60 l4 x38_2).f1)]] rfl ?_;(with_reducible refine(spec_l15Meet.calls k2 _ _ x160000_2 x160001_2 false ((rd_T60 l4 x38_2).f0) ((rd_T60 l4 x38_2).f1) t162 t165 true true _ ?side1 ?side2 A21.out).mono ?_);(case side1=>refine(Kd.R_reads' (e:=3) (base:=w.heap.size) (ok:=fun k_=>True) (n:=x160000_2.length) (c:=co46) ?_).2.2;exact(by(with_reducible repeat (first|apply Kd.R_alloc|apply Kd.R_drewN|apply Kd.R_drew));exact(Kd.R_mono (Kd.R_far (p:=⟨gb161,1,none⟩) (Kd.R_far (p:=⟨gb161,0,none⟩) (Kd.R_types HO_160000.out BK161.out (by decide)) (fun _ hk=>hk.2) (.int .i64 ((rd_T60 l4 x38_2).f0))) (fun _ hk=>hk.2) (.int .i64 ((rd_T60 l4 x38_2).f1))) (fun _ h_=>h_.1))));(case side2=>exact(Kd.R_reads' HO_160000.out).2.1);rintro e w47 ⟨v163,rfl,ho0,hb⟩;refine⟨_,rfl,?_⟩;have n0_:=Aside0.mk (Kd.R_elder' (by(with_reducible repeat (first|apply Kd.R_alloc|apply Kd.R_drewN|apply Kd.R_drew));exact(Kd.R_mono (Kd.R_far (p:=⟨gb161,1,none⟩) (Kd.R_far (p:=⟨gb161,0,none⟩) (Kd.R_types HO_160000.out BK161.out (by decide)) (fun _ hk=>hk.2) (.int .i64 ((rd_T60 l4 x38_2).f0))) (fun _ hk=>hk.2) (.int .i64 ((rd_T60 l4 x38_2).f1))) (fun _ h_=>h_.1))) (Kd.R_base ho0) hb);have n1_:=Aside0.mk (Kd.R_lower (Kd.R_new' ho0 (Kd.R_lt (by(with_reducible repeat (first|apply Kd.R_alloc|apply Kd.R_drewN|apply Kd.R_drew));exact(Kd.R_mono (Kd.R_far (p:=⟨gb161,1,none⟩) (Kd.R_far (p:=⟨gb161,0,none⟩) (Kd.R_types HO_160000.out BK161.out (by decide)) (fun _ hk=>hk.2) (.int .i64 ((rd_T60 l4 x38_2).f0))) (fun _ hk=>hk.2) (.int .i64 ((rd_T60 l4 x38_2).f1))) (fun _ h_=>h_.1))))) (below_size (bS3 GE152.out GE159.out GE161.out)));have n2_:=Aside0.mk (blk_below (g:=gb152) (o:=.cells #[.slice none 0 0,.int .i64 x153001_2,.bool x153002_2] 39 (0,0)) (by(with_reducible repeat (first|refine blk_drewN ?_ _|refine blk_drew ?_|refine blk_alloc ?_ _));refine blk_far ?_ NB152_161.out _;(with_reducible repeat (first|refine blk_drewN ?_ _|refine blk_drew ?_|refine blk_alloc ?_ _));refine blk_far ?_ NB152_161.out _;(with_reducible repeat (first|refine blk_drewN ?_ _|refine blk_drew ?_|refine blk_alloc ?_ _));exact BK152.out) hb);have n3_:=Aside0.mk (blk_below (g:=gb159) (o:=.cells #[.slice Ao46 x160000_2.length co46,.int .i64 x160001_2,.bool false] 39 (0,0)) (by(with_reducible repeat (first|refine blk_drewN ?_ _|refine blk_drew ?_|refine blk_alloc ?_ _));refine blk_far ?_ NB159_161.out _;(with_reducible repeat (first|refine blk_drewN ?_ _|refine blk_drew ?_|refine blk_alloc ?_ _));refine blk_far ?_ NB159_161.out _;(with_reducible repeat (first|refine blk_drewN ?_ _|refine blk_drew ?_|refine blk_alloc ?_ _));exact BK159.out) hb);have n4_:=Aside0.mk (blk_below (g:=gb161) (o:=.cells #[.int .i64 ((rd_T60 l4 x38_2).f0),.int .i64 ((rd_T60 l4 x38_2).f1)] 60 (0,0)) (by(with_reducible repeat (first|refine blk_drewN ?_ _|refine blk_drew ?_|refine blk_alloc ?_ _));refine blk_put (cs:=#[.int .i64 ((rd_T60 l4 x38_2).f0),.int .i64 0]) ?_ 1 _ rfl;(with_reducible repeat (first|refine blk_drewN ?_ _|refine blk_drew ?_|refine blk_alloc ?_ _));refine blk_put (cs:=#[.int .i64 0,.int .i64 0]) ?_ 0 _ rfl;(with_reducible repeat (first|refine blk_drewN ?_ _|refine blk_drew ?_|refine blk_alloc ?_ _));exact BK161.out) hb);have n5_:=Aside0.mk (below_step (bS3 GE152.out GE159.out GE161.out) hb);clear HO_160000 BK152 BK159 BK161 HB;have HO_160000:=n0_;have HO164:=n1_;have BK152:=n2_;have BK159:=n3_;have BK161:=n4_;have HB:=n5_;clear n0_ n1_ n2_ n3_ n4_ n5_;(try clear hb);(try clear hb2);(try clear hk);(try clear hi);(try clear ho0))|((with_reducible refine gate_dst (N:=18) rfl ?_);(try (refine gate_guard (by rfl) ?_;dsimp only));refine box_event ?hg (N:=18) ?hd (cs:=#[.slice none 0 0,.int .i64 0,.bool false]) (t:=39) ?hr ?_;(case hd=>rfl);(case hg=>rfl);(case hr=>first|(go_simp;done)|(go_simp;rfl));intro gb168 hg w48 hbox hb;have n0_:=Aside0.mk (Kd.R_below (bK HO_160000.out) hb);have n1_:=Aside0.mk (Kd.R_below (bK HO164.out) hb);have n2_:=Aside0.mk (bM BK152.out hb);have n3_:=Aside0.mk (bM BK159.out hb);have n4_:=Aside0.mk (bM BK161.out hb);have n5_:=Aside0.mk (below_step (bS3 GE152.out GE159.out GE161.out) hb);have n6_:=Aside0.mk (hbox);have n7_:=Aside0.mk ((by rw[hg];exact(below_size (bS3 GE152.out GE159.out GE161.out)):w.heap.size≤gb168));have n8_:=Aside0.mk ((by rw[hg];exact(below_size (bS3 GE152.out GE159.out GE161.out)):w.heap.size≤gb168));have n9_:=Aside0.mk ((bN BK152.out hg:gb152≠gb168));have n10_:=Aside0.mk ((bO BK152.out hg:gb168≠gb152));have n11_:=Aside0.mk ((bN BK159.out hg:gb159≠gb168));have n12_:=Aside0.mk ((bO BK159.out hg:gb168≠gb159));have n13_:=Aside0.mk ((bN BK161.out hg:gb161≠gb168));have n14_:=Aside0.mk ((bO BK161.out hg:gb168≠gb161));clear HO_160000 HO164 BK152 BK159 BK161 HB;have HO_160000:=n0_;have HO164:=n1_;have BK152:=n2_;have BK159:=n3_;have BK161:=n4_;have HB:=n5_;have BK168:=n6_;have GW168:=n7_;have GE168:=n8_;have NB152_168:=n9_;have NB168_152:=n10_;have NB159_168:=n11_;have NB168_159:=n12_;have NB161_168:=n13_;have NB168_161:=n14_;clear n0_ n1_ n2_ n3_ n4_ n5_ n6_ n7_ n8_ n9_ n10_ n11_ n12_ n13_ n14_;clear hb hbox hg;obtain⟨Ao49,co49,eo49⟩:=Kd.R_slice HO164.out;subst eo49;have hnb50:=NB168_152.out;have hnc50:=NB152_168.out;have hnb51:=NB168_159.out;have hnc51:=NB159_168.out;have hnb52:=NB168_161.out;have hnc52:=NB161_168.out;obtain⟨hcz53_0,hcz53_1,hcz53_2⟩:=cC3 BK168.out;obtain⟨hfz53_0,hfz53_1,hfz53_2⟩:=cF3 BK168.out;obtain⟨hcz54_0,hcz54_1,hcz54_2⟩:=cC3 BK159.out;obtain⟨hfz54_0,hfz54_1,hfz54_2⟩:=cF3 BK159.out))
            go_roundg k2
            case measure=>have:=HJ6.out;have:=HK2.out;omega
            case rel=>exact⟨(wrap64 (x38_2+1)),(wrap64 (x38_2+1)),(x153001_2),(x153002_2),(t162),(t165),(true),(.slice Ao49 t162.length co49),(bR),(bR),H',⟨by have:=HJ6.out;have:=HK2.out;omega⟩,⟨by(with_reducible repeat (first|apply Kd.R_alloc|apply Kd.R_drewN|apply Kd.R_drew));exact Kd.R_mono (Kd.R_far (p:=⟨gb159,2,none⟩) (Kd.R_far (p:=⟨gb159,1,none⟩) (Kd.R_far (p:=⟨gb159,0,none⟩) (Kd.R_far (p:=⟨gb168,2,none⟩) (Kd.R_far (p:=⟨gb168,1,none⟩) (Kd.R_far (p:=⟨gb168,0,none⟩) (Kd.R_types (Kd.R_types HO164.out BK168.out (by decide)) BK159.out (by decide)) (fun _ hk=>hk.1.2) (.slice Ao49 t162.length co49)) (fun _ hk=>hk.1.2) (.int .i64 t165)) (fun _ hk=>hk.1.2) (.bool true)) (fun _ hk=>hk.2) (.slice Ao49 t162.length co49)) (fun _ hk=>hk.2) (.int .i64 t165)) (fun _ hk=>hk.2) (.bool true)) (fun _ hk=>trivial)⟩,⟨by(with_reducible repeat (first|refine blk_drewN ?_ _|refine blk_drew ?_|refine blk_alloc ?_ _));refine blk_far ?_ NB152_159.out _;(with_reducible repeat (first|refine blk_drewN ?_ _|refine blk_drew ?_|refine blk_alloc ?_ _));refine blk_far ?_ NB152_159.out _;(with_reducible repeat (first|refine blk_drewN ?_ _|refine blk_drew ?_|refine blk_alloc ?_ _));refine blk_far ?_ NB152_159.out _;(with_reducible repeat (first|refine blk_drewN ?_ _|refine blk_drew ?_|refine blk_alloc ?_ _));refine blk_far ?_ NB152_168.out _;(with_reducible repeat (first|refine blk_drewN ?_ _|refine blk_drew ?_|refine blk_alloc ?_ _));refine blk_far ?_ NB152_168.out _;(with_reducible repeat (first|refine blk_drewN ?_ _|refine blk_drew ?_|refine blk_alloc ?_ _));refine blk_far ?_ NB152_168.out _;(with_reducible repeat (first|refine blk_drewN ?_ _|refine blk_drew ?_|refine blk_alloc ?_ _));exact BK152.out⟩,⟨by(with_reducible repeat (first|refine blk_drewN ?_ _|refine blk_drew ?_|refine blk_alloc ?_ _));refine blk_put (cs:=#[.slice Ao49 t162.length co49,.int .i64 t165,.bool false]) ?_ 2 _ rfl;(with_reducible repeat (first|refine blk_drewN ?_ _|refine blk_drew ?_|refine blk_alloc ?_ _));refine blk_put (cs:=#[.slice Ao49 t162.length co49,.int .i64 x160001_2,.bool false]) ?_ 1 _ rfl;(with_reducible repeat (first|refine blk_drewN ?_ _|refine blk_drew ?_|refine blk_alloc ?_ _));refine blk_put (cs:=#[.slice Ao46 x160000_2.length co46,.int .i64 x160001_2,.bool false]) ?_ 0 _ rfl;(with_reducible repeat (first|refine blk_drewN ?_ _|refine blk_drew ?_|refine blk_alloc ?_ _));refine blk_far ?_ NB159_168.out _;(with_reducible repeat (first|refine blk_drewN ?_ _|refine blk_drew ?_|refine blk_alloc ?_ _));refine blk_far ?_ NB159_168.out _;(with_reducible repeat (first|refine blk_drewN ?_ _|refine blk_drew ?_|refine blk_alloc ?_ _));refine blk_far ?_ NB159_168.out _;(with_reducible repeat (first|refine blk_drewN ?_ _|refine blk_drew ?_|refine blk_alloc ?_ _));exact BK159.out⟩,⟨bS4 GE152.out GE159.out GE161.out GE168.out⟩⟩
          ·replace c23:=Bool.eq_false_iff.mpr c23
           subst c23
           have H1:(spec_PlaySpray.l0 k2 x15_2 l4 (l4.length:Int) (wrap64 (x38_2+1)) t162 t165 false)=some (r1,r2,r3,r4,r5):=by rw[if_neg (show ¬ (false=true) by decide)] at H;exact H
           clear H
           have H:=H1
           clear H1
           have H':=Aside0.mk H
           clear H
           have p160:0≤(x38_2:Int):=of_decide_eq_true (bD)
           have q160:x38_2 < (l4.length:Int):=of_decide_eq_true (bD)
           obtain⟨ad160,e160,hx160_0,hx160_1⟩:=at_T60 HR4.out x38_2 p160 q160
           cases e160
           replace hx160_0:=(HB.out.cell (World.block_lt_of_cell? w _ hx160_0)).trans hx160_0
           replace hx160_1:=(HB.out.cell (World.block_lt_of_cell? w _ hx160_1)).trans hx160_1
           replace p160:=eq_true p160
           replace q160:=eq_true q160
           go_wp2_with (first|((with_reducible refine gate_dst (N:=17) rfl ?_);(try (refine gate_guard (by rfl) ?_;dsimp only));refine box_event ?hg (N:=17) ?hd (cs:=#[.int .i64 0,.int .i64 0]) (t:=60) ?hr ?_;(case hd=>rfl);(case hg=>rfl);(case hr=>first|(go_simp;done)|(go_simp;rfl));intro gb161 hg w55 hbox hb;have n0_:=Aside0.mk (Kd.R_below (bK HO_160000.out) hb);have n1_:=Aside0.mk (bM BK152.out hb);have n2_:=Aside0.mk (bM BK159.out hb);have n3_:=Aside0.mk (below_step (bS2 GE152.out GE159.out) hb);have n4_:=Aside0.mk (hbox);have n5_:=Aside0.mk ((by rw[hg];exact(below_size (bS2 GE152.out GE159.out)):w.heap.size≤gb161));have n6_:=Aside0.mk ((by rw[hg];exact(below_size (bS2 GE152.out GE159.out)):w.heap.size≤gb161));have n7_:=Aside0.mk ((bN BK152.out hg:gb152≠gb161));have n8_:=Aside0.mk ((bO BK152.out hg:gb161≠gb152));have n9_:=Aside0.mk ((bN BK159.out hg:gb159≠gb161));have n10_:=Aside0.mk ((bO BK159.out hg:gb161≠gb159));clear HO_160000 BK152 BK159 HB;have HO_160000:=n0_;have BK152:=n1_;have BK159:=n2_;have HB:=n3_;have BK161:=n4_;have GW161:=n5_;have GE161:=n6_;have NB152_161:=n7_;have NB161_152:=n8_;have NB159_161:=n9_;have NB161_159:=n10_;clear n0_ n1_ n2_ n3_ n4_ n5_ n6_ n7_ n8_ n9_ n10_;clear hb hbox hg;have hnb56:=NB161_152.out;have hnc56:=NB152_161.out;have hnb57:=NB161_159.out;have hnc57:=NB159_161.out;obtain⟨hcz58_0,hcz58_1⟩:=cC2 BK161.out;obtain⟨hfz58_0,hfz58_1⟩:=cF2 BK161.out;have hnb59:=NB159_152.out;have hnc59:=NB152_159.out;obtain⟨hcz60_0,hcz60_1,hcz60_2⟩:=cC3 BK159.out;obtain⟨hfz60_0,hfz60_1,hfz60_2⟩:=cF3 BK159.out;obtain⟨Ao61,co61,eo61⟩:=Kd.R_slice HO_160000.out;subst eo61)|((with_reducible refine gate_callee (f:=105) rfl ?_);refine goesA (some 46) rfl rfl Try.func105 #[.agg #[.slice Ao61 x160000_2.length co61,.int .i64 x160001_2,.bool x160002_2],.agg #[.int .i64 ((rd_T60 l4 x38_2).f0),.int .i64 ((rd_T60 l4 x38_2).f1)]] rfl ?_;(with_reducible refine(spec_l15Meet.calls k2 _ _ x160000_2 x160001_2 x160002_2 ((rd_T60 l4 x38_2).f0) ((rd_T60 l4 x38_2).f1) t162 t165 false true _ ?side1 ?side2 A21.out).mono ?_);(case side1=>refine(Kd.R_reads' (e:=3) (base:=w.heap.size) (ok:=fun k_=>True) (n:=x160000_2.length) (c:=co61) ?_).2.2;exact(by(with_reducible repeat (first|apply Kd.R_alloc|apply Kd.R_drewN|apply Kd.R_drew));exact(Kd.R_mono (Kd.R_far (p:=⟨gb161,1,none⟩) (Kd.R_far (p:=⟨gb161,0,none⟩) (Kd.R_types HO_160000.out BK161.out (by decide)) (fun _ hk=>hk.2) (.int .i64 ((rd_T60 l4 x38_2).f0))) (fun _ hk=>hk.2) (.int .i64 ((rd_T60 l4 x38_2).f1))) (fun _ h_=>h_.1))));(case side2=>exact(Kd.R_reads' HO_160000.out).2.1);rintro e w62 ⟨v163,rfl,ho0,hb⟩;refine⟨_,rfl,?_⟩;have n0_:=Aside0.mk (Kd.R_elder' (by(with_reducible repeat (first|apply Kd.R_alloc|apply Kd.R_drewN|apply Kd.R_drew));exact(Kd.R_mono (Kd.R_far (p:=⟨gb161,1,none⟩) (Kd.R_far (p:=⟨gb161,0,none⟩) (Kd.R_types HO_160000.out BK161.out (by decide)) (fun _ hk=>hk.2) (.int .i64 ((rd_T60 l4 x38_2).f0))) (fun _ hk=>hk.2) (.int .i64 ((rd_T60 l4 x38_2).f1))) (fun _ h_=>h_.1))) (Kd.R_base ho0) hb);have n1_:=Aside0.mk (Kd.R_lower (Kd.R_new' ho0 (Kd.R_lt (by(with_reducible repeat (first|apply Kd.R_alloc|apply Kd.R_drewN|apply Kd.R_drew));exact(Kd.R_mono (Kd.R_far (p:=⟨gb161,1,none⟩) (Kd.R_far (p:=⟨gb161,0,none⟩) (Kd.R_types HO_160000.out BK161.out (by decide)) (fun _ hk=>hk.2) (.int .i64 ((rd_T60 l4 x38_2).f0))) (fun _ hk=>hk.2) (.int .i64 ((rd_T60 l4 x38_2).f1))) (fun _ h_=>h_.1))))) (below_size (bS3 GE152.out GE159.out GE161.out)));have n2_:=Aside0.mk (blk_below (g:=gb152) (o:=.cells #[.slice none 0 0,.int .i64 x153001_2,.bool x153002_2] 39 (0,0)) (by(with_reducible repeat (first|refine blk_drewN ?_ _|refine blk_drew ?_|refine blk_alloc ?_ _));refine blk_far ?_ NB152_161.out _;(with_reducible repeat (first|refine blk_drewN ?_ _|refine blk_drew ?_|refine blk_alloc ?_ _));refine blk_far ?_ NB152_161.out _;(with_reducible repeat (first|refine blk_drewN ?_ _|refine blk_drew ?_|refine blk_alloc ?_ _));exact BK152.out) hb);have n3_:=Aside0.mk (blk_below (g:=gb159) (o:=.cells #[.slice Ao61 x160000_2.length co61,.int .i64 x160001_2,.bool x160002_2] 39 (0,0)) (by(with_reducible repeat (first|refine blk_drewN ?_ _|refine blk_drew ?_|refine blk_alloc ?_ _));refine blk_far ?_ NB159_161.out _;(with_reducible repeat (first|refine blk_drewN ?_ _|refine blk_drew ?_|refine blk_alloc ?_ _));refine blk_far ?_ NB159_161.out _;(with_reducible repeat (first|refine blk_drewN ?_ _|refine blk_drew ?_|refine blk_alloc ?_ _));exact BK159.out) hb);have n4_:=Aside0.mk (blk_below (g:=gb161) (o:=.cells #[.int .i64 ((rd_T60 l4 x38_2).f0),.int .i64 ((rd_T60 l4 x38_2).f1)] 60 (0,0)) (by(with_reducible repeat (first|refine blk_drewN ?_ _|refine blk_drew ?_|refine blk_alloc ?_ _));refine blk_put (cs:=#[.int .i64 ((rd_T60 l4 x38_2).f0),.int .i64 0]) ?_ 1 _ rfl;(with_reducible repeat (first|refine blk_drewN ?_ _|refine blk_drew ?_|refine blk_alloc ?_ _));refine blk_put (cs:=#[.int .i64 0,.int .i64 0]) ?_ 0 _ rfl;(with_reducible repeat (first|refine blk_drewN ?_ _|refine blk_drew ?_|refine blk_alloc ?_ _));exact BK161.out) hb);have n5_:=Aside0.mk (below_step (bS3 GE152.out GE159.out GE161.out) hb);clear HO_160000 BK152 BK159 BK161 HB;have HO_160000:=n0_;have HO164:=n1_;have BK152:=n2_;have BK159:=n3_;have BK161:=n4_;have HB:=n5_;clear n0_ n1_ n2_ n3_ n4_ n5_;(try clear hb);(try clear hb2);(try clear hk);(try clear hi);(try clear ho0))|((with_reducible refine gate_dst (N:=18) rfl ?_);(try (refine gate_guard (by rfl) ?_;dsimp only));refine box_event ?hg (N:=18) ?hd (cs:=#[.slice none 0 0,.int .i64 0,.bool false]) (t:=39) ?hr ?_;(case hd=>rfl);(case hg=>rfl);(case hr=>first|(go_simp;done)|(go_simp;rfl));intro gb168 hg w63 hbox hb;have n0_:=Aside0.mk (Kd.R_below (bK HO_160000.out) hb);have n1_:=Aside0.mk (Kd.R_below (bK HO164.out) hb);have n2_:=Aside0.mk (bM BK152.out hb);have n3_:=Aside0.mk (bM BK159.out hb);have n4_:=Aside0.mk (bM BK161.out hb);have n5_:=Aside0.mk (below_step (bS3 GE152.out GE159.out GE161.out) hb);have n6_:=Aside0.mk (hbox);have n7_:=Aside0.mk ((by rw[hg];exact(below_size (bS3 GE152.out GE159.out GE161.out)):w.heap.size≤gb168));have n8_:=Aside0.mk ((by rw[hg];exact(below_size (bS3 GE152.out GE159.out GE161.out)):w.heap.size≤gb168));have n9_:=Aside0.mk ((bN BK152.out hg:gb152≠gb168));have n10_:=Aside0.mk ((bO BK152.out hg:gb168≠gb152));have n11_:=Aside0.mk ((bN BK159.out hg:gb159≠gb168));have n12_:=Aside0.mk ((bO BK159.out hg:gb168≠gb159));have n13_:=Aside0.mk ((bN BK161.out hg:gb161≠gb168));have n14_:=Aside0.mk ((bO BK161.out hg:gb168≠gb161));clear HO_160000 HO164 BK152 BK159 BK161 HB;have HO_160000:=n0_;have HO164:=n1_;have BK152:=n2_;have BK159:=n3_;have BK161:=n4_;have HB:=n5_;have BK168:=n6_;have GW168:=n7_;have GE168:=n8_;have NB152_168:=n9_;have NB168_152:=n10_;have NB159_168:=n11_;have NB168_159:=n12_;have NB161_168:=n13_;have NB168_161:=n14_;clear n0_ n1_ n2_ n3_ n4_ n5_ n6_ n7_ n8_ n9_ n10_ n11_ n12_ n13_ n14_;clear hb hbox hg;obtain⟨Ao64,co64,eo64⟩:=Kd.R_slice HO164.out;subst eo64;have hnb65:=NB168_152.out;have hnc65:=NB152_168.out;have hnb66:=NB168_159.out;have hnc66:=NB159_168.out;have hnb67:=NB168_161.out;have hnc67:=NB161_168.out;obtain⟨hcz68_0,hcz68_1,hcz68_2⟩:=cC3 BK168.out;obtain⟨hfz68_0,hfz68_1,hfz68_2⟩:=cF3 BK168.out;obtain⟨hcz69_0,hcz69_1,hcz69_2⟩:=cC3 BK159.out;obtain⟨hfz69_0,hfz69_1,hfz69_2⟩:=cF3 BK159.out))
           go_roundg k2
           case measure=>have:=HJ6.out;have:=HK2.out;omega
           case rel=>exact⟨(x15_2),(wrap64 (x38_2+1)),(x153001_2),(x153002_2),(t162),(t165),(false),(.slice Ao64 t162.length co64),(bR),(bR),H',⟨by have:=HJ6.out;have:=HK2.out;omega⟩,⟨by(with_reducible repeat (first|apply Kd.R_alloc|apply Kd.R_drewN|apply Kd.R_drew));exact Kd.R_mono (Kd.R_far (p:=⟨gb159,2,none⟩) (Kd.R_far (p:=⟨gb159,1,none⟩) (Kd.R_far (p:=⟨gb159,0,none⟩) (Kd.R_far (p:=⟨gb168,2,none⟩) (Kd.R_far (p:=⟨gb168,1,none⟩) (Kd.R_far (p:=⟨gb168,0,none⟩) (Kd.R_types (Kd.R_types HO164.out BK168.out (by decide)) BK159.out (by decide)) (fun _ hk=>hk.1.2) (.slice Ao64 t162.length co64)) (fun _ hk=>hk.1.2) (.int .i64 t165)) (fun _ hk=>hk.1.2) (.bool false)) (fun _ hk=>hk.2) (.slice Ao64 t162.length co64)) (fun _ hk=>hk.2) (.int .i64 t165)) (fun _ hk=>hk.2) (.bool false)) (fun _ hk=>trivial)⟩,⟨by(with_reducible repeat (first|refine blk_drewN ?_ _|refine blk_drew ?_|refine blk_alloc ?_ _));refine blk_far ?_ NB152_159.out _;(with_reducible repeat (first|refine blk_drewN ?_ _|refine blk_drew ?_|refine blk_alloc ?_ _));refine blk_far ?_ NB152_159.out _;(with_reducible repeat (first|refine blk_drewN ?_ _|refine blk_drew ?_|refine blk_alloc ?_ _));refine blk_far ?_ NB152_159.out _;(with_reducible repeat (first|refine blk_drewN ?_ _|refine blk_drew ?_|refine blk_alloc ?_ _));refine blk_far ?_ NB152_168.out _;(with_reducible repeat (first|refine blk_drewN ?_ _|refine blk_drew ?_|refine blk_alloc ?_ _));refine blk_far ?_ NB152_168.out _;(with_reducible repeat (first|refine blk_drewN ?_ _|refine blk_drew ?_|refine blk_alloc ?_ _));refine blk_far ?_ NB152_168.out _;(with_reducible repeat (first|refine blk_drewN ?_ _|refine blk_drew ?_|refine blk_alloc ?_ _));exact BK152.out⟩,⟨by(with_reducible repeat (first|refine blk_drewN ?_ _|refine blk_drew ?_|refine blk_alloc ?_ _));refine blk_put (cs:=#[.slice Ao64 t162.length co64,.int .i64 t165,.bool x160002_2]) ?_ 2 _ rfl;(with_reducible repeat (first|refine blk_drewN ?_ _|refine blk_drew ?_|refine blk_alloc ?_ _));refine blk_put (cs:=#[.slice Ao64 t162.length co64,.int .i64 x160001_2,.bool x160002_2]) ?_ 1 _ rfl;(with_reducible repeat (first|refine blk_drewN ?_ _|refine blk_drew ?_|refine blk_alloc ?_ _));refine blk_put (cs:=#[.slice Ao61 x160000_2.length co61,.int .i64 x160001_2,.bool x160002_2]) ?_ 0 _ rfl;(with_reducible repeat (first|refine blk_drewN ?_ _|refine blk_drew ?_|refine blk_alloc ?_ _));refine blk_far ?_ NB159_168.out _;(with_reducible repeat (first|refine blk_drewN ?_ _|refine blk_drew ?_|refine blk_alloc ?_ _));refine blk_far ?_ NB159_168.out _;(with_reducible repeat (first|refine blk_drewN ?_ _|refine blk_drew ?_|refine blk_alloc ?_ _));refine blk_far ?_ NB159_168.out _;(with_reducible repeat (first|refine blk_drewN ?_ _|refine blk_drew ?_|refine blk_alloc ?_ _));exact BK159.out⟩,⟨bS4 GE152.out GE159.out GE161.out GE168.out⟩⟩
         ·replace c22:=Bool.eq_false_iff.mpr c22
          subst c22
          have H1:(some (([]:List Int),0,false,0,false))=some (r1,r2,r3,r4,r5):=by rw[if_neg (show ¬ (false=true) by decide)] at H;exact H
          clear H
          have H:=H1
          clear H1
          simp only[Option.some.injEq,Prod.mk.injEq] at H
          obtain⟨rfl,rfl,rfl,rfl,rfl⟩:=H
          have p160:0≤(x38_2:Int):=of_decide_eq_true (bD)
          have q160:x38_2 < (l4.length:Int):=of_decide_eq_true (bD)
          obtain⟨ad160,e160,hx160_0,hx160_1⟩:=at_T60 HR4.out x38_2 p160 q160
          cases e160
          replace hx160_0:=(HB.out.cell (World.block_lt_of_cell? w _ hx160_0)).trans hx160_0
          replace hx160_1:=(HB.out.cell (World.block_lt_of_cell? w _ hx160_1)).trans hx160_1
          replace p160:=eq_true p160
          replace q160:=eq_true q160
          go_wp2_with (first|((with_reducible refine gate_dst (N:=17) rfl ?_);(try (refine gate_guard (by rfl) ?_;dsimp only));refine box_event ?hg (N:=17) ?hd (cs:=#[.int .i64 0,.int .i64 0]) (t:=60) ?hr ?_;(case hd=>rfl);(case hg=>rfl);(case hr=>first|(go_simp;done)|(go_simp;rfl));intro gb161 hg w70 hbox hb;have n0_:=Aside0.mk (Kd.R_below (bK HO_160000.out) hb);have n1_:=Aside0.mk (bM BK152.out hb);have n2_:=Aside0.mk (bM BK159.out hb);have n3_:=Aside0.mk (below_step (bS2 GE152.out GE159.out) hb);have n4_:=Aside0.mk (hbox);have n5_:=Aside0.mk ((by rw[hg];exact(below_size (bS2 GE152.out GE159.out)):w.heap.size≤gb161));have n6_:=Aside0.mk ((by rw[hg];exact(below_size (bS2 GE152.out GE159.out)):w.heap.size≤gb161));have n7_:=Aside0.mk ((bN BK152.out hg:gb152≠gb161));have n8_:=Aside0.mk ((bO BK152.out hg:gb161≠gb152));have n9_:=Aside0.mk ((bN BK159.out hg:gb159≠gb161));have n10_:=Aside0.mk ((bO BK159.out hg:gb161≠gb159));clear HO_160000 BK152 BK159 HB;have HO_160000:=n0_;have BK152:=n1_;have BK159:=n2_;have HB:=n3_;have BK161:=n4_;have GW161:=n5_;have GE161:=n6_;have NB152_161:=n7_;have NB161_152:=n8_;have NB159_161:=n9_;have NB161_159:=n10_;clear n0_ n1_ n2_ n3_ n4_ n5_ n6_ n7_ n8_ n9_ n10_;clear hb hbox hg;have hnb71:=NB161_152.out;have hnc71:=NB152_161.out;have hnb72:=NB161_159.out;have hnc72:=NB159_161.out;obtain⟨hcz73_0,hcz73_1⟩:=cC2 BK161.out;obtain⟨hfz73_0,hfz73_1⟩:=cF2 BK161.out;have hnb74:=NB159_152.out;have hnc74:=NB152_159.out;obtain⟨hcz75_0,hcz75_1,hcz75_2⟩:=cC3 BK159.out;obtain⟨hfz75_0,hfz75_1,hfz75_2⟩:=cF3 BK159.out;obtain⟨Ao76,co76,eo76⟩:=Kd.R_slice HO_160000.out;subst eo76)|((with_reducible refine gate_callee (f:=105) rfl ?_);refine goesA (some 46) rfl rfl Try.func105 #[.agg #[.slice Ao76 x160000_2.length co76,.int .i64 x160001_2,.bool x160002_2],.agg #[.int .i64 ((rd_T60 l4 x38_2).f0),.int .i64 ((rd_T60 l4 x38_2).f1)]] rfl ?_;(with_reducible refine(spec_l15Meet.calls k2 _ _ x160000_2 x160001_2 x160002_2 ((rd_T60 l4 x38_2).f0) ((rd_T60 l4 x38_2).f1) t162 t165 t166 false _ ?side1 ?side2 A21.out).mono ?_);(case side1=>refine(Kd.R_reads' (e:=3) (base:=w.heap.size) (ok:=fun k_=>True) (n:=x160000_2.length) (c:=co76) ?_).2.2;exact(by(with_reducible repeat (first|apply Kd.R_alloc|apply Kd.R_drewN|apply Kd.R_drew));exact(Kd.R_mono (Kd.R_far (p:=⟨gb161,1,none⟩) (Kd.R_far (p:=⟨gb161,0,none⟩) (Kd.R_types HO_160000.out BK161.out (by decide)) (fun _ hk=>hk.2) (.int .i64 ((rd_T60 l4 x38_2).f0))) (fun _ hk=>hk.2) (.int .i64 ((rd_T60 l4 x38_2).f1))) (fun _ h_=>h_.1))));(case side2=>exact(Kd.R_reads' HO_160000.out).2.1);rintro e w77 ⟨v163,rfl,ho0,hb⟩;refine⟨_,rfl,?_⟩;have n0_:=Aside0.mk (Kd.R_elder' (by(with_reducible repeat (first|apply Kd.R_alloc|apply Kd.R_drewN|apply Kd.R_drew));exact(Kd.R_mono (Kd.R_far (p:=⟨gb161,1,none⟩) (Kd.R_far (p:=⟨gb161,0,none⟩) (Kd.R_types HO_160000.out BK161.out (by decide)) (fun _ hk=>hk.2) (.int .i64 ((rd_T60 l4 x38_2).f0))) (fun _ hk=>hk.2) (.int .i64 ((rd_T60 l4 x38_2).f1))) (fun _ h_=>h_.1))) (Kd.R_base ho0) hb);have n1_:=Aside0.mk (Kd.R_lower (Kd.R_new' ho0 (Kd.R_lt (by(with_reducible repeat (first|apply Kd.R_alloc|apply Kd.R_drewN|apply Kd.R_drew));exact(Kd.R_mono (Kd.R_far (p:=⟨gb161,1,none⟩) (Kd.R_far (p:=⟨gb161,0,none⟩) (Kd.R_types HO_160000.out BK161.out (by decide)) (fun _ hk=>hk.2) (.int .i64 ((rd_T60 l4 x38_2).f0))) (fun _ hk=>hk.2) (.int .i64 ((rd_T60 l4 x38_2).f1))) (fun _ h_=>h_.1))))) (below_size (bS3 GE152.out GE159.out GE161.out)));have n2_:=Aside0.mk (blk_below (g:=gb152) (o:=.cells #[.slice none 0 0,.int .i64 x153001_2,.bool x153002_2] 39 (0,0)) (by(with_reducible repeat (first|refine blk_drewN ?_ _|refine blk_drew ?_|refine blk_alloc ?_ _));refine blk_far ?_ NB152_161.out _;(with_reducible repeat (first|refine blk_drewN ?_ _|refine blk_drew ?_|refine blk_alloc ?_ _));refine blk_far ?_ NB152_161.out _;(with_reducible repeat (first|refine blk_drewN ?_ _|refine blk_drew ?_|refine blk_alloc ?_ _));exact BK152.out) hb);have n3_:=Aside0.mk (blk_below (g:=gb159) (o:=.cells #[.slice Ao76 x160000_2.length co76,.int .i64 x160001_2,.bool x160002_2] 39 (0,0)) (by(with_reducible repeat (first|refine blk_drewN ?_ _|refine blk_drew ?_|refine blk_alloc ?_ _));refine blk_far ?_ NB159_161.out _;(with_reducible repeat (first|refine blk_drewN ?_ _|refine blk_drew ?_|refine blk_alloc ?_ _));refine blk_far ?_ NB159_161.out _;(with_reducible repeat (first|refine blk_drewN ?_ _|refine blk_drew ?_|refine blk_alloc ?_ _));exact BK159.out) hb);have n4_:=Aside0.mk (blk_below (g:=gb161) (o:=.cells #[.int .i64 ((rd_T60 l4 x38_2).f0),.int .i64 ((rd_T60 l4 x38_2).f1)] 60 (0,0)) (by(with_reducible repeat (first|refine blk_drewN ?_ _|refine blk_drew ?_|refine blk_alloc ?_ _));refine blk_put (cs:=#[.int .i64 ((rd_T60 l4 x38_2).f0),.int .i64 0]) ?_ 1 _ rfl;(with_reducible repeat (first|refine blk_drewN ?_ _|refine blk_drew ?_|refine blk_alloc ?_ _));refine blk_put (cs:=#[.int .i64 0,.int .i64 0]) ?_ 0 _ rfl;(with_reducible repeat (first|refine blk_drewN ?_ _|refine blk_drew ?_|refine blk_alloc ?_ _));exact BK161.out) hb);have n5_:=Aside0.mk (below_step (bS3 GE152.out GE159.out GE161.out) hb);clear HO_160000 BK152 BK159 BK161 HB;have HO_160000:=n0_;have HO164:=n1_;have BK152:=n2_;have BK159:=n3_;have BK161:=n4_;have HB:=n5_;clear n0_ n1_ n2_ n3_ n4_ n5_;(try clear hb);(try clear hb2);(try clear hk);(try clear hi);(try clear ho0))|((with_reducible refine gate_dst (N:=18) rfl ?_);(try (refine gate_guard (by rfl) ?_;dsimp only));refine box_event ?hg (N:=18) ?hd (cs:=#[.slice none 0 0,.int .i64 0,.bool false]) (t:=39) ?hr ?_;(case hd=>rfl);(case hg=>rfl);(case hr=>first|(go_simp;done)|(go_simp;rfl));intro gb168 hg w78 hbox hb;have n0_:=Aside0.mk (Kd.R_below (bK HO_160000.out) hb);have n1_:=Aside0.mk (Kd.R_below (bK HO164.out) hb);have n2_:=Aside0.mk (bM BK152.out hb);have n3_:=Aside0.mk (bM BK159.out hb);have n4_:=Aside0.mk (bM BK161.out hb);have n5_:=Aside0.mk (below_step (bS3 GE152.out GE159.out GE161.out) hb);have n6_:=Aside0.mk (hbox);have n7_:=Aside0.mk ((by rw[hg];exact(below_size (bS3 GE152.out GE159.out GE161.out)):w.heap.size≤gb168));have n8_:=Aside0.mk ((by rw[hg];exact(below_size (bS3 GE152.out GE159.out GE161.out)):w.heap.size≤gb168));have n9_:=Aside0.mk ((bN BK152.out hg:gb152≠gb168));have n10_:=Aside0.mk ((bO BK152.out hg:gb168≠gb152));have n11_:=Aside0.mk ((bN BK159.out hg:gb159≠gb168));have n12_:=Aside0.mk ((bO BK159.out hg:gb168≠gb159));have n13_:=Aside0.mk ((bN BK161.out hg:gb161≠gb168));have n14_:=Aside0.mk ((bO BK161.out hg:gb168≠gb161));clear HO_160000 HO164 BK152 BK159 BK161 HB;have HO_160000:=n0_;have HO164:=n1_;have BK152:=n2_;have BK159:=n3_;have BK161:=n4_;have HB:=n5_;have BK168:=n6_;have GW168:=n7_;have GE168:=n8_;have NB152_168:=n9_;have NB168_152:=n10_;have NB159_168:=n11_;have NB168_159:=n12_;have NB161_168:=n13_;have NB168_161:=n14_;clear n0_ n1_ n2_ n3_ n4_ n5_ n6_ n7_ n8_ n9_ n10_ n11_ n12_ n13_ n14_;clear hb hbox hg;obtain⟨Ao79,co79,eo79⟩:=Kd.R_slice HO164.out;subst eo79;have hnb80:=NB168_152.out;have hnc80:=NB152_168.out;have hnb81:=NB168_159.out;have hnc81:=NB159_168.out;have hnb82:=NB168_161.out;have hnc82:=NB161_168.out;obtain⟨hcz83_0,hcz83_1,hcz83_2⟩:=cC3 BK168.out;obtain⟨hfz83_0,hfz83_1,hfz83_2⟩:=cF3 BK168.out;obtain⟨hcz84_0,hcz84_1,hcz84_2⟩:=cC3 BK152.out;obtain⟨hfz84_0,hfz84_1,hfz84_2⟩:=cF3 BK152.out))
          refine bodyPost_ret (results_ctt rfl _ _ gb152 39 #[.slice none 0 0,.int .i64 0,.bool false] (0,0) _ rfl (by(with_reducible repeat (first|refine blk_drewN ?_ _|refine blk_drew ?_|refine blk_alloc ?_ _));refine blk_put (cs:=#[.slice none 0 0,.int .i64 0,.bool x153002_2]) ?_ 2 _ rfl;(with_reducible repeat (first|refine blk_drewN ?_ _|refine blk_drew ?_|refine blk_alloc ?_ _));refine blk_put (cs:=#[.slice none 0 0,.int .i64 x153001_2,.bool x153002_2]) ?_ 1 _ rfl;(with_reducible repeat (first|refine blk_drewN ?_ _|refine blk_drew ?_|refine blk_alloc ?_ _));refine blk_put (cs:=#[.slice none 0 0,.int .i64 x153001_2,.bool x153002_2]) ?_ 0 _ rfl;(with_reducible repeat (first|refine blk_drewN ?_ _|refine blk_drew ?_|refine blk_alloc ?_ _));refine blk_far ?_ NB152_168.out _;(with_reducible repeat (first|refine blk_drewN ?_ _|refine blk_drew ?_|refine blk_alloc ?_ _));refine blk_far ?_ NB152_168.out _;(with_reducible repeat (first|refine blk_drewN ?_ _|refine blk_drew ?_|refine blk_alloc ?_ _));refine blk_far ?_ NB152_168.out _;(with_reducible repeat (first|refine blk_drewN ?_ _|refine blk_drew ?_|refine blk_alloc ?_ _));exact BK152.out) Try.underlying39 rfl (by kernel_rfl)) rfl ?_
          exact⟨_,by first|rfl|(simp[errW_none,errW_some]<;>rfl)|(simp[*,errW_none,errW_some]<;>rfl),by first|exact Kd.R_nil _ _ _ _ _|exact Kd.N_nil _ _ _ _ _|exact Kd.V_nil _ _ _ _ _|exact Kd.Q_nil _ _ _ _ _|exact Kd.S_nil _ _ _ _ _,bS4 GE152.out GE159.out GE161.out GE168.out⟩
        ·rw[if_neg c20] at H
         exact absurd H (by simp)
       ·rw[if_neg c19] at H
        exact absurd H (by simp)
      ·rw[if_neg c18] at H
       have c18b0:decide (x38_2 < (l4.length:Int))=false:=decide_eq_false c18
       clear c18
       simp only[Option.some.injEq,Prod.mk.injEq] at H
       obtain⟨rfl,rfl,rfl,rfl,rfl⟩:=H
       have hnb85:=NB159_152.out
       have hnc85:=NB152_159.out
       obtain⟨hcz86_0,hcz86_1,hcz86_2⟩:=cC3 BK159.out
       obtain⟨hfz86_0,hfz86_1,hfz86_2⟩:=cF3 BK159.out
       obtain⟨Ao87,co87,eo87⟩:=Kd.R_slice HO_160000.out
       subst eo87
       obtain⟨hcz88_0,hcz88_1,hcz88_2⟩:=cC3 BK152.out
       obtain⟨hfz88_0,hfz88_1,hfz88_2⟩:=cF3 BK152.out
       go_wp2
       refine bodyPost_ret (results_ctt rfl _ _ gb152 39 #[.slice Ao87 x160000_2.length co87,.int .i64 x160001_2,.bool x160002_2] (0,0) _ rfl (by(with_reducible repeat (first|refine blk_drewN ?_ _|refine blk_drew ?_|refine blk_alloc ?_ _));refine blk_put (cs:=#[.slice Ao87 x160000_2.length co87,.int .i64 x160001_2,.bool x153002_2]) ?_ 2 _ rfl;(with_reducible repeat (first|refine blk_drewN ?_ _|refine blk_drew ?_|refine blk_alloc ?_ _));refine blk_put (cs:=#[.slice Ao87 x160000_2.length co87,.int .i64 x153001_2,.bool x153002_2]) ?_ 1 _ rfl;(with_reducible repeat (first|refine blk_drewN ?_ _|refine blk_drew ?_|refine blk_alloc ?_ _));refine blk_put (cs:=#[.slice none 0 0,.int .i64 x153001_2,.bool x153002_2]) ?_ 0 _ rfl;(with_reducible repeat (first|refine blk_drewN ?_ _|refine blk_drew ?_|refine blk_alloc ?_ _));exact BK152.out) Try.underlying39 rfl (by kernel_rfl)) rfl ?_
       exact⟨_,by first|rfl|(simp[errW_none,errW_some]<;>rfl)|(simp[*,errW_none,errW_some]<;>rfl),by(with_reducible repeat (first|apply Kd.R_alloc|apply Kd.R_drewN|apply Kd.R_drew));exact Kd.R_mono (Kd.R_far (p:=⟨gb152,2,none⟩) (Kd.R_far (p:=⟨gb152,1,none⟩) (Kd.R_far (p:=⟨gb152,0,none⟩) (Kd.R_types HO_160000.out BK152.out (by decide)) (fun _ hk=>hk.2) (.slice Ao87 x160000_2.length co87)) (fun _ hk=>hk.2) (.int .i64 x160001_2)) (fun _ hk=>hk.2) (.bool x160002_2)) (fun _ hk=>trivial),bS2 GE152.out GE159.out⟩

/-! ### laws_toMeet: function 38 -/
def laws_toMeet.f (a0_0:Int) (a0_1:Int):Option (Int × Int):=some (a0_0,a0_1)
set_option maxHeartbeats 8000000 in
set_option maxRecDepth 100000 in
theorem laws_toMeet.calls (a0_0:Int) (a0_1:Int) (r1:Int) (r2:Int) (w:World) (h:laws_toMeet.f a0_0 a0_1=some (r1,r2)) :
  Calls Try.prog 38 #[.agg #[.int .i64 a0_0,.int .i64 a0_1]] w fun e w'=>e=.returned (.agg #[.int .i64 r1,.int .i64 r2])∧Below w.heap.size w w':=by
 have hu57:=Try.underlying57
 have hu60:=Try.underlying60
 have HB:=Aside0.mk (Below.refl w.heap.size w)
 have H:(some (a0_0,a0_1))=some (r1,r2):=h
 clear h
 simp only[Option.some.injEq,Prod.mk.injEq] at H
 obtain⟨rfl,rfl⟩:=H
 go_enter Try.func38,Try.ntmps38
 go_wp2_with (first|((with_reducible refine gate_dst (N:=1) rfl ?_);refine box_event ?hg (N:=1) ?hd (cs:=#[.int .i64 a0_0,.int .i64 a0_1]) (t:=57) ?hr ?_;(case hd=>rfl);(case hg=>rfl);(case hr=>first|(go_simp;done)|(go_simp;rfl));intro gb169 hg w2 hbox hb;have n0_:=Aside0.mk (below_step (bB) hb);have n1_:=Aside0.mk (hbox);have n2_:=Aside0.mk ((bG:w.heap.size≤gb169));have n3_:=Aside0.mk ((bG:w.heap.size≤gb169));clear HB;have HB:=n0_;have BK169:=n1_;have GW169:=n2_;have GE169:=n3_;clear n0_ n1_ n2_ n3_;clear hb hbox hg)|((with_reducible refine gate_dst (N:=2) rfl ?_);refine box_event ?hg (N:=2) ?hd (cs:=#[.int .i64 0,.int .i64 0]) (t:=60) ?hr ?_;(case hd=>rfl);(case hg=>rfl);(case hr=>first|(go_simp;done)|(go_simp;rfl));intro gb170 hg w3 hbox hb;have n0_:=Aside0.mk (bM BK169.out hb);have n1_:=Aside0.mk (below_step (bS GE169.out) hb);have n2_:=Aside0.mk (hbox);have n3_:=Aside0.mk ((by rw[hg];exact(below_size (bS GE169.out)):w.heap.size≤gb170));have n4_:=Aside0.mk ((by rw[hg];exact(below_size (bS GE169.out)):w.heap.size≤gb170));have n5_:=Aside0.mk ((bN BK169.out hg:gb169≠gb170));have n6_:=Aside0.mk ((bO BK169.out hg:gb170≠gb169));clear BK169 HB;have BK169:=n0_;have HB:=n1_;have BK170:=n2_;have GW170:=n3_;have GE170:=n4_;have NB169_170:=n5_;have NB170_169:=n6_;clear n0_ n1_ n2_ n3_ n4_ n5_ n6_;clear hb hbox hg)|((with_reducible refine gate_dst (N:=3) rfl ?_);refine box_event ?hg (N:=3) ?hd (cs:=#[.int .i64 0,.int .i64 0]) (t:=60) ?hr ?_;(case hd=>rfl);(case hg=>rfl);(case hr=>first|(go_simp;done)|(go_simp;rfl));intro gb171 hg w4 hbox hb;have n0_:=Aside0.mk (bM BK169.out hb);have n1_:=Aside0.mk (bM BK170.out hb);have n2_:=Aside0.mk (below_step (bS2 GE169.out GE170.out) hb);have n3_:=Aside0.mk (hbox);have n4_:=Aside0.mk ((by rw[hg];exact(below_size (bS2 GE169.out GE170.out)):w.heap.size≤gb171));have n5_:=Aside0.mk ((by rw[hg];exact(below_size (bS2 GE169.out GE170.out)):w.heap.size≤gb171));have n6_:=Aside0.mk ((bN BK169.out hg:gb169≠gb171));have n7_:=Aside0.mk ((bO BK169.out hg:gb171≠gb169));have n8_:=Aside0.mk ((bN BK170.out hg:gb170≠gb171));have n9_:=Aside0.mk ((bO BK170.out hg:gb171≠gb170));clear BK169 BK170 HB;have BK169:=n0_;have BK170:=n1_;have HB:=n2_;have BK171:=n3_;have GW171:=n4_;have GE171:=n5_;have NB169_171:=n6_;have NB171_169:=n7_;have NB170_171:=n8_;have NB171_170:=n9_;clear n0_ n1_ n2_ n3_ n4_ n5_ n6_ n7_ n8_ n9_;clear hb hbox hg;have hnb5:=NB169_170.out;have hnc5:=NB170_169.out;have hnb6:=NB169_171.out;have hnc6:=NB171_169.out;obtain⟨hcz7_0,hcz7_1⟩:=cC2 BK169.out;obtain⟨hfz7_0,hfz7_1⟩:=cF2 BK169.out;have hnb8:=NB171_170.out;have hnc8:=NB170_171.out;obtain⟨hcz9_0,hcz9_1⟩:=cC2 BK171.out;obtain⟨hfz9_0,hfz9_1⟩:=cF2 BK171.out;obtain⟨hcz10_0,hcz10_1⟩:=cC2 BK170.out;obtain⟨hfz10_0,hfz10_1⟩:=cF2 BK170.out))
 refine bodyPost_ret (results_cell_row rfl _ _ gb170 60 #[.int .i64 a0_0,.int .i64 a0_1] (0,0) _ rfl (by(with_reducible repeat (first|refine blk_drewN ?_ _|refine blk_drew ?_|refine blk_alloc ?_ _));refine blk_put (cs:=#[.int .i64 a0_0,.int .i64 0]) ?_ 1 _ rfl;(with_reducible repeat (first|refine blk_drewN ?_ _|refine blk_drew ?_|refine blk_alloc ?_ _));refine blk_put (cs:=#[.int .i64 0,.int .i64 0]) ?_ 0 _ rfl;(with_reducible repeat (first|refine blk_drewN ?_ _|refine blk_drew ?_|refine blk_alloc ?_ _));refine blk_far ?_ NB170_171.out _;(with_reducible repeat (first|refine blk_drewN ?_ _|refine blk_drew ?_|refine blk_alloc ?_ _));refine blk_far ?_ NB170_171.out _;(with_reducible repeat (first|refine blk_drewN ?_ _|refine blk_drew ?_|refine blk_alloc ?_ _));exact BK170.out) Try.underlying60 rfl (by kernel_rfl)) rfl ?_
 exact⟨bE,bS3 GE169.out GE170.out GE171.out⟩

/-! ### laws_toMeetS: function 70 -/
def laws_toMeetS.l0:Nat→List (S57)→List (S60)→Int→Option ((List (S60)))
 | 0,_,_,_=>none
 | k+1,x0,x3,x4=>if x4 < (x0.length:Int) then (if 0≤x4 then ((laws_toMeet.f ((rd_T57 x0 x4).f0) ((rd_T57 x0 x4).f1)).bind fun bt176=>(if x4 < (x3.length:Int) then (laws_toMeetS.l0 k x0 (x3.set (x4:Int).toNat (⟨bt176.1,bt176.2⟩:S60)) (wrap64 (x4+1))) else (none))) else (none)) else (some x3)
def laws_toMeetS.f (k:Nat) (l0:List (S57)):Option ((List (S60))):=if 0≤(l0.length:Int) then (if ((l0.length:Int):Int).toNat≤17592186044416 then (laws_toMeetS.l0 k l0 (List.replicate ((l0.length:Int):Int).toNat z60) 0) else (none)) else (none)
theorem laws_toMeetS.mono_l : ∀ k,(∀ y0 y1 y2,LeO (laws_toMeetS.l0 k y0 y1 y2) (laws_toMeetS.l0 (k+1) y0 y1 y2))
 | 0=>fun _ _ _ r h=>by simp[laws_toMeetS.l0] at h
 | k+1=>by
  have ih0:=laws_toMeetS.mono_l k
  ·intro y0 y1 y2
   unfold laws_toMeetS.l0
   repeat' first
   | (with_reducible exact ih0 _ _ _)
   | (with_reducible exact LeO.refl _)
   | (with_reducible exact LeO.none _)
   | (with_reducible refine LeO.ite ?_ ?_)
   | (with_reducible refine LeO.bind ?_ (fun _ => ?_))
   | exact ih0 _ _ _
   | exact LeO.none _
   | refine LeO.ite ?_ ?_
   | refine LeO.bind ?_ (fun _ => ?_)
theorem laws_toMeetS.mono : ∀ a0 k,LeO (laws_toMeetS.f k a0) (laws_toMeetS.f (k+1) a0):=by
 intro a0 k
 have ih0:=laws_toMeetS.mono_l k
 unfold laws_toMeetS.f
 repeat' first
  | (with_reducible exact ih0 _ _ _)
  | (with_reducible exact LeO.refl _)
  | (with_reducible exact LeO.none _)
  | (with_reducible refine LeO.ite ?_ ?_)
  | (with_reducible refine LeO.bind ?_ (fun _ => ?_))
  | exact ih0 _ _ _
  | exact LeO.none _
  | refine LeO.ite ?_ ?_
  | refine LeO.bind ?_ (fun _ => ?_)
set_option maxHeartbeats 8000000 in
set_option maxRecDepth 100000 in
theorem laws_toMeetS.calls (k:Nat) (A0:Option Addr) (c0:Nat) (l0:List (S57)) (r:List (S60)) (w:World) (hr0:Kd.C k57 w A0 l0.length l0) (hc0:l0.length≤c0) (h:laws_toMeetS.f k l0=some r) :
  Calls Try.prog 70 #[.slice A0 l0.length c0] w fun e w' => ∃ v0_:Value,e=.returned (v0_)∧Kd.R k60 60 w' w.heap.size (fun _=>True) v0_ r∧Below w.heap.size w w':=by
 have hu57:=Try.underlying57
 have hu60:=Try.underlying60
 have HR0:=Aside0.mk hr0
 have HC0:=Aside0.mk hc0
 clear hr0 hc0
 have HB:=Aside0.mk (Below.refl w.heap.size w)
 have H:(if 0≤(l0.length:Int) then (if ((l0.length:Int):Int).toNat≤17592186044416 then (laws_toMeetS.l0 k l0 (List.replicate ((l0.length:Int):Int).toNat z60) 0) else (none)) else (none))=some r:=h
 clear h
 by_cases c2:0≤(l0.length:Int)
 ·rw[if_pos c2] at H
  have c2b0:=eq_true c2
  have c2b1:decide (0≤(l0.length:Int))=true:=decide_eq_true c2
  clear c2
  by_cases c3:((l0.length:Int):Int).toNat≤17592186044416
  ·rw[if_pos c3] at H
   have c3b0:=eq_true c3
   have c3b1:decide (((l0.length:Int):Int).toNat≤17592186044416)=true:=decide_eq_true c3
   clear c3
   obtain⟨y172,hy172⟩ : ∃ y_:List (S60),y_=(List.replicate ((l0.length:Int):Int).toNat z60):=⟨_,rfl⟩
   replace H:(laws_toMeetS.l0 k l0 y172 0)=some r:=by first|(rw[hy172];with_reducible exact H)|(have H2_:=(Option.bind_some _ _).symm.trans H;rw[hy172];with_reducible exact H2_)|(have H2_:=(Option.bind_some _ _).symm.trans H;with_reducible exact H2_)|with_reducible exact H|(rw[hy172];exact H)|exact H
   have Ny172:=Aside0.mk hy172
   clear hy172
   have H':=Aside0.mk H
   clear H
   go_enter Try.func70,Try.ntmps70
   go_wp2_with (first|((with_reducible refine gate_dst (N:=7) rfl ?_);refine Kd.R_make k60 _ 60 rfl (N:=7) rfl 101 _ _ rfl (l0.length:Int) rfl rfl Try.underlying101 (.agg #[(.int .i64 0),(.int .i64 0)]) 16 info60 rfl (by decide) (by omega) z60 (ok:=fun _=>True) (okp:=fun _=>True) (k60_mkM _ _ _ z60 ) (fun _ hk=>hk) trivial (of_decide_eq_true (bD)) (Nat.le_trans (Nat.mul_le_mul_right _ (of_decide_eq_true (bD):(l0.length:Int).toNat≤17592186044416)) (by omega)) (Below.refl _ _) (Nat.le_refl _) ?_;intro v173 w4 ho5 hb hg_ hnew_;clear hg_ hnew_;(first|rw[← Ny172.out] at ho5|(simp only[Int.reduceToNat] at ho5;rw[← Ny172.out] at ho5));have n0_:=Aside0.mk (Kd.R_lower ho5 (below_size (bB)));have n1_:=Aside0.mk (below_step (bB) hb);clear HB;have HO174:=n0_;have HB:=n1_;clear n0_ n1_;clear hb ho5))
   go_loopg [4] k (fun kq v4 w' => ∃ (x3_1:List (S60)) (x4_1:Int),v4=.int .i64 x4_1∧Aside0 (laws_toMeetS.l0 kq l0 x3_1 x4_1=some r)∧Aside0 (kq≤k)∧Aside0 (Kd.R k60 60 w' w.heap.size (fun _=>True) v173 x3_1)∧Aside0 (Below w.heap.size w w'))
   case atStart=>exact⟨(y172),(0),(bR),H',⟨Nat.le_refl _⟩,⟨by(with_reducible repeat (first|apply Kd.R_alloc|apply Kd.R_drewN|apply Kd.R_drew));exact HO174.out⟩,⟨by repeat (first|(with_reducible first|exact HB.out|apply below_alloc|apply pw_below_drewN|apply below_drew1)|exact HB.out)⟩⟩
   case round =>
    clear H'
    try clear c2
    try clear c2b0
    try clear c2b1
    try clear p2
    try clear c3
    try clear c3b0
    try clear c3b1
    obtain⟨x3_1,x4_1,rfl,HA,HK1,HO_3,HB⟩:=hrel
    cases gk with
    | zero=>exact absurd HA.out (by simp[laws_toMeetS.l0])
    | succ k1 =>
     have H:=HA.out
     clear HA
     simp only[laws_toMeetS.l0] at H
     by_cases c6:x4_1 < (l0.length:Int)
     ·rw[if_pos c6] at H
      have c6b0:decide (x4_1 < (l0.length:Int))=true:=decide_eq_true c6
      clear c6
      by_cases c7:0≤x4_1
      ·rw[if_pos c7] at H
       have c7b0:decide (0≤x4_1)=true:=decide_eq_true c7
       clear c7
       replace H:=Option.bind_eq_some_iff.mp H
       obtain⟨⟨t176,t177⟩,A80,H⟩:=H
       have A8:=Aside0.mk A80
       clear A80
       by_cases c9:x4_1 < (x3_1.length:Int)
       ·rw[if_pos c9] at H
        have c9b0:decide (x4_1 < (x3_1.length:Int))=true:=decide_eq_true c9
        clear c9
        obtain⟨y178,hy178⟩ : ∃ y_:List (S60),y_=(x3_1.set (x4_1:Int).toNat (⟨t176,t177⟩:S60)):=⟨_,rfl⟩
        replace H:(laws_toMeetS.l0 k1 l0 y178 (wrap64 (x4_1+1)))=some r:=by first|(rw[hy178];with_reducible exact H)|(have H2_:=(Option.bind_some _ _).symm.trans H;rw[hy178];with_reducible exact H2_)|(have H2_:=(Option.bind_some _ _).symm.trans H;with_reducible exact H2_)|with_reducible exact H|(rw[hy178];exact H)|exact H
        have Ny178:=Aside0.mk hy178
        clear hy178
        have H':=Aside0.mk H
        clear H
        have p175:0≤(x4_1:Int):=of_decide_eq_true (bD)
        have q175:x4_1 < (l0.length:Int):=of_decide_eq_true (bD)
        obtain⟨ad175,e175,hx175_0,hx175_1⟩:=at_T57 HR0.out x4_1 p175 q175
        cases e175
        replace hx175_0:=(HB.out.cell (World.block_lt_of_cell? w _ hx175_0)).trans hx175_0
        replace hx175_1:=(HB.out.cell (World.block_lt_of_cell? w _ hx175_1)).trans hx175_1
        replace p175:=eq_true p175
        replace q175:=eq_true q175
        go_wp2_with (first|((with_reducible refine gate_callee (f:=38) rfl ?_);refine goesA (some 20) rfl rfl Try.func38 #[.agg #[.int .i64 ((rd_T57 l0 x4_1).f0),.int .i64 ((rd_T57 l0 x4_1).f1)]] rfl ?_;(with_reducible refine(laws_toMeet.calls ((rd_T57 l0 x4_1).f0) ((rd_T57 l0 x4_1).f1) t176 t177 _ A8.out).mono ?_);rintro e w11 ⟨rfl,hb⟩;refine⟨_,rfl,?_⟩;have n0_:=Aside0.mk (Kd.R_below (bK HO_3.out) hb);have n1_:=Aside0.mk (below_step (bB) hb);clear HO_3 HB;have HO_3:=n0_;have HB:=n1_;clear n0_ n1_;(try clear hb);(try clear hb2);(try clear hk);(try clear hi);have p10:0≤(x4_1:Int):=of_decide_eq_true (bD);have q10:(x4_1:Int) < ((x3_1.length:Int):Int):=of_decide_eq_true (bD);obtain⟨go10,co10,eo10,gb10,gl10,cl10,HG10⟩:=Kd.R_form HO_3.out (by omega);(first|cases eo10|(injection eo10 with ea_ en_ ec_;(first|subst ea_|(injection ea_ with ea_;subst ea_));subst ec_;clear en_));have GB10:=Aside0.mk gb10;have GG10:=Aside0.mk HG10;clear gb10 gl10 HG10;obtain⟨ce10,hcl10,hM10,hcc10,hfr10⟩:=Kd.R_elem HO_3.out z60 (x4_1:Int) p10 q10;obtain rfl:=k60_openM hM10;have hx10_0:w11.cell? ⟨go10,(x4_1:Int).toNat * 2,none⟩=some (.int .i64 ((rd_T60 x3_1 x4_1).f0)):=hcc10 0 _ rfl;have hx10_1:w11.cell? ⟨go10,(x4_1:Int).toNat * 2+1,none⟩=some (.int .i64 ((rd_T60 x3_1 x4_1).f1)):=hcc10 1 _ rfl;have hf10_0:w11.frozen? ⟨go10,(x4_1:Int).toNat * 2,none⟩=false:=hfr10 0;have hf10_1:w11.frozen? ⟨go10,(x4_1:Int).toNat * 2+1,none⟩=false:=hfr10 1;clear hcl10 hcc10 hfr10 hM10;replace p10:=eq_true p10;replace q10:=eq_true q10;have HX12:=Aside0.mk (show Kd.R k60 60 w11 w.heap.size (fun _=>True) (.slice (some ⟨go10,0,none⟩) x3_1.length co10) x3_1 from (bK HO_3.out));obtain⟨ce12,hcl12,hM12,hcc12,hfr12⟩:=Kd.R_elem HX12.out z60 (x4_1:Int) (of_decide_eq_true (bD)) (by have h_:(x4_1:Int) < ((x3_1.length:Int):Int):=of_decide_eq_true (bD);first|exact h_|(have e_:=(Kd.R_reads' HO_3.out).1;omega)|simpa using h_);obtain rfl:=k60_openM hM12;have HP12:=Kd.R_seg HX12.out (x4_1:Int) (of_decide_eq_true (bD)) (by have h_:(x4_1:Int) < ((x3_1.length:Int):Int):=of_decide_eq_true (bD);first|exact h_|(have e_:=(Kd.R_reads' HO_3.out).1;omega)|simpa using h_) (seg:=[.int .i64 t176,.int .i64 t177]) (j:=0) hcl12 hcc12 (show 2≤2 from by decide) (x':=(⟨t176,t177⟩:S60)) (k60_mkM _ _ _ (⟨t176,t177⟩:S60) ) (fun _ hk=>hk);have hx12_0:=hcc12 0 _ rfl;(try simp only[show(k60).sz=2 from rfl,Nat.mul_one,Nat.add_zero] at hx12_0);have hf12_0:=hfr12 0;(try simp only[show(k60).sz=2 from rfl,Nat.mul_one,Nat.add_zero] at hf12_0);have hx12_1:=hcc12 1 _ rfl;(try simp only[show(k60).sz=2 from rfl,Nat.mul_one,Nat.add_zero] at hx12_1);have hf12_1:=hfr12 1;(try simp only[show(k60).sz=2 from rfl,Nat.mul_one,Nat.add_zero] at hf12_1);clear hcl12 hcc12 hfr12 hM12)|((with_reducible refine gate_store (t:=60) (p:=21) rfl ?_);refine store_event (t:=60) (p:=21) (v:=?vo_w13) (w1:=((w11.setCell ⟨go10,(x4_1:Int).toNat * 2,none⟩ (.int .i64 t176)).setCell ⟨go10,(x4_1:Int).toNat * 2+1,none⟩ (.int .i64 t177))) ?hg ?ho ?hn ?hr ?_;(case ho=>rfl);(case hg=>rfl);(case hn=>rfl);(case hr=>first|(go_simp;done)|(go_simp;rfl));intro w13 hw;have hg:w11.grownBy w13 (some go10):=(by rw[hw];exact HP12.2);have hp_:Kd.R k60 60 w13 w.heap.size (fun _=>True) (.slice (some ⟨go10,0,none⟩) x3_1.length co10) y178:=(by rw[hw,Ny178.out];exact HP12.1);clear HP12;have n0_:=Aside0.mk (hp_);have n1_:=Aside0.mk ((by rw[hw];exact below_set (below_set (HB.out) GB10.out) GB10.out:Below w.heap.size w w13));clear HO_3 HB;have HO_3:=n0_;have HB:=n1_;clear n0_ n1_;clear hg hw hp_))
        go_roundg k1
        case measure=>have:=HK1.out;omega
        case rel=>exact⟨(y178),(wrap64 (x4_1+1)),(bR),H',⟨by have:=HK1.out;omega⟩,⟨by(with_reducible repeat (first|apply Kd.R_alloc|apply Kd.R_drewN|apply Kd.R_drew));exact HO_3.out⟩,⟨by repeat (first|(with_reducible first|exact HB.out|apply below_alloc|apply pw_below_drewN|apply below_drew1)|exact HB.out)⟩⟩
       ·rw[if_neg c9] at H
        exact absurd H (by simp)
      ·rw[if_neg c7] at H
       exact absurd H (by simp)
     ·rw[if_neg c6] at H
      have c6b0:decide (x4_1 < (l0.length:Int))=false:=decide_eq_false c6
      clear c6
      obtain rfl:=Option.some.inj H
      go_wp2
      go_ret
      exact⟨_,by first|rfl|(simp[errW_none,errW_some]<;>rfl)|(simp[*,errW_none,errW_some]<;>rfl),by(with_reducible repeat (first|apply Kd.R_alloc|apply Kd.R_drewN|apply Kd.R_drew));exact HO_3.out,bB⟩
  ·rw[if_neg c3] at H
   exact absurd H (by simp)
 ·rw[if_neg c2] at H
  exact absurd H (by simp)

/-! ### impl_within: function 93 -/
def impl_within.f (a0:Int) (a1:Int) (a2:Int):Option (Bool):=if a1≤a0 then (some (decide (a0≤a2))) else (some false)
set_option maxHeartbeats 8000000 in
set_option maxRecDepth 100000 in
theorem impl_within.calls (a0:Int) (a1:Int) (a2:Int) (r:Bool) (w:World) (h:impl_within.f a0 a1 a2=some r) :
  Calls Try.prog 93 #[.int .i64 a0,.int .i64 a1,.int .i64 a2] w fun e w'=>e=.returned (.bool r)∧Drawn0 w w':=by
 have H:(if a1≤a0 then (some (decide (a0≤a2))) else (some false))=some r:=h
 clear h
 by_cases c4:a1≤a0
 ·rw[if_pos c4] at H
  have c4b0:decide (a1≤a0)=true:=decide_eq_true c4
  clear c4
  obtain rfl:=Option.some.inj H
  go_enter Try.func93,Try.ntmps93
  go_wp2
  go_ret
  exact⟨bR,bW⟩
 ·rw[if_neg c4] at H
  have c4b0:decide (a1≤a0)=false:=decide_eq_false c4
  clear c4
  obtain rfl:=Option.some.inj H
  go_enter Try.func93,Try.ntmps93
  go_wp2
  go_ret
  exact⟨bR,bW⟩

-- NOT PRINTED: function 145 (slices_IndexFunc_int_int)

-- NOT PRINTED: function 95 (slices_ContainsFunc_int_int)

/-! ### impl_isWide: function 147 -/
def impl_isWide.f (a0:Int):Option (Bool):=(impl_within.f a0 2 8).bind fun t179=>(some t179)
set_option maxHeartbeats 8000000 in
set_option maxRecDepth 100000 in
theorem impl_isWide.calls (a0:Int) (r:Bool) (w:World) (h:impl_isWide.f a0=some r) :
  Calls Try.prog 147 #[.int .i64 a0] w fun e w'=>e=.returned (.bool r)∧Drawn0 w w':=by
 have H:((impl_within.f a0 2 8).bind fun t179=>(some t179))=some r:=h
 clear h
 replace H:=Option.bind_eq_some_iff.mp H
 obtain⟨t179,A20,H⟩:=H
 have A2:=Aside0.mk A20
 clear A20
 obtain rfl:=Option.some.inj H
 go_enter Try.func147,Try.ntmps147
 go_wp2_with (first|((with_reducible refine gate_callee (f:=93) rfl ?_);refine goesA (some 4) rfl rfl Try.func93 #[.int .i64 a0,.int .i64 2,.int .i64 8] rfl ?_;(with_reducible refine(impl_within.calls a0 2 8 t179 _ A2.out).mono ?_);rintro e w' ⟨rfl,⟨nd,rfl⟩⟩;refine⟨_,rfl,?_⟩))
 go_ret
 exact⟨bR,bW⟩

/-! ### impl_Spray_tokens: function 149 -/
def impl_Spray_tokens.l0:Nat→Int→List Int→Int→Int→Option (Int)
 | 0,_,_,_,_=>none
 | k+1,x3,x7,x8,x9=>if x9 < x8 then (if 0≤x9 then (if x9 < (x7.length:Int) then (impl_Spray_tokens.l0 k (wrap64 (x3+(rd x7 x9))) x7 x8 (wrap64 (x9+1))) else (none)) else (none)) else (some x3)
def impl_Spray_tokens.f (k:Nat) (l0_0:List Int) (a0_1:Int) (a0_2:Bool):Option (Int):=impl_Spray_tokens.l0 k 0 l0_0 (l0_0.length:Int) 0
theorem impl_Spray_tokens.mono_l : ∀ k,(∀ y0 y1 y2 y3,LeO (impl_Spray_tokens.l0 k y0 y1 y2 y3) (impl_Spray_tokens.l0 (k+1) y0 y1 y2 y3))
 | 0=>fun _ _ _ _ r h=>by simp[impl_Spray_tokens.l0] at h
 | k+1=>by
  have ih0:=impl_Spray_tokens.mono_l k
  ·intro y0 y1 y2 y3
   unfold impl_Spray_tokens.l0
   repeat' first
   | (with_reducible exact ih0 _ _ _ _)
   | (with_reducible exact LeO.refl _)
   | (with_reducible exact LeO.none _)
   | (with_reducible refine LeO.ite ?_ ?_)
   | (with_reducible refine LeO.bind ?_ (fun _ => ?_))
   | exact ih0 _ _ _ _
   | exact LeO.none _
   | refine LeO.ite ?_ ?_
   | refine LeO.bind ?_ (fun _ => ?_)
theorem impl_Spray_tokens.mono : ∀ a0 a1 a2 k,LeO (impl_Spray_tokens.f k a0 a1 a2) (impl_Spray_tokens.f (k+1) a0 a1 a2):=by
 intro a0 a1 a2 k
 have ih0:=impl_Spray_tokens.mono_l k
 unfold impl_Spray_tokens.f
 repeat' first
  | (with_reducible exact ih0 _ _ _ _)
  | (with_reducible exact LeO.refl _)
  | (with_reducible exact LeO.none _)
  | (with_reducible refine LeO.ite ?_ ?_)
  | (with_reducible refine LeO.bind ?_ (fun _ => ?_))
  | exact ih0 _ _ _ _
  | exact LeO.none _
  | refine LeO.ite ?_ ?_
  | refine LeO.bind ?_ (fun _ => ?_)
set_option maxHeartbeats 8000000 in
set_option maxRecDepth 100000 in
theorem impl_Spray_tokens.calls (k:Nat) (A0_0:Option Addr) (c0_0:Nat) (l0_0:List Int) (a0_1:Int) (a0_2:Bool) (r:Int) (w:World) (hr0_0:Kd.C (Kd.int .i64) w A0_0 l0_0.length l0_0) (hc0_0:l0_0.length≤c0_0) (h:impl_Spray_tokens.f k l0_0 a0_1 a0_2=some r) :
  Calls Try.prog 149 #[.agg #[.slice A0_0 l0_0.length c0_0,.int .i64 a0_1,.bool a0_2]] w fun e w'=>e=.returned (.int .i64 r)∧Below w.heap.size w w':=by
 have hu39:=Try.underlying39
 have HR0_0:=Aside0.mk hr0_0
 have HC0_0:=Aside0.mk hc0_0
 clear hr0_0 hc0_0
 have HB:=Aside0.mk (Below.refl w.heap.size w)
 have H:(impl_Spray_tokens.l0 k 0 l0_0 (l0_0.length:Int) 0)=some r:=h
 clear h
 have H':=Aside0.mk H
 clear H
 go_enter Try.func149,Try.ntmps149
 go_wp2_with (first|((with_reducible refine gate_dst (N:=1) rfl ?_);refine box_event ?hg (N:=1) ?hd (cs:=#[.slice A0_0 l0_0.length c0_0,.int .i64 a0_1,.bool a0_2]) (t:=39) ?hr ?_;(case hd=>rfl);(case hg=>rfl);(case hr=>first|(go_simp;done)|(go_simp;rfl));intro gb180 hg w2 hbox hb;have n0_:=Aside0.mk (below_step (bB) hb);have n1_:=Aside0.mk (hbox);have n2_:=Aside0.mk ((bG:w.heap.size≤gb180));have n3_:=Aside0.mk ((bG:w.heap.size≤gb180));clear HB;have HB:=n0_;have BK180:=n1_;have GW180:=n2_;have GE180:=n3_;clear n0_ n1_ n2_ n3_;clear hb hbox hg;obtain⟨hcz3_0,hcz3_1,hcz3_2⟩:=cC3 BK180.out;obtain⟨hfz3_0,hfz3_1,hfz3_2⟩:=cF3 BK180.out))
 go_loopg [3,9] k (fun kq v3 v9 w' => ∃ (x3_1:Int) (x9_1:Int),v3=.int .i64 x3_1∧v9=.int .i64 x9_1∧Aside0 (impl_Spray_tokens.l0 kq x3_1 l0_0 (l0_0.length:Int) x9_1=some r)∧Aside0 (kq≤k)∧Aside0 (w'.heap[gb180]?=some (.cells #[(.slice A0_0 l0_0.length c0_0),.int .i64 a0_1,.bool a0_2] 39 (0,0)))∧Aside0 (Below w.heap.size w w'))
 case atStart=>exact⟨(0),(0),(bR),(bR),H',⟨Nat.le_refl _⟩,⟨by(with_reducible repeat (first|refine blk_drewN ?_ _|refine blk_drew ?_|refine blk_alloc ?_ _));exact BK180.out⟩,⟨bS GE180.out⟩⟩
 case round =>
  clear H'
  try clear c1
  try clear p2
  try clear hcz3_0
  try clear hcz3_1
  try clear hcz3_2
  try clear hfz3_0
  try clear hfz3_1
  try clear hfz3_2
  obtain⟨x3_1,x9_1,rfl,rfl,HA,HK1,BK180,HB⟩:=hrel
  cases gk with
  | zero=>exact absurd HA.out (by simp[impl_Spray_tokens.l0])
  | succ k1 =>
   have H:=HA.out
   clear HA
   simp only[impl_Spray_tokens.l0] at H
   by_cases c4:x9_1 < (l0_0.length:Int)
   ·rw[if_pos c4] at H
    have c4b0:decide (x9_1 < (l0_0.length:Int))=true:=decide_eq_true c4
    clear c4
    by_cases c5:0≤x9_1
    ·rw[if_pos c5] at H
     have c5b0:decide (0≤x9_1)=true:=decide_eq_true c5
     clear c5
     by_cases c6:x9_1 < (l0_0.length:Int)
     ·rw[if_pos c6] at H
      have c6b0:decide (x9_1 < (l0_0.length:Int))=true:=decide_eq_true c6
      clear c6
      have H':=Aside0.mk H
      clear H
      have p181:0≤(x9_1:Int):=of_decide_eq_true (bD)
      have q181:x9_1 < (l0_0.length:Int):=of_decide_eq_true (bD)
      obtain⟨ad181,e181,hx181_0⟩:=Kd.at_int HR0_0.out x9_1 p181 q181
      cases e181
      replace hx181_0:=(HB.out.cell (World.block_lt_of_cell? w _ hx181_0)).trans hx181_0
      replace p181:=eq_true p181
      replace q181:=eq_true q181
      go_wp2
      go_roundg k1
      case measure=>have:=HK1.out;omega
      case rel=>exact⟨(wrap64 (x3_1+(rd l0_0 x9_1))),(wrap64 (x9_1+1)),(bR),(bR),H',⟨by have:=HK1.out;omega⟩,⟨by(with_reducible repeat (first|refine blk_drewN ?_ _|refine blk_drew ?_|refine blk_alloc ?_ _));exact BK180.out⟩,⟨bS GE180.out⟩⟩
     ·rw[if_neg c6] at H
      exact absurd H (by simp)
    ·rw[if_neg c5] at H
     exact absurd H (by simp)
   ·rw[if_neg c4] at H
    have c4b0:decide (x9_1 < (l0_0.length:Int))=false:=decide_eq_false c4
    clear c4
    obtain rfl:=Option.some.inj H
    go_wp2
    go_ret
    exact⟨bE,bS GE180.out⟩

/-! ### impl_GoodSpray_lit1: function 148 -/
def impl_GoodSpray_lit1.f (a0:Int):Option (Bool):=(impl_within.f a0 0 64).bind fun t187=>(some (!t187))
set_option maxHeartbeats 8000000 in
set_option maxRecDepth 100000 in
theorem impl_GoodSpray_lit1.calls (a0:Int) (r:Bool) (w:World) (h:impl_GoodSpray_lit1.f a0=some r) :
  Calls Try.prog 148 #[.int .i64 a0] w fun e w'=>e=.returned (.bool r)∧Drawn0 w w':=by
 have H:((impl_within.f a0 0 64).bind fun t187=>(some (!t187)))=some r:=h
 clear h
 replace H:=Option.bind_eq_some_iff.mp H
 obtain⟨t187,A20,H⟩:=H
 have A2:=Aside0.mk A20
 clear A20
 obtain rfl:=Option.some.inj H
 go_enter Try.func148,Try.ntmps148
 go_wp2_with (first|((with_reducible refine gate_callee (f:=93) rfl ?_);refine goesA (some 4) rfl rfl Try.func93 #[.int .i64 a0,.int .i64 0,.int .i64 64] rfl ?_;(with_reducible refine(impl_within.calls a0 0 64 t187 _ A2.out).mono ?_);rintro e w' ⟨rfl,⟨nd,rfl⟩⟩;refine⟨_,rfl,?_⟩))
 go_ret
 exact⟨bR,bW⟩

end Go.Proofs.Ytnphabcbnpenjaa.XFnExactPlaySpray
