-- Written by this session's own program (wip/xprint.py) out of the translation; Lean checks it.
import Derived.Test.YteneeohaoplpbaaXFnSprayx0
import Derived.Test.YteneeohaoplpbaaXFnSprayx1
import Derived.Test.YteneeohaoplpbaaXFnSprayx3
namespace Go.Proofs.Yteneeohaoplpbaa.XFnSpray
open Go.RowKit Go.Proofs.YteneeohaoplpbaaW.PrintWords Go.Proofs.YteneeohaoplpbaaW.PrintLast Go.Proofs.YteneeohaoplpbaaW.PrintMore
open Go.Proofs.YteneeohaoplpbaaW.PrintWords.Aside0 renaming mk → am
open List renaming setIfInBounds_toArray → zA, set_cons_zero → zB, set_cons_succ → zC
attribute [local go_sem] max2_int min2_int max_two min_two max_three min_three max_four min_four   -- for this text's walks alone
set_option linter.unusedVariables false
set_option linter.unusedSimpArgs false

/-! ### impl_NewSpray: function 107 -/
def impl_NewSpray.f (a0:Int) (a1:Int) (a2:Int) (a3:Int):Option (List Int × Int × Bool × Bool):=(impl_isWide.f a0).bind fun t250=>(if t250=true then ((impl_within.f a1 0 (wrap64 (a0 - 1))).bind fun t251=>(if t251=true then ((impl_within.f a2 0 (wrap64 (a0 - 1))).bind fun t252=>(if t252=true then (if a1=a2 then (some (([]:List Int),0,false,false)) else ((impl_within.f a3 1 64).bind fun t253=>(if t253=true then (if 0≤a0 then (if (a0:Int).toNat≤35184372088832 then ((some (List.replicate (a0:Int).toNat 0:List Int)).bind fun y254=>(if 0≤a1 then (if a1 < (y254.length:Int) then (some ((y254.set (a1:Int).toNat a3),a2,false,true)) else (none)) else (none))) else (none)) else (none)) else (some (([]:List Int),0,false,false))))) else (some (([]:List Int),0,false,false)))) else (some (([]:List Int),0,false,false)))) else (some (([]:List Int),0,false,false)))
set_option maxHeartbeats 8000000 in
set_option maxRecDepth 100000 in
theorem impl_NewSpray.calls (a0:Int) (a1:Int) (a2:Int) (a3:Int) (r1:List Int) (r2:Int) (r3:Bool) (r4:Bool) (w:World) (h:impl_NewSpray.f a0 a1 a2 a3=some (r1,r2,r3,r4)) :
  Calls Try.prog 107 #[.int .i64 a0,.int .i64 a1,.int .i64 a2,.int .i64 a3] w fun e w' => ∃ v0_:Value,e=.returned (.tuple #[.agg #[v0_,.int .i64 r2,.bool r3],.bool r4])∧Kd.R (Kd.int .i64) 3 w' w.heap.size (fun _=>True) v0_ r1∧Below w.heap.size w w':=by
 have hu62:=Try.underlying62
 have HB:=am (Below.refl w.heap.size w)
 have H:((impl_isWide.f a0).bind fun t250=>(if t250=true then ((impl_within.f a1 0 (wrap64 (a0 - 1))).bind fun t251=>(if t251=true then ((impl_within.f a2 0 (wrap64 (a0 - 1))).bind fun t252=>(if t252=true then (if a1=a2 then (some (([]:List Int),0,false,false)) else ((impl_within.f a3 1 64).bind fun t253=>(if t253=true then (if 0≤a0 then (if (a0:Int).toNat≤35184372088832 then ((some (List.replicate (a0:Int).toNat 0:List Int)).bind fun y254=>(if 0≤a1 then (if a1 < (y254.length:Int) then (some ((y254.set (a1:Int).toNat a3),a2,false,true)) else (none)) else (none))) else (none)) else (none)) else (some (([]:List Int),0,false,false))))) else (some (([]:List Int),0,false,false)))) else (some (([]:List Int),0,false,false)))) else (some (([]:List Int),0,false,false))))=some (r1,r2,r3,r4):=h
 clear h
 replace H:=bI_ H
 obtain⟨t250,A50,H⟩:=H
 replace H:(if t250=true then ((impl_within.f a1 0 (wrap64 (a0 - 1))).bind fun t251=>(if t251=true then ((impl_within.f a2 0 (wrap64 (a0 - 1))).bind fun t252=>(if t252=true then (if a1=a2 then (some (([]:List Int),0,false,false)) else ((impl_within.f a3 1 64).bind fun t253=>(if t253=true then (if 0≤a0 then (if (a0:Int).toNat≤35184372088832 then ((some (List.replicate (a0:Int).toNat 0:List Int)).bind fun y254=>(if 0≤a1 then (if a1 < (y254.length:Int) then (some ((y254.set (a1:Int).toNat a3),a2,false,true)) else (none)) else (none))) else (none)) else (none)) else (some (([]:List Int),0,false,false))))) else (some (([]:List Int),0,false,false)))) else (some (([]:List Int),0,false,false)))) else (some (([]:List Int),0,false,false)))=some (r1,r2,r3,r4):=H
 have A5:=am A50
 clear A50
 by_cases c6:t250=true
 ·subst c6
  have H1:((impl_within.f a1 0 (wrap64 (a0 - 1))).bind fun t251=>(if t251=true then ((impl_within.f a2 0 (wrap64 (a0 - 1))).bind fun t252=>(if t252=true then (if a1=a2 then (some (([]:List Int),0,false,false)) else ((impl_within.f a3 1 64).bind fun t253=>(if t253=true then (if 0≤a0 then (if (a0:Int).toNat≤35184372088832 then ((some (List.replicate (a0:Int).toNat 0:List Int)).bind fun y254=>(if 0≤a1 then (if a1 < (y254.length:Int) then (some ((y254.set (a1:Int).toNat a3),a2,false,true)) else (none)) else (none))) else (none)) else (none)) else (some (([]:List Int),0,false,false))))) else (some (([]:List Int),0,false,false)))) else (some (([]:List Int),0,false,false))))=some (r1,r2,r3,r4):=by rw[if_pos rfl] at H;exact H
  clear H
  have H:=H1
  clear H1
  replace H:=bI_ H
  obtain⟨t251,A70,H⟩:=H
  replace H:(if t251=true then ((impl_within.f a2 0 (wrap64 (a0 - 1))).bind fun t252=>(if t252=true then (if a1=a2 then (some (([]:List Int),0,false,false)) else ((impl_within.f a3 1 64).bind fun t253=>(if t253=true then (if 0≤a0 then (if (a0:Int).toNat≤35184372088832 then ((some (List.replicate (a0:Int).toNat 0:List Int)).bind fun y254=>(if 0≤a1 then (if a1 < (y254.length:Int) then (some ((y254.set (a1:Int).toNat a3),a2,false,true)) else (none)) else (none))) else (none)) else (none)) else (some (([]:List Int),0,false,false))))) else (some (([]:List Int),0,false,false)))) else (some (([]:List Int),0,false,false)))=some (r1,r2,r3,r4):=H
  have A7:=am A70
  clear A70
  by_cases c8:t251=true
  ·subst c8
   have H1:((impl_within.f a2 0 (wrap64 (a0 - 1))).bind fun t252=>(if t252=true then (if a1=a2 then (some (([]:List Int),0,false,false)) else ((impl_within.f a3 1 64).bind fun t253=>(if t253=true then (if 0≤a0 then (if (a0:Int).toNat≤35184372088832 then ((some (List.replicate (a0:Int).toNat 0:List Int)).bind fun y254=>(if 0≤a1 then (if a1 < (y254.length:Int) then (some ((y254.set (a1:Int).toNat a3),a2,false,true)) else (none)) else (none))) else (none)) else (none)) else (some (([]:List Int),0,false,false))))) else (some (([]:List Int),0,false,false))))=some (r1,r2,r3,r4):=by rw[if_pos rfl] at H;exact H
   clear H
   have H:=H1
   clear H1
   replace H:=bI_ H
   obtain⟨t252,A90,H⟩:=H
   replace H:(if t252=true then (if a1=a2 then (some (([]:List Int),0,false,false)) else ((impl_within.f a3 1 64).bind fun t253=>(if t253=true then (if 0≤a0 then (if (a0:Int).toNat≤35184372088832 then ((some (List.replicate (a0:Int).toNat 0:List Int)).bind fun y254=>(if 0≤a1 then (if a1 < (y254.length:Int) then (some ((y254.set (a1:Int).toNat a3),a2,false,true)) else (none)) else (none))) else (none)) else (none)) else (some (([]:List Int),0,false,false))))) else (some (([]:List Int),0,false,false)))=some (r1,r2,r3,r4):=H
   have A9:=am A90
   clear A90
   by_cases c10:t252=true
   ·subst c10
    have H1:(if a1=a2 then (some (([]:List Int),0,false,false)) else ((impl_within.f a3 1 64).bind fun t253=>(if t253=true then (if 0≤a0 then (if (a0:Int).toNat≤35184372088832 then ((some (List.replicate (a0:Int).toNat 0:List Int)).bind fun y254=>(if 0≤a1 then (if a1 < (y254.length:Int) then (some ((y254.set (a1:Int).toNat a3),a2,false,true)) else (none)) else (none))) else (none)) else (none)) else (some (([]:List Int),0,false,false)))))=some (r1,r2,r3,r4):=by rw[if_pos rfl] at H;exact H
    clear H
    have H:=H1
    clear H1
    by_cases c11:a1=a2
    ·rw[if_pos c11] at H
     have c11b0:(a1 == a2)=true:=beq_iff_eq.mpr c11
     have c11b1:(a1 != a2)=false:=bne_eq_false_iff_eq.mpr c11
     clear c11
     simp only[Option.some.injEq,Prod.mk.injEq] at H
     obtain⟨rfl,rfl,rfl,rfl⟩:=H
     go_enter Try.func107,Try.ntmps107
     go_wp2_with (first|((with_reducible refine gate_dst (N:=8) rfl ?_);refine box_event ?hg (N:=8) ?hd (cs:=#[.slice none 0 0,.int .i64 0,.bool false]) (t:=62) ?hr ?_;(case hd=>rfl);(case hg=>rfl);(case hr=>first|(go_simp;done)|(go_simp;rfl));intro gb249 hg w12 hbox hb;have n0_:=am (below_step (bB) hb);have n1_:=am (hbox);have n2_:=am ((bG:w.heap.size≤gb249));have n3_:=am ((bG:w.heap.size≤gb249));clear HB;have HB:=n0_;have BK249:=n1_;have GW249:=n2_;have GE249:=n3_;clear n0_ n1_ n2_ n3_;clear hb hbox hg)|((with_reducible refine gate_callee (f:=112) rfl ?_);refine goesA (some 12) rfl rfl Try.func112 #[.int .i64 a0] rfl ?_;(with_reducible refine(impl_isWide.calls a0 true _ A5.out).mono ?_);rintro e w' ⟨rfl,⟨nd,rfl⟩⟩;refine⟨_,rfl,?_⟩;(try (rw[drewN_self w12];generalize hq_:World.drewN w12 _=w12;have n0_:Aside0 (w12.heap[gb249]?=some (.cells #[.slice none 0 0,.int .i64 0,.bool false] 62 (0,0))):=⟨by rw[← hq_];exact(bL BK249.out)⟩;have n1_:Aside0 (Below w.heap.size w w12):=⟨by rw[← hq_];exact(bS GE249.out)⟩;clear BK249 HB hq_;have BK249:=n0_;have HB:=n1_;clear n0_ n1_)))|(go_at_call 79;(with_reducible refine(impl_within.calls a1 0 (wrap64 (a0 - 1)) true _ A7.out).mono ?_);rintro e w' ⟨rfl,⟨nd,rfl⟩⟩;(try (rw[drewN_self w12];generalize hq_:World.drewN w12 _=w12;have n0_:Aside0 (w12.heap[gb249]?=some (.cells #[.slice none 0 0,.int .i64 0,.bool false] 62 (0,0))):=⟨by rw[← hq_];exact(bL BK249.out)⟩;have n1_:Aside0 (Below w.heap.size w w12):=⟨by rw[← hq_];exact(bS GE249.out)⟩;clear BK249 HB hq_;have BK249:=n0_;have HB:=n1_;clear n0_ n1_)))|(go_at_call 79;(with_reducible refine(impl_within.calls a2 0 (wrap64 (a0 - 1)) true _ A9.out).mono ?_);rintro e w' ⟨rfl,⟨nd,rfl⟩⟩;(try (rw[drewN_self w12];generalize hq_:World.drewN w12 _=w12;have n0_:Aside0 (w12.heap[gb249]?=some (.cells #[.slice none 0 0,.int .i64 0,.bool false] 62 (0,0))):=⟨by rw[← hq_];exact(bL BK249.out)⟩;have n1_:Aside0 (Below w.heap.size w w12):=⟨by rw[← hq_];exact(bS GE249.out)⟩;clear BK249 HB hq_;have BK249:=n0_;have HB:=n1_;clear n0_ n1_));obtain⟨hcz13_0,hcz13_1,hcz13_2⟩:=cC3 BK249.out;obtain⟨hfz13_0,hfz13_1,hfz13_2⟩:=cF3 BK249.out))
     refine bodyPost_ret (results_ct rfl _ _ gb249 62 #[.slice none 0 0,.int .i64 0,.bool false] (0,0) _ rfl (b5_) Try.underlying62 rfl (b4_)) rfl ?_
     exact⟨_,by first|rfl|(simp[errW_none,errW_some]<;>rfl)|(simp[*,errW_none,errW_some]<;>rfl),by first|exact Kd.R_nil _ _ _ _ _|exact Kd.N_nil _ _ _ _ _|exact Kd.V_nil _ _ _ _ _|exact Kd.Q_nil _ _ _ _ _|exact Kd.S_nil _ _ _ _ _,bS GE249.out⟩
    ·rw[if_neg c11] at H
     have c11b0:(a1 == a2)=false:=beq_eq_false_iff_ne.mpr c11
     have c11b1:(a1 != a2)=true:=bne_iff_ne.mpr c11
     replace H:=bI_ H
     obtain⟨t253,A140,H⟩:=H
     replace H:(if t253=true then (if 0≤a0 then (if (a0:Int).toNat≤35184372088832 then ((some (List.replicate (a0:Int).toNat 0:List Int)).bind fun y254=>(if 0≤a1 then (if a1 < (y254.length:Int) then (some ((y254.set (a1:Int).toNat a3),a2,false,true)) else (none)) else (none))) else (none)) else (none)) else (some (([]:List Int),0,false,false)))=some (r1,r2,r3,r4):=H
     have A14:=am A140
     clear A140
     by_cases c15:t253=true
     ·subst c15
      have H1:(if 0≤a0 then (if (a0:Int).toNat≤35184372088832 then ((some (List.replicate (a0:Int).toNat 0:List Int)).bind fun y254=>(if 0≤a1 then (if a1 < (y254.length:Int) then (some ((y254.set (a1:Int).toNat a3),a2,false,true)) else (none)) else (none))) else (none)) else (none))=some (r1,r2,r3,r4):=by rw[if_pos rfl] at H;exact H
      clear H
      have H:=H1
      clear H1
      by_cases c16:0≤a0
      ·rw[if_pos c16] at H
       have c16b0:=eq_true c16
       have c16b1:decide (0≤a0)=true:=decide_eq_true c16
       clear c16
       by_cases c17:(a0:Int).toNat≤35184372088832
       ·rw[if_pos c17] at H
        have c17b0:=eq_true c17
        have c17b1:decide ((a0:Int).toNat≤35184372088832)=true:=decide_eq_true c17
        clear c17
        obtain⟨y254,hy254⟩ : ∃ y_:List Int,y_=(List.replicate (a0:Int).toNat 0):=⟨_,rfl⟩
        replace H:(if 0≤a1 then (if a1 < (y254.length:Int) then (some ((y254.set (a1:Int).toNat a3),a2,false,true)) else (none)) else (none))=some (r1,r2,r3,r4):=by first|(rw[hy254];with_reducible exact H)|(have H2_:=(Option.bind_some _ _).symm.trans H;rw[hy254];with_reducible exact H2_)|(have H2_:=(Option.bind_some _ _).symm.trans H;with_reducible exact H2_)|with_reducible exact H|(rw[hy254];exact H)|exact H
        have Ny254:=am hy254
        clear hy254
        by_cases c18:0≤a1
        ·rw[if_pos c18] at H
         have c18b0:decide (0≤a1)=true:=decide_eq_true c18
         clear c18
         by_cases c19:a1 < (y254.length:Int)
         ·rw[if_pos c19] at H
          have c19b0:decide (a1 < (y254.length:Int))=true:=decide_eq_true c19
          clear c19
          obtain⟨y258,hy258⟩ : ∃ y_:List Int,y_=(y254.set (a1:Int).toNat a3):=⟨_,rfl⟩
          replace H:(some (y258,a2,false,true))=some (r1,r2,r3,r4):=by first|(rw[hy258];with_reducible exact H)|(have H2_:=(Option.bind_some _ _).symm.trans H;rw[hy258];with_reducible exact H2_)|(have H2_:=(Option.bind_some _ _).symm.trans H;with_reducible exact H2_)|with_reducible exact H|(rw[hy258];exact H)|exact H
          have Ny258:=am hy258
          clear hy258
          simp only[Option.some.injEq,Prod.mk.injEq] at H
          obtain⟨rfl,rfl,rfl,rfl⟩:=H
          go_enter Try.func107,Try.ntmps107
          go_wp2_with (first|((with_reducible refine gate_dst (N:=8) rfl ?_);refine box_event ?hg (N:=8) ?hd (cs:=#[.slice none 0 0,.int .i64 0,.bool false]) (t:=62) ?hr ?_;(case hd=>rfl);(case hg=>rfl);(case hr=>first|(go_simp;done)|(go_simp;rfl));intro gb249 hg w21 hbox hb;have n0_:=am (below_step (bB) hb);have n1_:=am (hbox);have n2_:=am ((bG:w.heap.size≤gb249));have n3_:=am ((bG:w.heap.size≤gb249));clear HB;have HB:=n0_;have BK249:=n1_;have GW249:=n2_;have GE249:=n3_;clear n0_ n1_ n2_ n3_;clear hb hbox hg)|((with_reducible refine gate_callee (f:=112) rfl ?_);refine goesA (some 12) rfl rfl Try.func112 #[.int .i64 a0] rfl ?_;(with_reducible refine(impl_isWide.calls a0 true _ A5.out).mono ?_);rintro e w' ⟨rfl,⟨nd,rfl⟩⟩;refine⟨_,rfl,?_⟩;(try (rw[drewN_self w21];generalize hq_:World.drewN w21 _=w21;have n0_:Aside0 (w21.heap[gb249]?=some (.cells #[.slice none 0 0,.int .i64 0,.bool false] 62 (0,0))):=⟨by rw[← hq_];exact(bL BK249.out)⟩;have n1_:Aside0 (Below w.heap.size w w21):=⟨by rw[← hq_];exact(bS GE249.out)⟩;clear BK249 HB hq_;have BK249:=n0_;have HB:=n1_;clear n0_ n1_)))|(go_at_call 79;(with_reducible refine(impl_within.calls a1 0 (wrap64 (a0 - 1)) true _ A7.out).mono ?_);rintro e w' ⟨rfl,⟨nd,rfl⟩⟩;(try (rw[drewN_self w21];generalize hq_:World.drewN w21 _=w21;have n0_:Aside0 (w21.heap[gb249]?=some (.cells #[.slice none 0 0,.int .i64 0,.bool false] 62 (0,0))):=⟨by rw[← hq_];exact(bL BK249.out)⟩;have n1_:Aside0 (Below w.heap.size w w21):=⟨by rw[← hq_];exact(bS GE249.out)⟩;clear BK249 HB hq_;have BK249:=n0_;have HB:=n1_;clear n0_ n1_)))|(go_at_call 79;(with_reducible refine(impl_within.calls a2 0 (wrap64 (a0 - 1)) true _ A9.out).mono ?_);rintro e w' ⟨rfl,⟨nd,rfl⟩⟩;(try (rw[drewN_self w21];generalize hq_:World.drewN w21 _=w21;have n0_:Aside0 (w21.heap[gb249]?=some (.cells #[.slice none 0 0,.int .i64 0,.bool false] 62 (0,0))):=⟨by rw[← hq_];exact(bL BK249.out)⟩;have n1_:Aside0 (Below w.heap.size w w21):=⟨by rw[← hq_];exact(bS GE249.out)⟩;clear BK249 HB hq_;have BK249:=n0_;have HB:=n1_;clear n0_ n1_)))|(go_at_call 79;(with_reducible refine(impl_within.calls a3 1 64 true _ A14.out).mono ?_);rintro e w' ⟨rfl,⟨nd,rfl⟩⟩;(try (rw[drewN_self w21];generalize hq_:World.drewN w21 _=w21;have n0_:Aside0 (w21.heap[gb249]?=some (.cells #[.slice none 0 0,.int .i64 0,.bool false] 62 (0,0))):=⟨by rw[← hq_];exact(bL BK249.out)⟩;have n1_:Aside0 (Below w.heap.size w w21):=⟨by rw[← hq_];exact(bS GE249.out)⟩;clear BK249 HB hq_;have BK249:=n0_;have HB:=n1_;clear n0_ n1_)))|((with_reducible refine gate_dst (N:=40) rfl ?_);refine Kd.R_make (Kd.int .i64) _ 3 rfl (N:=40) rfl 37 _ _ rfl a0 rfl rfl Try.underlying37 (.int .i64 0) 8 info3 rfl (b17_) (by omega) 0 (ok:=fun _=>True) (okp:=fun _=>True) rfl (fun _ hk=>hk) trivial (bD_) (Nat.le_trans (Nat.mul_le_mul_right _ (bD_:a0.toNat≤35184372088832)) (by omega)) (Below.refl _ _) (Nat.le_refl _) ?_;intro v255 w22 ho23 hb hg_ hnew_;clear hg_ hnew_;(first|rw[← Ny254.out] at ho23|(simp only[Int.reduceToNat] at ho23;rw[← Ny254.out] at ho23));have n0_:=am (Kd.R_lower ho23 (below_size (bS GE249.out)));have n1_:=am (bM BK249.out hb);have n2_:=am (below_step (bS GE249.out) hb);clear BK249 HB;have HO256:=n0_;have BK249:=n1_;have HB:=n2_;clear n0_ n1_ n2_;clear hb ho23;obtain⟨Ao24,co24,eo24⟩:=Kd.R_slice HO256.out;subst eo24)|((with_reducible refine gate_dst (N:=10) rfl ?_);refine box_event ?hg (N:=10) ?hd (cs:=#[.slice none 0 0,.int .i64 0,.bool false]) (t:=62) ?hr ?_;(case hd=>rfl);(case hg=>rfl);(case hr=>first|(go_simp;done)|(go_simp;rfl));intro gb257 hg w25 hbox hb;have n0_:=am (Kd.R_below (bK HO256.out) hb);have n1_:=am (bM BK249.out hb);have n2_:=am (below_step (bS GE249.out) hb);have n3_:=am (hbox);have n4_:=am ((by rw[hg];exact(below_size (bS GE249.out)):w.heap.size≤gb257));have n5_:=am ((by rw[hg];exact(below_size (bS GE249.out)):w.heap.size≤gb257));have n6_:=am ((bN BK249.out hg:gb249≠gb257));have n7_:=am ((bO BK249.out hg:gb257≠gb249));clear HO256 BK249 HB;have HO256:=n0_;have BK249:=n1_;have HB:=n2_;have BK257:=n3_;have GW257:=n4_;have GE257:=n5_;have NB249_257:=n6_;have NB257_249:=n7_;clear n0_ n1_ n2_ n3_ n4_ n5_ n6_ n7_;clear hb hbox hg;have hnb26:=NB257_249.out;have hnc26:=NB249_257.out;obtain⟨hcz27_0,hcz27_1,hcz27_2⟩:=cC3 BK257.out;obtain⟨hfz27_0,hfz27_1,hfz27_2⟩:=cF3 BK257.out)|((with_reducible refine gate_store (t:=62) (p:=10) rfl ?_);refine store_event (t:=62) (p:=10) (v:=?vo_w28) (w1:=(((w25.setCell ⟨gb257,0,none⟩ (.slice Ao24 y254.length co24)).setCell ⟨gb257,1,none⟩ (.int .i64 a2)).setCell ⟨gb257,2,none⟩ (.bool false))) ?hg ?ho ?hn ?hr ?_;(case ho=>rfl);(case hg=>rfl);(case hn=>rfl);(case hr=>first|(go_simp;done)|(go_simp;rfl));intro w28 hw;have n0_:Aside0 (Kd.R (Kd.int .i64) 3 w28 w.heap.size (fun _=>True) (.slice Ao24 y254.length co24) y254):=⟨(by rw[hw];exact(by(with_reducible repeat (first|apply Kd.R_alloc|apply Kd.R_drewN|apply Kd.R_drew));exact Kd.R_mono (Kd.R_far (p:=⟨gb257,2,none⟩) (Kd.R_far (p:=⟨gb257,1,none⟩) (Kd.R_far (p:=⟨gb257,0,none⟩) (Kd.R_types HO256.out BK257.out (b17_)) (fun _ hk=>hk.2) (.slice Ao24 y254.length co24)) (fun _ hk=>hk.2) (.int .i64 a2)) (fun _ hk=>hk.2) (.bool false)) (fun _ hk=>trivial)))⟩;have n1_:Aside0 (w28.heap[gb249]?=some (.cells #[.slice none 0 0,.int .i64 0,.bool false] 62 (0,0))):=⟨(by rw[hw];exact(by(with_reducible repeat (first|refine blk_drewN ?_ _|refine blk_drew ?_|refine blk_alloc ?_ _));refine blk_far ?_ NB249_257.out _;(with_reducible repeat (first|refine blk_drewN ?_ _|refine blk_drew ?_|refine blk_alloc ?_ _));refine blk_far ?_ NB249_257.out _;(with_reducible repeat (first|refine blk_drewN ?_ _|refine blk_drew ?_|refine blk_alloc ?_ _));refine blk_far ?_ NB249_257.out _;(with_reducible repeat (first|refine blk_drewN ?_ _|refine blk_drew ?_|refine blk_alloc ?_ _));exact BK249.out))⟩;have n2_:Aside0 (w28.heap[gb257]?=some (.cells #[.slice Ao24 y254.length co24,.int .i64 a2,.bool false] 62 (0,0))):=⟨(by rw[hw];exact(by(with_reducible repeat (first|refine blk_drewN ?_ _|refine blk_drew ?_|refine blk_alloc ?_ _));apply bU3;(with_reducible repeat (first|refine blk_drewN ?_ _|refine blk_drew ?_|refine blk_alloc ?_ _));exact BK257.out))⟩;have n3_:Aside0 (Below w.heap.size w w28):=⟨(by rw[hw];exact(bS2 GE249.out GE257.out))⟩;clear hw HO256 BK249 BK257 HB;have HO256:=n0_;have BK249:=n1_;have BK257:=n2_;have HB:=n3_;clear n0_ n1_ n2_ n3_;obtain⟨hcz29_0,hcz29_1,hcz29_2⟩:=cC3 BK257.out;obtain⟨hfz29_0,hfz29_1,hfz29_2⟩:=cF3 BK257.out;have p20:0≤(a1:Int):=bD_;have q20:(a1:Int) < ((y254.length:Int):Int):=bD_;obtain⟨go20,co20,eo20,gb20,gl20,cl20,HG20⟩:=Kd.R_form HO256.out (by omega);(first|cases eo20|(injection eo20 with ea_ en_ ec_;(first|subst ea_|(injection ea_ with ea_;subst ea_));subst ec_;clear en_));have GB20:=am gb20;have GG20:=am HG20;clear gb20 gl20 HG20;obtain⟨hx20_0,hf20_0⟩:=Kd.R_celln 0 HO256.out (a1:Int) p20 q20;replace p20:=eq_true p20;replace q20:=eq_true q20;obtain⟨hy30_,hz30_⟩:=Kd.R_celln 0 HO256.out (a1:Int) (bD_) (bD_);have HP30:=Kd.R_putg HO256.out (a1:Int) a3)|((with_reducible refine gate_store (t:=3) (p:=47) rfl ?_);refine store_event (t:=3) (p:=47) (v:=?vo_w31) (w1:=(w28.setCell ⟨go20,(a1:Int).toNat,none⟩ (.int .i64 a3))) ?hg ?ho ?hn ?hr ?_;(case ho=>rfl);(case hg=>rfl);(case hn=>rfl);(case hr=>first|(go_simp;done)|(go_simp;rfl));intro w31 hw;have hg:w28.grownBy w31 (some go20):=(by rw[hw];exact HP30.2);have hp_:Kd.R (Kd.int .i64) 3 w31 w.heap.size (fun _=>True) (.slice (some ⟨go20,0,none⟩) y254.length co24) y258:=(by rw[hw,Ny258.out];exact HP30.1);clear HP30;have n0_:=am (blk_grown (g:=gb249) (o:=.cells #[.slice none 0 0,.int .i64 0,.bool false] 62 (0,0)) (bL BK249.out) hg (Kd.R_ne HO256.out BK249.out (b17_)));have n1_:=am (hp_);have n2_:=am (blk_grown (g:=gb257) (o:=.cells #[.slice (some ⟨go20,0,none⟩) y254.length co24,.int .i64 a2,.bool false] 62 (0,0)) (bL BK257.out) hg (Kd.R_ne HO256.out BK257.out (b17_)));have n3_:=am ((by rw[hw];exact below_set (HB.out) GB20.out:Below w.heap.size w w31));clear BK249 HO256 BK257 HB;have BK249:=n0_;have HO256:=n1_;have BK257:=n2_;have HB:=n3_;clear n0_ n1_ n2_ n3_;clear hg hw hp_;obtain⟨hcz32_0,hcz32_1,hcz32_2⟩:=cC3 BK257.out;obtain⟨hfz32_0,hfz32_1,hfz32_2⟩:=cF3 BK257.out;obtain⟨hcz33_0,hcz33_1,hcz33_2⟩:=cC3 BK249.out;obtain⟨hfz33_0,hfz33_1,hfz33_2⟩:=cF3 BK249.out))
          refine bodyPost_ret (results_ct rfl _ _ gb249 62 #[.slice (some ⟨go20,0,none⟩) y254.length co24,.int .i64 a2,.bool false] (0,0) _ rfl (by(with_reducible repeat (first|refine blk_drewN ?_ _|refine blk_drew ?_|refine blk_alloc ?_ _));apply bU3;(with_reducible repeat (first|refine blk_drewN ?_ _|refine blk_drew ?_|refine blk_alloc ?_ _));exact BK249.out) Try.underlying62 rfl (b4_)) rfl ?_
          exact⟨_,by first|rfl|(simp[errW_none,errW_some]<;>rfl)|(simp[*,errW_none,errW_some]<;>rfl),by(with_reducible repeat (first|apply Kd.R_alloc|apply Kd.R_drewN|apply Kd.R_drew));exact Kd.R_mono (Kd.R_far (p:=⟨gb249,2,none⟩) (Kd.R_far (p:=⟨gb249,1,none⟩) (Kd.R_far (p:=⟨gb249,0,none⟩) (Kd.R_types HO256.out BK249.out (b17_)) (fun _ hk=>hk.2) (.slice (some ⟨go20,0,none⟩) y254.length co24)) (fun _ hk=>hk.2) (.int .i64 a2)) (fun _ hk=>hk.2) (.bool false)) (fun _ hk=>trivial),bS2 GE249.out GE257.out⟩
         ·rw[if_neg c19] at H
          exact absurd H (by simp)
        ·rw[if_neg c18] at H
         exact absurd H (by simp)
       ·rw[if_neg c17] at H
        exact absurd H (by simp)
      ·rw[if_neg c16] at H
       exact absurd H (by simp)
     ·replace c15:=Bool.eq_false_iff.mpr c15
      subst c15
      have H1:(some (([]:List Int),0,false,false))=some (r1,r2,r3,r4):=by rw[if_neg (show ¬ (false=true) by decide)] at H;exact H
      clear H
      have H:=H1
      clear H1
      simp only[Option.some.injEq,Prod.mk.injEq] at H
      obtain⟨rfl,rfl,rfl,rfl⟩:=H
      go_enter Try.func107,Try.ntmps107
      go_wp2_with (first|((with_reducible refine gate_dst (N:=8) rfl ?_);refine box_event ?hg (N:=8) ?hd (cs:=#[.slice none 0 0,.int .i64 0,.bool false]) (t:=62) ?hr ?_;(case hd=>rfl);(case hg=>rfl);(case hr=>first|(go_simp;done)|(go_simp;rfl));intro gb249 hg w34 hbox hb;have n0_:=am (below_step (bB) hb);have n1_:=am (hbox);have n2_:=am ((bG:w.heap.size≤gb249));have n3_:=am ((bG:w.heap.size≤gb249));clear HB;have HB:=n0_;have BK249:=n1_;have GW249:=n2_;have GE249:=n3_;clear n0_ n1_ n2_ n3_;clear hb hbox hg)|((with_reducible refine gate_callee (f:=112) rfl ?_);refine goesA (some 12) rfl rfl Try.func112 #[.int .i64 a0] rfl ?_;(with_reducible refine(impl_isWide.calls a0 true _ A5.out).mono ?_);rintro e w' ⟨rfl,⟨nd,rfl⟩⟩;refine⟨_,rfl,?_⟩;(try (rw[drewN_self w34];generalize hq_:World.drewN w34 _=w34;have n0_:Aside0 (w34.heap[gb249]?=some (.cells #[.slice none 0 0,.int .i64 0,.bool false] 62 (0,0))):=⟨by rw[← hq_];exact(bL BK249.out)⟩;have n1_:Aside0 (Below w.heap.size w w34):=⟨by rw[← hq_];exact(bS GE249.out)⟩;clear BK249 HB hq_;have BK249:=n0_;have HB:=n1_;clear n0_ n1_)))|(go_at_call 79;(with_reducible refine(impl_within.calls a1 0 (wrap64 (a0 - 1)) true _ A7.out).mono ?_);rintro e w' ⟨rfl,⟨nd,rfl⟩⟩;(try (rw[drewN_self w34];generalize hq_:World.drewN w34 _=w34;have n0_:Aside0 (w34.heap[gb249]?=some (.cells #[.slice none 0 0,.int .i64 0,.bool false] 62 (0,0))):=⟨by rw[← hq_];exact(bL BK249.out)⟩;have n1_:Aside0 (Below w.heap.size w w34):=⟨by rw[← hq_];exact(bS GE249.out)⟩;clear BK249 HB hq_;have BK249:=n0_;have HB:=n1_;clear n0_ n1_)))|(go_at_call 79;(with_reducible refine(impl_within.calls a2 0 (wrap64 (a0 - 1)) true _ A9.out).mono ?_);rintro e w' ⟨rfl,⟨nd,rfl⟩⟩;(try (rw[drewN_self w34];generalize hq_:World.drewN w34 _=w34;have n0_:Aside0 (w34.heap[gb249]?=some (.cells #[.slice none 0 0,.int .i64 0,.bool false] 62 (0,0))):=⟨by rw[← hq_];exact(bL BK249.out)⟩;have n1_:Aside0 (Below w.heap.size w w34):=⟨by rw[← hq_];exact(bS GE249.out)⟩;clear BK249 HB hq_;have BK249:=n0_;have HB:=n1_;clear n0_ n1_)))|(go_at_call 79;(with_reducible refine(impl_within.calls a3 1 64 false _ A14.out).mono ?_);rintro e w' ⟨rfl,⟨nd,rfl⟩⟩;(try (rw[drewN_self w34];generalize hq_:World.drewN w34 _=w34;have n0_:Aside0 (w34.heap[gb249]?=some (.cells #[.slice none 0 0,.int .i64 0,.bool false] 62 (0,0))):=⟨by rw[← hq_];exact(bL BK249.out)⟩;have n1_:Aside0 (Below w.heap.size w w34):=⟨by rw[← hq_];exact(bS GE249.out)⟩;clear BK249 HB hq_;have BK249:=n0_;have HB:=n1_;clear n0_ n1_));obtain⟨hcz35_0,hcz35_1,hcz35_2⟩:=cC3 BK249.out;obtain⟨hfz35_0,hfz35_1,hfz35_2⟩:=cF3 BK249.out))
      refine bodyPost_ret (results_ct rfl _ _ gb249 62 #[.slice none 0 0,.int .i64 0,.bool false] (0,0) _ rfl (b5_) Try.underlying62 rfl (b4_)) rfl ?_
      exact⟨_,by first|rfl|(simp[errW_none,errW_some]<;>rfl)|(simp[*,errW_none,errW_some]<;>rfl),by first|exact Kd.R_nil _ _ _ _ _|exact Kd.N_nil _ _ _ _ _|exact Kd.V_nil _ _ _ _ _|exact Kd.Q_nil _ _ _ _ _|exact Kd.S_nil _ _ _ _ _,bS GE249.out⟩
   ·replace c10:=Bool.eq_false_iff.mpr c10
    subst c10
    have H1:(some (([]:List Int),0,false,false))=some (r1,r2,r3,r4):=by rw[if_neg (show ¬ (false=true) by decide)] at H;exact H
    clear H
    have H:=H1
    clear H1
    simp only[Option.some.injEq,Prod.mk.injEq] at H
    obtain⟨rfl,rfl,rfl,rfl⟩:=H
    go_enter Try.func107,Try.ntmps107
    go_wp2_with (first|((with_reducible refine gate_dst (N:=8) rfl ?_);refine box_event ?hg (N:=8) ?hd (cs:=#[.slice none 0 0,.int .i64 0,.bool false]) (t:=62) ?hr ?_;(case hd=>rfl);(case hg=>rfl);(case hr=>first|(go_simp;done)|(go_simp;rfl));intro gb249 hg w36 hbox hb;have n0_:=am (below_step (bB) hb);have n1_:=am (hbox);have n2_:=am ((bG:w.heap.size≤gb249));have n3_:=am ((bG:w.heap.size≤gb249));clear HB;have HB:=n0_;have BK249:=n1_;have GW249:=n2_;have GE249:=n3_;clear n0_ n1_ n2_ n3_;clear hb hbox hg)|((with_reducible refine gate_callee (f:=112) rfl ?_);refine goesA (some 12) rfl rfl Try.func112 #[.int .i64 a0] rfl ?_;(with_reducible refine(impl_isWide.calls a0 true _ A5.out).mono ?_);rintro e w' ⟨rfl,⟨nd,rfl⟩⟩;refine⟨_,rfl,?_⟩;(try (rw[drewN_self w36];generalize hq_:World.drewN w36 _=w36;have n0_:Aside0 (w36.heap[gb249]?=some (.cells #[.slice none 0 0,.int .i64 0,.bool false] 62 (0,0))):=⟨by rw[← hq_];exact(bL BK249.out)⟩;have n1_:Aside0 (Below w.heap.size w w36):=⟨by rw[← hq_];exact(bS GE249.out)⟩;clear BK249 HB hq_;have BK249:=n0_;have HB:=n1_;clear n0_ n1_)))|(go_at_call 79;(with_reducible refine(impl_within.calls a1 0 (wrap64 (a0 - 1)) true _ A7.out).mono ?_);rintro e w' ⟨rfl,⟨nd,rfl⟩⟩;(try (rw[drewN_self w36];generalize hq_:World.drewN w36 _=w36;have n0_:Aside0 (w36.heap[gb249]?=some (.cells #[.slice none 0 0,.int .i64 0,.bool false] 62 (0,0))):=⟨by rw[← hq_];exact(bL BK249.out)⟩;have n1_:Aside0 (Below w.heap.size w w36):=⟨by rw[← hq_];exact(bS GE249.out)⟩;clear BK249 HB hq_;have BK249:=n0_;have HB:=n1_;clear n0_ n1_)))|(go_at_call 79;(with_reducible refine(impl_within.calls a2 0 (wrap64 (a0 - 1)) false _ A9.out).mono ?_);rintro e w' ⟨rfl,⟨nd,rfl⟩⟩;(try (rw[drewN_self w36];generalize hq_:World.drewN w36 _=w36;have n0_:Aside0 (w36.heap[gb249]?=some (.cells #[.slice none 0 0,.int .i64 0,.bool false] 62 (0,0))):=⟨by rw[← hq_];exact(bL BK249.out)⟩;have n1_:Aside0 (Below w.heap.size w w36):=⟨by rw[← hq_];exact(bS GE249.out)⟩;clear BK249 HB hq_;have BK249:=n0_;have HB:=n1_;clear n0_ n1_));obtain⟨hcz37_0,hcz37_1,hcz37_2⟩:=cC3 BK249.out;obtain⟨hfz37_0,hfz37_1,hfz37_2⟩:=cF3 BK249.out))
    refine bodyPost_ret (results_ct rfl _ _ gb249 62 #[.slice none 0 0,.int .i64 0,.bool false] (0,0) _ rfl (b5_) Try.underlying62 rfl (b4_)) rfl ?_
    exact⟨_,by first|rfl|(simp[errW_none,errW_some]<;>rfl)|(simp[*,errW_none,errW_some]<;>rfl),by first|exact Kd.R_nil _ _ _ _ _|exact Kd.N_nil _ _ _ _ _|exact Kd.V_nil _ _ _ _ _|exact Kd.Q_nil _ _ _ _ _|exact Kd.S_nil _ _ _ _ _,bS GE249.out⟩
  ·replace c8:=Bool.eq_false_iff.mpr c8
   subst c8
   have H1:(some (([]:List Int),0,false,false))=some (r1,r2,r3,r4):=by rw[if_neg (show ¬ (false=true) by decide)] at H;exact H
   clear H
   have H:=H1
   clear H1
   simp only[Option.some.injEq,Prod.mk.injEq] at H
   obtain⟨rfl,rfl,rfl,rfl⟩:=H
   go_enter Try.func107,Try.ntmps107
   go_wp2_with (first|((with_reducible refine gate_dst (N:=8) rfl ?_);refine box_event ?hg (N:=8) ?hd (cs:=#[.slice none 0 0,.int .i64 0,.bool false]) (t:=62) ?hr ?_;(case hd=>rfl);(case hg=>rfl);(case hr=>first|(go_simp;done)|(go_simp;rfl));intro gb249 hg w38 hbox hb;have n0_:=am (below_step (bB) hb);have n1_:=am (hbox);have n2_:=am ((bG:w.heap.size≤gb249));have n3_:=am ((bG:w.heap.size≤gb249));clear HB;have HB:=n0_;have BK249:=n1_;have GW249:=n2_;have GE249:=n3_;clear n0_ n1_ n2_ n3_;clear hb hbox hg)|((with_reducible refine gate_callee (f:=112) rfl ?_);refine goesA (some 12) rfl rfl Try.func112 #[.int .i64 a0] rfl ?_;(with_reducible refine(impl_isWide.calls a0 true _ A5.out).mono ?_);rintro e w' ⟨rfl,⟨nd,rfl⟩⟩;refine⟨_,rfl,?_⟩;(try (rw[drewN_self w38];generalize hq_:World.drewN w38 _=w38;have n0_:Aside0 (w38.heap[gb249]?=some (.cells #[.slice none 0 0,.int .i64 0,.bool false] 62 (0,0))):=⟨by rw[← hq_];exact(bL BK249.out)⟩;have n1_:Aside0 (Below w.heap.size w w38):=⟨by rw[← hq_];exact(bS GE249.out)⟩;clear BK249 HB hq_;have BK249:=n0_;have HB:=n1_;clear n0_ n1_)))|(go_at_call 79;(with_reducible refine(impl_within.calls a1 0 (wrap64 (a0 - 1)) false _ A7.out).mono ?_);rintro e w' ⟨rfl,⟨nd,rfl⟩⟩;(try (rw[drewN_self w38];generalize hq_:World.drewN w38 _=w38;have n0_:Aside0 (w38.heap[gb249]?=some (.cells #[.slice none 0 0,.int .i64 0,.bool false] 62 (0,0))):=⟨by rw[← hq_];exact(bL BK249.out)⟩;have n1_:Aside0 (Below w.heap.size w w38):=⟨by rw[← hq_];exact(bS GE249.out)⟩;clear BK249 HB hq_;have BK249:=n0_;have HB:=n1_;clear n0_ n1_));obtain⟨hcz39_0,hcz39_1,hcz39_2⟩:=cC3 BK249.out;obtain⟨hfz39_0,hfz39_1,hfz39_2⟩:=cF3 BK249.out))
   refine bodyPost_ret (results_ct rfl _ _ gb249 62 #[.slice none 0 0,.int .i64 0,.bool false] (0,0) _ rfl (b5_) Try.underlying62 rfl (b4_)) rfl ?_
   exact⟨_,by first|rfl|(simp[errW_none,errW_some]<;>rfl)|(simp[*,errW_none,errW_some]<;>rfl),by first|exact Kd.R_nil _ _ _ _ _|exact Kd.N_nil _ _ _ _ _|exact Kd.V_nil _ _ _ _ _|exact Kd.Q_nil _ _ _ _ _|exact Kd.S_nil _ _ _ _ _,bS GE249.out⟩
 ·replace c6:=Bool.eq_false_iff.mpr c6
  subst c6
  have H1:(some (([]:List Int),0,false,false))=some (r1,r2,r3,r4):=by rw[if_neg (show ¬ (false=true) by decide)] at H;exact H
  clear H
  have H:=H1
  clear H1
  simp only[Option.some.injEq,Prod.mk.injEq] at H
  obtain⟨rfl,rfl,rfl,rfl⟩:=H
  go_enter Try.func107,Try.ntmps107
  go_wp2_with (first|((with_reducible refine gate_dst (N:=8) rfl ?_);refine box_event ?hg (N:=8) ?hd (cs:=#[.slice none 0 0,.int .i64 0,.bool false]) (t:=62) ?hr ?_;(case hd=>rfl);(case hg=>rfl);(case hr=>first|(go_simp;done)|(go_simp;rfl));intro gb249 hg w40 hbox hb;have n0_:=am (below_step (bB) hb);have n1_:=am (hbox);have n2_:=am ((bG:w.heap.size≤gb249));have n3_:=am ((bG:w.heap.size≤gb249));clear HB;have HB:=n0_;have BK249:=n1_;have GW249:=n2_;have GE249:=n3_;clear n0_ n1_ n2_ n3_;clear hb hbox hg)|((with_reducible refine gate_callee (f:=112) rfl ?_);refine goesA (some 12) rfl rfl Try.func112 #[.int .i64 a0] rfl ?_;(with_reducible refine(impl_isWide.calls a0 false _ A5.out).mono ?_);rintro e w' ⟨rfl,⟨nd,rfl⟩⟩;refine⟨_,rfl,?_⟩;(try (rw[drewN_self w40];generalize hq_:World.drewN w40 _=w40;have n0_:Aside0 (w40.heap[gb249]?=some (.cells #[.slice none 0 0,.int .i64 0,.bool false] 62 (0,0))):=⟨by rw[← hq_];exact(bL BK249.out)⟩;have n1_:Aside0 (Below w.heap.size w w40):=⟨by rw[← hq_];exact(bS GE249.out)⟩;clear BK249 HB hq_;have BK249:=n0_;have HB:=n1_;clear n0_ n1_));obtain⟨hcz41_0,hcz41_1,hcz41_2⟩:=cC3 BK249.out;obtain⟨hfz41_0,hfz41_1,hfz41_2⟩:=cF3 BK249.out))
  refine bodyPost_ret (results_ct rfl _ _ gb249 62 #[.slice none 0 0,.int .i64 0,.bool false] (0,0) _ rfl (b5_) Try.underlying62 rfl (b4_)) rfl ?_
  exact⟨_,by first|rfl|(simp[errW_none,errW_some]<;>rfl)|(simp[*,errW_none,errW_some]<;>rfl),by first|exact Kd.R_nil _ _ _ _ _|exact Kd.N_nil _ _ _ _ _|exact Kd.V_nil _ _ _ _ _|exact Kd.Q_nil _ _ _ _ _|exact Kd.S_nil _ _ _ _ _,bS GE249.out⟩

/-! ### impl_PlaySpray: function 38 -/
mutual
def impl_PlaySpray.j0:Nat→List (S72)→Bool→List Int→Int→Bool→Option (List Int × Int × Bool × Int × Bool)
 | 0,_,_,_,_,_=>none
 | k+1,x4,x34,x267000,x267001,x267002=>if x34=true then (some (([]:List Int),0,false,0,false)) else (impl_PlaySpray.l0 k 0 x4 (x4.length:Int) 0 x267000 x267001 x267002)
def impl_PlaySpray.l0:Nat→Int→List (S72)→Int→Int→List Int→Int→Bool→Option (List Int × Int × Bool × Int × Bool)
 | 0,_,_,_,_,_,_,_=>none
 | k+1,x15,x36,x37,x38,x267000,x267001,x267002=>if x38 < x37 then (if 0≤x38 then (if x38 < (x36.length:Int) then ((impl_MeetBoth.f k x267000 x267001 x267002 ((rd_T72 x36 x38).f0) ((rd_T72 x36 x38).f1)).bind fun bt269=>(if bt269.2.2.2=true then (if bt269.2.2.1=true then (if x267002=true then (impl_PlaySpray.l0 k x15 x36 x37 (wrap64 (x38+1)) bt269.1 bt269.2.1 bt269.2.2.1) else (impl_PlaySpray.l0 k (wrap64 (x38+1)) x36 x37 (wrap64 (x38+1)) bt269.1 bt269.2.1 bt269.2.2.1)) else (impl_PlaySpray.l0 k x15 x36 x37 (wrap64 (x38+1)) bt269.1 bt269.2.1 bt269.2.2.1)) else (some (([]:List Int),0,false,0,false)))) else (none)) else (none)) else (some (x267000,x267001,x267002,x15,true))
end
def impl_PlaySpray.f (k:Nat) (a0:Int) (a1:Int) (a2:Int) (a3:Int) (l4:List (S72)):Option (List Int × Int × Bool × Int × Bool):=(impl_NewSpray.f a0 a1 a2 a3).bind fun bt260=>(if bt260.2.2.2=true then (impl_PlaySpray.j0 k l4 (decide ((l4.length:Int) > 100)) bt260.1 bt260.2.1 bt260.2.2.1) else (impl_PlaySpray.j0 k l4 true bt260.1 bt260.2.1 bt260.2.2.1))
theorem impl_PlaySpray.mono_l : ∀ k,(∀ y0 y1 y2 y3 y4,LeO (impl_PlaySpray.j0 k y0 y1 y2 y3 y4) (impl_PlaySpray.j0 (k+1) y0 y1 y2 y3 y4))∧(∀ y0 y1 y2 y3 y4 y5 y6,LeO (impl_PlaySpray.l0 k y0 y1 y2 y3 y4 y5 y6) (impl_PlaySpray.l0 (k+1) y0 y1 y2 y3 y4 y5 y6))
 | 0=>⟨fun _ _ _ _ _ r h=>by simp[impl_PlaySpray.j0] at h,fun _ _ _ _ _ _ _ r h=>by simp[impl_PlaySpray.l0] at h⟩
 | k+1=>by
  obtain⟨ih0,ih1⟩:=impl_PlaySpray.mono_l k
  refine⟨?_,?_⟩
  ·intro y0 y1 y2 y3 y4
   unfold impl_PlaySpray.j0
   repeat' first
   | (with_reducible exact ih0 _ _ _ _ _)
   | (with_reducible exact ih1 _ _ _ _ _ _ _)
   | (with_reducible exact impl_MeetBoth.mono _ _ _ _ _ _)
   | (with_reducible exact LeO.refl _)
   | (with_reducible exact LeO.none _)
   | (with_reducible refine LeO.ite ?_ ?_)
   | (with_reducible refine LeO.bind ?_ (fun _ => ?_))
  ·intro y0 y1 y2 y3 y4 y5 y6
   unfold impl_PlaySpray.l0
   repeat' first
   | (with_reducible exact ih0 _ _ _ _ _)
   | (with_reducible exact ih1 _ _ _ _ _ _ _)
   | (with_reducible exact impl_MeetBoth.mono _ _ _ _ _ _)
   | (with_reducible exact LeO.refl _)
   | (with_reducible exact LeO.none _)
   | (with_reducible refine LeO.ite ?_ ?_)
   | (with_reducible refine LeO.bind ?_ (fun _ => ?_))
theorem impl_PlaySpray.mono : ∀ a0 a1 a2 a3 a4 k,LeO (impl_PlaySpray.f k a0 a1 a2 a3 a4) (impl_PlaySpray.f (k+1) a0 a1 a2 a3 a4):=by
 intro a0 a1 a2 a3 a4 k
 obtain⟨ih0,ih1⟩:=impl_PlaySpray.mono_l k
 unfold impl_PlaySpray.f
 repeat' first
  | (with_reducible exact ih0 _ _ _ _ _)
  | (with_reducible exact ih1 _ _ _ _ _ _ _)
  | (with_reducible exact impl_MeetBoth.mono _ _ _ _ _ _)
  | (with_reducible exact LeO.refl _)
  | (with_reducible exact LeO.none _)
  | (with_reducible refine LeO.ite ?_ ?_)
  | (with_reducible refine LeO.bind ?_ (fun _ => ?_))
set_option maxHeartbeats 8000000 in
set_option maxRecDepth 100000 in
theorem impl_PlaySpray.calls (k:Nat) (a0:Int) (a1:Int) (a2:Int) (a3:Int) (A4:Option Addr) (c4:Nat) (l4:List (S72)) (r1:List Int) (r2:Int) (r3:Bool) (r4:Int) (r5:Bool) (w:World) (hr4:Kd.C k72 w A4 l4.length l4) (hc4:l4.length≤c4) (h:impl_PlaySpray.f k a0 a1 a2 a3 l4=some (r1,r2,r3,r4,r5)) :
  Calls Try.prog 38 #[.int .i64 a0,.int .i64 a1,.int .i64 a2,.int .i64 a3,.slice A4 l4.length c4] w fun e w' => ∃ v0_:Value,e=.returned (.tuple #[.agg #[v0_,.int .i64 r2,.bool r3],.int .i64 r4,.bool r5])∧Kd.R (Kd.int .i64) 3 w' w.heap.size (fun _=>True) v0_ r1∧Below w.heap.size w w':=by
 have hu62:=Try.underlying62
 have hu72:=Try.underlying72
 have HR4:=am hr4
 have HC4:=am hc4
 clear hr4 hc4
 have HB:=am (Below.refl w.heap.size w)
 have H:((impl_NewSpray.f a0 a1 a2 a3).bind fun bt260=>(if bt260.2.2.2=true then (impl_PlaySpray.j0 k l4 (decide ((l4.length:Int) > 100)) bt260.1 bt260.2.1 bt260.2.2.1) else (impl_PlaySpray.j0 k l4 true bt260.1 bt260.2.1 bt260.2.2.1)))=some (r1,r2,r3,r4,r5):=h
 clear h
 replace H:=bI_ H
 obtain⟨⟨t260,t263,t264,t265⟩,A60,H⟩:=H
 replace H:(if t265=true then (impl_PlaySpray.j0 k l4 (decide ((l4.length:Int) > 100)) t260 t263 t264) else (impl_PlaySpray.j0 k l4 true t260 t263 t264))=some (r1,r2,r3,r4,r5):=H
 have A6:=am A60
 clear A60
 have HC7:=am H
 clear H
 go_enter Try.func38,Try.ntmps38
 go_upto_region 2 with (first|((with_reducible refine gate_dst (N:=10) rfl ?_);(try (refine gate_guard (by rfl) ?_;dsimp only));refine box_event ?hg (N:=10) ?hd (cs:=#[.slice none 0 0,.int .i64 0,.bool false]) (t:=62) ?hr ?_;(case hd=>rfl);(case hg=>rfl);(case hr=>first|(go_simp;done)|(go_simp;rfl));intro gb259 hg w8 hbox hb;have n0_:=am (below_step (bB) hb);have n1_:=am (hbox);have n2_:=am ((bG:w.heap.size≤gb259));have n3_:=am ((bG:w.heap.size≤gb259));clear HB;have HB:=n0_;have BK259:=n1_;have GW259:=n2_;have GE259:=n3_;clear n0_ n1_ n2_ n3_;clear hb hbox hg)|((with_reducible refine gate_callee (f:=107) rfl ?_);refine goesA (some 25) rfl rfl Try.func107 #[.int .i64 a0,.int .i64 a1,.int .i64 a2,.int .i64 a3] rfl ?_;(with_reducible refine(impl_NewSpray.calls a0 a1 a2 a3 t260 t263 t264 t265 _ A6.out).mono ?_);rintro e w9 ⟨v261,rfl,ho0,hb⟩;refine⟨_,rfl,?_⟩;have n0_:=am (Kd.R_lower ho0 (below_size (bS GE259.out)));have n1_:=am (bM BK259.out hb);have n2_:=am (below_step (bS GE259.out) hb);clear BK259 HB;have HO262:=n0_;have BK259:=n1_;have HB:=n2_;clear n0_ n1_ n2_;(try clear hb);(try clear hb2);(try clear hk);(try clear hi);(try clear ho0))|((with_reducible refine gate_dst (N:=13) rfl ?_);(try (refine gate_guard (by rfl) ?_;dsimp only));refine box_event ?hg (N:=13) ?hd (cs:=#[.slice none 0 0,.int .i64 0,.bool false]) (t:=62) ?hr ?_;(case hd=>rfl);(case hg=>rfl);(case hr=>first|(go_simp;done)|(go_simp;rfl));intro gb266 hg w10 hbox hb;have n0_:=am (Kd.R_below (bK HO262.out) hb);have n1_:=am (bM BK259.out hb);have n2_:=am (below_step (bS GE259.out) hb);have n3_:=am (hbox);have n4_:=am ((by rw[hg];exact(below_size (bS GE259.out)):w.heap.size≤gb266));have n5_:=am ((by rw[hg];exact(below_size (bS GE259.out)):w.heap.size≤gb266));have n6_:=am ((bN BK259.out hg:gb259≠gb266));have n7_:=am ((bO BK259.out hg:gb266≠gb259));clear HO262 BK259 HB;have HO262:=n0_;have BK259:=n1_;have HB:=n2_;have BK266:=n3_;have GW266:=n4_;have GE266:=n5_;have NB259_266:=n6_;have NB266_259:=n7_;clear n0_ n1_ n2_ n3_ n4_ n5_ n6_ n7_;clear hb hbox hg;obtain⟨Ao11,co11,eo11⟩:=Kd.R_slice HO262.out;subst eo11;have hnb12:=NB266_259.out;have hnc12:=NB259_266.out;obtain⟨hcz13_0,hcz13_1,hcz13_2⟩:=cC3 BK266.out;obtain⟨hfz13_0,hfz13_1,hfz13_2⟩:=cF3 BK266.out))
 (try simp only[Act.put,zA,zB,zC])
 go_cut [34] (fun v34 wc => ∃ (kq:Nat) (x34_6:Bool),v34=.bool x34_6∧Aside0 (impl_PlaySpray.j0 kq l4 x34_6 t260 t263 t264=some (r1,r2,r3,r4,r5))∧Aside0 (kq≤k)∧Aside0 (Kd.R (Kd.int .i64) 3 wc w.heap.size (fun _=>True) (.slice Ao11 t260.length co11) t260)∧Aside0 (wc.heap[gb259]?=some (.cells #[(.slice none 0 0),.int .i64 0,.bool false] 62 (0,0)))∧Aside0 (wc.heap[gb266]?=some (.cells #[(.slice Ao11 t260.length co11),.int .i64 t263,.bool t264] 62 (0,0)))∧Aside0 (Below w.heap.size w wc))
 case first =>
  have H:=HC7.out
  clear HC7
  by_cases c14:t265=true
  ·subst c14
   have H1:(impl_PlaySpray.j0 k l4 (decide ((l4.length:Int) > 100)) t260 t263 t264)=some (r1,r2,r3,r4,r5):=by rw[if_pos rfl] at H;exact H
   clear H
   have H:=H1
   clear H1
   have H':=am H
   clear H
   go_wp2
   go_meet
   case rel=>exact⟨_,(decide ((l4.length:Int) > 100)),(bR),H',⟨by first|omega|exact Nat.le_refl _⟩,⟨by(with_reducible repeat (first|apply Kd.R_alloc|apply Kd.R_drewN|apply Kd.R_drew));exact Kd.R_mono (Kd.R_far (p:=⟨gb266,2,none⟩) (Kd.R_far (p:=⟨gb266,1,none⟩) (Kd.R_far (p:=⟨gb266,0,none⟩) (Kd.R_types HO262.out BK266.out (b17_)) (fun _ hk=>hk.2) (.slice Ao11 t260.length co11)) (fun _ hk=>hk.2) (.int .i64 t263)) (fun _ hk=>hk.2) (.bool t264)) (fun _ hk=>trivial)⟩,⟨by(with_reducible repeat (first|refine blk_drewN ?_ _|refine blk_drew ?_|refine blk_alloc ?_ _));refine blk_far ?_ NB259_266.out _;(with_reducible repeat (first|refine blk_drewN ?_ _|refine blk_drew ?_|refine blk_alloc ?_ _));refine blk_far ?_ NB259_266.out _;(with_reducible repeat (first|refine blk_drewN ?_ _|refine blk_drew ?_|refine blk_alloc ?_ _));refine blk_far ?_ NB259_266.out _;(with_reducible repeat (first|refine blk_drewN ?_ _|refine blk_drew ?_|refine blk_alloc ?_ _));exact BK259.out⟩,⟨by(with_reducible repeat (first|refine blk_drewN ?_ _|refine blk_drew ?_|refine blk_alloc ?_ _));apply bU3;(with_reducible repeat (first|refine blk_drewN ?_ _|refine blk_drew ?_|refine blk_alloc ?_ _));exact BK266.out⟩,⟨bS2 GE259.out GE266.out⟩⟩
  ·replace c14:=Bool.eq_false_iff.mpr c14
   subst c14
   have H1:(impl_PlaySpray.j0 k l4 true t260 t263 t264)=some (r1,r2,r3,r4,r5):=by rw[if_neg (show ¬ (false=true) by decide)] at H;exact H
   clear H
   have H:=H1
   clear H1
   have H':=am H
   clear H
   go_wp2
   go_meet
   case rel=>exact⟨_,(true),(bR),H',⟨by first|omega|exact Nat.le_refl _⟩,⟨by(with_reducible repeat (first|apply Kd.R_alloc|apply Kd.R_drewN|apply Kd.R_drew));exact Kd.R_mono (Kd.R_far (p:=⟨gb266,2,none⟩) (Kd.R_far (p:=⟨gb266,1,none⟩) (Kd.R_far (p:=⟨gb266,0,none⟩) (Kd.R_types HO262.out BK266.out (b17_)) (fun _ hk=>hk.2) (.slice Ao11 t260.length co11)) (fun _ hk=>hk.2) (.int .i64 t263)) (fun _ hk=>hk.2) (.bool t264)) (fun _ hk=>trivial)⟩,⟨by(with_reducible repeat (first|refine blk_drewN ?_ _|refine blk_drew ?_|refine blk_alloc ?_ _));refine blk_far ?_ NB259_266.out _;(with_reducible repeat (first|refine blk_drewN ?_ _|refine blk_drew ?_|refine blk_alloc ?_ _));refine blk_far ?_ NB259_266.out _;(with_reducible repeat (first|refine blk_drewN ?_ _|refine blk_drew ?_|refine blk_alloc ?_ _));refine blk_far ?_ NB259_266.out _;(with_reducible repeat (first|refine blk_drewN ?_ _|refine blk_drew ?_|refine blk_alloc ?_ _));exact BK259.out⟩,⟨by(with_reducible repeat (first|refine blk_drewN ?_ _|refine blk_drew ?_|refine blk_alloc ?_ _));apply bU3;(with_reducible repeat (first|refine blk_drewN ?_ _|refine blk_drew ?_|refine blk_alloc ?_ _));exact BK266.out⟩,⟨bS2 GE259.out GE266.out⟩⟩
 case rest =>
  clear HC7
  try clear c1
  try clear p2
  try clear c3
  try clear c4
  try clear c10
  try clear c12
  try clear c14
  try clear hcz13_0 hcz13_1 hcz13_2
  try clear hfz13_0 hfz13_1 hfz13_2
  obtain⟨kq,x34_6,rfl,HA,HJ6,HO_267000,BK259,BK266,HB⟩:=hcut
  cases kq with
  | zero=>exact absurd HA.out (by simp[impl_PlaySpray.j0])
  | succ kj6 =>
   have H:=HA.out
   clear HA
   simp only[impl_PlaySpray.j0] at H
   by_cases c15:x34_6=true
   ·subst c15
    have H1:(some (([]:List Int),0,false,0,false))=some (r1,r2,r3,r4,r5):=by rw[if_pos rfl] at H;exact H
    clear H
    have H:=H1
    clear H1
    simp only[Option.some.injEq,Prod.mk.injEq] at H
    obtain⟨rfl,rfl,rfl,rfl,rfl⟩:=H
    have hnb16:=NB259_266.out
    have hnc16:=NB266_259.out
    obtain⟨hcz17_0,hcz17_1,hcz17_2⟩:=cC3 BK259.out
    obtain⟨hfz17_0,hfz17_1,hfz17_2⟩:=cF3 BK259.out
    go_wp2
    refine bodyPost_ret (results_ctt rfl _ _ gb259 62 #[.slice none 0 0,.int .i64 0,.bool false] (0,0) _ rfl (by(with_reducible repeat (first|refine blk_drewN ?_ _|refine blk_drew ?_|refine blk_alloc ?_ _));apply bU3;(with_reducible repeat (first|refine blk_drewN ?_ _|refine blk_drew ?_|refine blk_alloc ?_ _));exact BK259.out) Try.underlying62 rfl (b4_)) rfl ?_
    exact⟨_,by first|rfl|(simp[errW_none,errW_some]<;>rfl)|(simp[*,errW_none,errW_some]<;>rfl),by first|exact Kd.R_nil _ _ _ _ _|exact Kd.N_nil _ _ _ _ _|exact Kd.V_nil _ _ _ _ _|exact Kd.Q_nil _ _ _ _ _|exact Kd.S_nil _ _ _ _ _,bS2 GE259.out GE266.out⟩
   ·replace c15:=Bool.eq_false_iff.mpr c15
    subst c15
    have H1:(impl_PlaySpray.l0 kj6 0 l4 (l4.length:Int) 0 t260 t263 t264)=some (r1,r2,r3,r4,r5):=by rw[if_neg (show ¬ (false=true) by decide)] at H;exact H
    clear H
    have H:=H1
    clear H1
    have H':=am H
    clear H
    go_wp2
    go_loopg [15,38] kj6 (fun kq v15 v38 w' => ∃ (x15_2:Int) (x38_2:Int) (x260001_2:Int) (x260002_2:Bool) (x267000_2:List Int) (x267001_2:Int) (x267002_2:Bool) (u267000:Value),v15=.int .i64 x15_2∧v38=.int .i64 x38_2∧Aside0 (impl_PlaySpray.l0 kq x15_2 l4 (l4.length:Int) x38_2 x267000_2 x267001_2 x267002_2=some (r1,r2,r3,r4,r5))∧Aside0 (kq≤kj6)∧Aside0 (Kd.R (Kd.int .i64) 3 w' w.heap.size (fun _=>True) u267000 x267000_2)∧Aside0 (w'.heap[gb259]?=some (.cells #[(.slice none 0 0),.int .i64 x260001_2,.bool x260002_2] 62 (0,0)))∧Aside0 (w'.heap[gb266]?=some (.cells #[u267000,.int .i64 x267001_2,.bool x267002_2] 62 (0,0)))∧Aside0 (Below w.heap.size w w'))
    case atStart=>exact⟨(0),(0),(0),(false),(t260),(t263),(t264),(.slice Ao11 t260.length co11),(bR),(bR),H',⟨Nat.le_refl _⟩,⟨by(with_reducible repeat (first|apply Kd.R_alloc|apply Kd.R_drewN|apply Kd.R_drew));exact HO_267000.out⟩,⟨by(with_reducible repeat (first|refine blk_drewN ?_ _|refine blk_drew ?_|refine blk_alloc ?_ _));exact BK259.out⟩,⟨by(with_reducible repeat (first|refine blk_drewN ?_ _|refine blk_drew ?_|refine blk_alloc ?_ _));exact BK266.out⟩,⟨bS2 GE259.out GE266.out⟩⟩
    case round =>
     clear H'
     try clear c1
     try clear p2
     try clear c3
     try clear c4
     try clear c10
     try clear c12
     try clear c14
     try clear c15
     try clear c16
     try clear hcz13_0 hcz13_1 hcz13_2
     try clear hcz17_0 hcz17_1 hcz17_2
     try clear hfz13_0 hfz13_1 hfz13_2
     try clear hfz17_0 hfz17_1 hfz17_2
     try clear p2
     obtain⟨x15_2,x38_2,x260001_2,x260002_2,x267000_2,x267001_2,x267002_2,u267000,rfl,rfl,HA,HK2,HO_267000,BK259,BK266,HB⟩:=hrel
     cases gk with
     | zero=>exact absurd HA.out (by simp[impl_PlaySpray.l0])
     | succ k2 =>
      have H:=HA.out
      clear HA
      simp only[impl_PlaySpray.l0] at H
      by_cases c18:x38_2 < (l4.length:Int)
      ·rw[if_pos c18] at H
       have c18b0:decide (x38_2 < (l4.length:Int))=true:=decide_eq_true c18
       clear c18
       by_cases c19:0≤x38_2
       ·rw[if_pos c19] at H
        have c19b0:decide (0≤x38_2)=true:=decide_eq_true c19
        clear c19
        by_cases c20:x38_2 < (l4.length:Int)
        ·rw[if_pos c20] at H
         have c20b0:decide (x38_2 < (l4.length:Int))=true:=decide_eq_true c20
         clear c20
         replace H:=bI_ H
         obtain⟨⟨t269,t272,t273,t274⟩,A210,H⟩:=H
         replace H:(if t274=true then (if t273=true then (if x267002_2=true then (impl_PlaySpray.l0 k2 x15_2 l4 (l4.length:Int) (wrap64 (x38_2+1)) t269 t272 t273) else (impl_PlaySpray.l0 k2 (wrap64 (x38_2+1)) l4 (l4.length:Int) (wrap64 (x38_2+1)) t269 t272 t273)) else (impl_PlaySpray.l0 k2 x15_2 l4 (l4.length:Int) (wrap64 (x38_2+1)) t269 t272 t273)) else (some (([]:List Int),0,false,0,false)))=some (r1,r2,r3,r4,r5):=H
         have A21:=am A210
         clear A210
         by_cases c22:t274=true
         ·subst c22
          have H1:(if t273=true then (if x267002_2=true then (impl_PlaySpray.l0 k2 x15_2 l4 (l4.length:Int) (wrap64 (x38_2+1)) t269 t272 t273) else (impl_PlaySpray.l0 k2 (wrap64 (x38_2+1)) l4 (l4.length:Int) (wrap64 (x38_2+1)) t269 t272 t273)) else (impl_PlaySpray.l0 k2 x15_2 l4 (l4.length:Int) (wrap64 (x38_2+1)) t269 t272 t273))=some (r1,r2,r3,r4,r5):=by rw[if_pos rfl] at H;exact H
          clear H
          have H:=H1
          clear H1
          by_cases c23:t273=true
          ·subst c23
           have H1:(if x267002_2=true then (impl_PlaySpray.l0 k2 x15_2 l4 (l4.length:Int) (wrap64 (x38_2+1)) t269 t272 true) else (impl_PlaySpray.l0 k2 (wrap64 (x38_2+1)) l4 (l4.length:Int) (wrap64 (x38_2+1)) t269 t272 true))=some (r1,r2,r3,r4,r5):=by rw[if_pos rfl] at H;exact H
           clear H
           have H:=H1
           clear H1
           by_cases c24:x267002_2=true
           ·subst c24
            have H1:(impl_PlaySpray.l0 k2 x15_2 l4 (l4.length:Int) (wrap64 (x38_2+1)) t269 t272 true)=some (r1,r2,r3,r4,r5):=by rw[if_pos rfl] at H;exact H
            clear H
            have H:=H1
            clear H1
            have H':=am H
            clear H
            have p267:0≤(x38_2:Int):=bD_
            have q267:x38_2 < (l4.length:Int):=bD_
            obtain⟨ad267,e267,hx267_0,hx267_1⟩:=at_T72 HR4.out x38_2 p267 q267
            cases e267
            replace hx267_0:=bQ_ HB.out hx267_0
            replace hx267_1:=bQ_ HB.out hx267_1
            replace p267:=eq_true p267
            replace q267:=eq_true q267
            go_wp2_with (first|((with_reducible refine gate_dst (N:=17) rfl ?_);(try (refine gate_guard (by rfl) ?_;dsimp only));refine box_event ?hg (N:=17) ?hd (cs:=#[.int .i64 0,.int .i64 0]) (t:=72) ?hr ?_;(case hd=>rfl);(case hg=>rfl);(case hr=>first|(go_simp;done)|(go_simp;rfl));intro gb268 hg w25 hbox hb;have n0_:=am (Kd.R_below (bK HO_267000.out) hb);have n1_:=am (bM BK259.out hb);have n2_:=am (bM BK266.out hb);have n3_:=am (below_step (bS2 GE259.out GE266.out) hb);have n4_:=am (hbox);have n5_:=am ((by rw[hg];exact(below_size (bS2 GE259.out GE266.out)):w.heap.size≤gb268));have n6_:=am ((by rw[hg];exact(below_size (bS2 GE259.out GE266.out)):w.heap.size≤gb268));have n7_:=am ((bN BK259.out hg:gb259≠gb268));have n8_:=am ((bO BK259.out hg:gb268≠gb259));have n9_:=am ((bN BK266.out hg:gb266≠gb268));have n10_:=am ((bO BK266.out hg:gb268≠gb266));clear HO_267000 BK259 BK266 HB;have HO_267000:=n0_;have BK259:=n1_;have BK266:=n2_;have HB:=n3_;have BK268:=n4_;have GW268:=n5_;have GE268:=n6_;have NB259_268:=n7_;have NB268_259:=n8_;have NB266_268:=n9_;have NB268_266:=n10_;clear n0_ n1_ n2_ n3_ n4_ n5_ n6_ n7_ n8_ n9_ n10_;clear hb hbox hg;have hnb26:=NB268_259.out;have hnc26:=NB259_268.out;have hnb27:=NB268_266.out;have hnc27:=NB266_268.out;obtain⟨hcz28_0,hcz28_1⟩:=cC2 BK268.out;obtain⟨hfz28_0,hfz28_1⟩:=cF2 BK268.out;have hnb29:=NB266_259.out;have hnc29:=NB259_266.out;obtain⟨hcz30_0,hcz30_1,hcz30_2⟩:=cC3 BK266.out;obtain⟨hfz30_0,hfz30_1,hfz30_2⟩:=cF3 BK266.out;obtain⟨Ao31,co31,eo31⟩:=Kd.R_slice HO_267000.out;subst eo31)|((with_reducible refine gate_callee (f:=46) rfl ?_);refine goesA (some 46) rfl rfl Try.func46 #[.agg #[.slice Ao31 x267000_2.length co31,.int .i64 x267001_2,.bool true],.agg #[.int .i64 ((rd_T72 l4 x38_2).f0),.int .i64 ((rd_T72 l4 x38_2).f1)]] rfl ?_;(with_reducible refine(impl_MeetBoth.calls k2 _ _ x267000_2 x267001_2 true ((rd_T72 l4 x38_2).f0) ((rd_T72 l4 x38_2).f1) t269 t272 true true _ ?side1 ?side2 A21.out).mono ?_);(case side1=>refine(Kd.R_reads' (e:=3) (base:=w.heap.size) (ok:=fun k_=>True) (n:=x267000_2.length) (c:=co31) ?_).2.2;exact(b2_));(case side2=>exact(Kd.R_reads' HO_267000.out).2.1);rintro e w32 ⟨v270,rfl,ho0,hb⟩;refine⟨_,rfl,?_⟩;have n0_:=am (Kd.R_elder' (b2_) (Kd.R_base ho0) hb);have n1_:=am (Kd.R_lower (Kd.R_new' ho0 (Kd.R_lt (b2_))) (below_size (bS3 GE259.out GE266.out GE268.out)));have n2_:=am (blk_below (g:=gb259) (o:=.cells #[.slice none 0 0,.int .i64 x260001_2,.bool x260002_2] 62 (0,0)) (b12_) hb);have n3_:=am (blk_below (g:=gb266) (o:=.cells #[.slice Ao31 x267000_2.length co31,.int .i64 x267001_2,.bool true] 62 (0,0)) (b13_) hb);have n4_:=am (blk_below (g:=gb268) (o:=.cells #[.int .i64 ((rd_T72 l4 x38_2).f0),.int .i64 ((rd_T72 l4 x38_2).f1)] 72 (0,0)) (b7_) hb);have n5_:=am (below_step (bS3 GE259.out GE266.out GE268.out) hb);clear HO_267000 BK259 BK266 BK268 HB;have HO_267000:=n0_;have HO271:=n1_;have BK259:=n2_;have BK266:=n3_;have BK268:=n4_;have HB:=n5_;clear n0_ n1_ n2_ n3_ n4_ n5_;(try clear hb);(try clear hb2);(try clear hk);(try clear hi);(try clear ho0))|((with_reducible refine gate_dst (N:=18) rfl ?_);(try (refine gate_guard (by rfl) ?_;dsimp only));refine box_event ?hg (N:=18) ?hd (cs:=#[.slice none 0 0,.int .i64 0,.bool false]) (t:=62) ?hr ?_;(case hd=>rfl);(case hg=>rfl);(case hr=>first|(go_simp;done)|(go_simp;rfl));intro gb275 hg w33 hbox hb;have n0_:=am (Kd.R_below (bK HO_267000.out) hb);have n1_:=am (Kd.R_below (bK HO271.out) hb);have n2_:=am (bM BK259.out hb);have n3_:=am (bM BK266.out hb);have n4_:=am (bM BK268.out hb);have n5_:=am (below_step (bS3 GE259.out GE266.out GE268.out) hb);have n6_:=am (hbox);have n7_:=am ((by rw[hg];exact(below_size (bS3 GE259.out GE266.out GE268.out)):w.heap.size≤gb275));have n8_:=am ((by rw[hg];exact(below_size (bS3 GE259.out GE266.out GE268.out)):w.heap.size≤gb275));have n9_:=am ((bN BK259.out hg:gb259≠gb275));have n10_:=am ((bO BK259.out hg:gb275≠gb259));have n11_:=am ((bN BK266.out hg:gb266≠gb275));have n12_:=am ((bO BK266.out hg:gb275≠gb266));have n13_:=am ((bN BK268.out hg:gb268≠gb275));have n14_:=am ((bO BK268.out hg:gb275≠gb268));clear HO_267000 HO271 BK259 BK266 BK268 HB;have HO_267000:=n0_;have HO271:=n1_;have BK259:=n2_;have BK266:=n3_;have BK268:=n4_;have HB:=n5_;have BK275:=n6_;have GW275:=n7_;have GE275:=n8_;have NB259_275:=n9_;have NB275_259:=n10_;have NB266_275:=n11_;have NB275_266:=n12_;have NB268_275:=n13_;have NB275_268:=n14_;clear n0_ n1_ n2_ n3_ n4_ n5_ n6_ n7_ n8_ n9_ n10_ n11_ n12_ n13_ n14_;clear hb hbox hg;obtain⟨Ao34,co34,eo34⟩:=Kd.R_slice HO271.out;subst eo34;have hnb35:=NB275_259.out;have hnc35:=NB259_275.out;have hnb36:=NB275_266.out;have hnc36:=NB266_275.out;have hnb37:=NB275_268.out;have hnc37:=NB268_275.out;obtain⟨hcz38_0,hcz38_1,hcz38_2⟩:=cC3 BK275.out;obtain⟨hfz38_0,hfz38_1,hfz38_2⟩:=cF3 BK275.out;obtain⟨hcz39_0,hcz39_1,hcz39_2⟩:=cC3 BK266.out;obtain⟨hfz39_0,hfz39_1,hfz39_2⟩:=cF3 BK266.out))
            go_roundg k2
            case measure=>have:=HJ6.out;have:=HK2.out;omega
            case rel=>exact⟨(x15_2),(wrap64 (x38_2+1)),(x260001_2),(x260002_2),(t269),(t272),(true),(.slice Ao34 t269.length co34),(bR),(bR),H',⟨by have:=HJ6.out;have:=HK2.out;omega⟩,⟨by(with_reducible repeat (first|apply Kd.R_alloc|apply Kd.R_drewN|apply Kd.R_drew));exact Kd.R_mono (Kd.R_far (p:=⟨gb266,2,none⟩) (Kd.R_far (p:=⟨gb266,1,none⟩) (Kd.R_far (p:=⟨gb266,0,none⟩) (Kd.R_far (p:=⟨gb275,2,none⟩) (Kd.R_far (p:=⟨gb275,1,none⟩) (Kd.R_far (p:=⟨gb275,0,none⟩) (Kd.R_types (Kd.R_types HO271.out BK275.out (b17_)) BK266.out (b17_)) (fun _ hk=>hk.1.2) (.slice Ao34 t269.length co34)) (fun _ hk=>hk.1.2) (.int .i64 t272)) (fun _ hk=>hk.1.2) (.bool true)) (fun _ hk=>hk.2) (.slice Ao34 t269.length co34)) (fun _ hk=>hk.2) (.int .i64 t272)) (fun _ hk=>hk.2) (.bool true)) (fun _ hk=>trivial)⟩,⟨by(with_reducible repeat (first|refine blk_drewN ?_ _|refine blk_drew ?_|refine blk_alloc ?_ _));refine blk_far ?_ NB259_266.out _;(with_reducible repeat (first|refine blk_drewN ?_ _|refine blk_drew ?_|refine blk_alloc ?_ _));refine blk_far ?_ NB259_266.out _;(with_reducible repeat (first|refine blk_drewN ?_ _|refine blk_drew ?_|refine blk_alloc ?_ _));refine blk_far ?_ NB259_266.out _;(with_reducible repeat (first|refine blk_drewN ?_ _|refine blk_drew ?_|refine blk_alloc ?_ _));refine blk_far ?_ NB259_275.out _;(with_reducible repeat (first|refine blk_drewN ?_ _|refine blk_drew ?_|refine blk_alloc ?_ _));refine blk_far ?_ NB259_275.out _;(with_reducible repeat (first|refine blk_drewN ?_ _|refine blk_drew ?_|refine blk_alloc ?_ _));refine blk_far ?_ NB259_275.out _;(with_reducible repeat (first|refine blk_drewN ?_ _|refine blk_drew ?_|refine blk_alloc ?_ _));exact BK259.out⟩,⟨by(with_reducible repeat (first|refine blk_drewN ?_ _|refine blk_drew ?_|refine blk_alloc ?_ _));apply bU3;(with_reducible repeat (first|refine blk_drewN ?_ _|refine blk_drew ?_|refine blk_alloc ?_ _));refine blk_far ?_ NB266_275.out _;(with_reducible repeat (first|refine blk_drewN ?_ _|refine blk_drew ?_|refine blk_alloc ?_ _));refine blk_far ?_ NB266_275.out _;(with_reducible repeat (first|refine blk_drewN ?_ _|refine blk_drew ?_|refine blk_alloc ?_ _));refine blk_far ?_ NB266_275.out _;(with_reducible repeat (first|refine blk_drewN ?_ _|refine blk_drew ?_|refine blk_alloc ?_ _));exact BK266.out⟩,⟨bS4 GE259.out GE266.out GE268.out GE275.out⟩⟩
           ·replace c24:=Bool.eq_false_iff.mpr c24
            subst c24
            have H1:(impl_PlaySpray.l0 k2 (wrap64 (x38_2+1)) l4 (l4.length:Int) (wrap64 (x38_2+1)) t269 t272 true)=some (r1,r2,r3,r4,r5):=by rw[if_neg (show ¬ (false=true) by decide)] at H;exact H
            clear H
            have H:=H1
            clear H1
            have H':=am H
            clear H
            have p267:0≤(x38_2:Int):=bD_
            have q267:x38_2 < (l4.length:Int):=bD_
            obtain⟨ad267,e267,hx267_0,hx267_1⟩:=at_T72 HR4.out x38_2 p267 q267
            cases e267
            replace hx267_0:=bQ_ HB.out hx267_0
            replace hx267_1:=bQ_ HB.out hx267_1
            replace p267:=eq_true p267
            replace q267:=eq_true q267
            go_wp2_with (first|((with_reducible refine gate_dst (N:=17) rfl ?_);(try (refine gate_guard (by rfl) ?_;dsimp only));refine box_event ?hg (N:=17) ?hd (cs:=#[.int .i64 0,.int .i64 0]) (t:=72) ?hr ?_;(case hd=>rfl);(case hg=>rfl);(case hr=>first|(go_simp;done)|(go_simp;rfl));intro gb268 hg w40 hbox hb;have n0_:=am (Kd.R_below (bK HO_267000.out) hb);have n1_:=am (bM BK259.out hb);have n2_:=am (bM BK266.out hb);have n3_:=am (below_step (bS2 GE259.out GE266.out) hb);have n4_:=am (hbox);have n5_:=am ((by rw[hg];exact(below_size (bS2 GE259.out GE266.out)):w.heap.size≤gb268));have n6_:=am ((by rw[hg];exact(below_size (bS2 GE259.out GE266.out)):w.heap.size≤gb268));have n7_:=am ((bN BK259.out hg:gb259≠gb268));have n8_:=am ((bO BK259.out hg:gb268≠gb259));have n9_:=am ((bN BK266.out hg:gb266≠gb268));have n10_:=am ((bO BK266.out hg:gb268≠gb266));clear HO_267000 BK259 BK266 HB;have HO_267000:=n0_;have BK259:=n1_;have BK266:=n2_;have HB:=n3_;have BK268:=n4_;have GW268:=n5_;have GE268:=n6_;have NB259_268:=n7_;have NB268_259:=n8_;have NB266_268:=n9_;have NB268_266:=n10_;clear n0_ n1_ n2_ n3_ n4_ n5_ n6_ n7_ n8_ n9_ n10_;clear hb hbox hg;have hnb41:=NB268_259.out;have hnc41:=NB259_268.out;have hnb42:=NB268_266.out;have hnc42:=NB266_268.out;obtain⟨hcz43_0,hcz43_1⟩:=cC2 BK268.out;obtain⟨hfz43_0,hfz43_1⟩:=cF2 BK268.out;have hnb44:=NB266_259.out;have hnc44:=NB259_266.out;obtain⟨hcz45_0,hcz45_1,hcz45_2⟩:=cC3 BK266.out;obtain⟨hfz45_0,hfz45_1,hfz45_2⟩:=cF3 BK266.out;obtain⟨Ao46,co46,eo46⟩:=Kd.R_slice HO_267000.out;subst eo46)|((with_reducible refine gate_callee (f:=46) rfl ?_);refine goesA (some 46) rfl rfl Try.func46 #[.agg #[.slice Ao46 x267000_2.length co46,.int .i64 x267001_2,.bool false],.agg #[.int .i64 ((rd_T72 l4 x38_2).f0),.int .i64 ((rd_T72 l4 x38_2).f1)]] rfl ?_;(with_reducible refine(impl_MeetBoth.calls k2 _ _ x267000_2 x267001_2 false ((rd_T72 l4 x38_2).f0) ((rd_T72 l4 x38_2).f1) t269 t272 true true _ ?side1 ?side2 A21.out).mono ?_);(case side1=>refine(Kd.R_reads' (e:=3) (base:=w.heap.size) (ok:=fun k_=>True) (n:=x267000_2.length) (c:=co46) ?_).2.2;exact(b2_));(case side2=>exact(Kd.R_reads' HO_267000.out).2.1);rintro e w47 ⟨v270,rfl,ho0,hb⟩;refine⟨_,rfl,?_⟩;have n0_:=am (Kd.R_elder' (b2_) (Kd.R_base ho0) hb);have n1_:=am (Kd.R_lower (Kd.R_new' ho0 (Kd.R_lt (b2_))) (below_size (bS3 GE259.out GE266.out GE268.out)));have n2_:=am (blk_below (g:=gb259) (o:=.cells #[.slice none 0 0,.int .i64 x260001_2,.bool x260002_2] 62 (0,0)) (b12_) hb);have n3_:=am (blk_below (g:=gb266) (o:=.cells #[.slice Ao46 x267000_2.length co46,.int .i64 x267001_2,.bool false] 62 (0,0)) (b13_) hb);have n4_:=am (blk_below (g:=gb268) (o:=.cells #[.int .i64 ((rd_T72 l4 x38_2).f0),.int .i64 ((rd_T72 l4 x38_2).f1)] 72 (0,0)) (b7_) hb);have n5_:=am (below_step (bS3 GE259.out GE266.out GE268.out) hb);clear HO_267000 BK259 BK266 BK268 HB;have HO_267000:=n0_;have HO271:=n1_;have BK259:=n2_;have BK266:=n3_;have BK268:=n4_;have HB:=n5_;clear n0_ n1_ n2_ n3_ n4_ n5_;(try clear hb);(try clear hb2);(try clear hk);(try clear hi);(try clear ho0))|((with_reducible refine gate_dst (N:=18) rfl ?_);(try (refine gate_guard (by rfl) ?_;dsimp only));refine box_event ?hg (N:=18) ?hd (cs:=#[.slice none 0 0,.int .i64 0,.bool false]) (t:=62) ?hr ?_;(case hd=>rfl);(case hg=>rfl);(case hr=>first|(go_simp;done)|(go_simp;rfl));intro gb275 hg w48 hbox hb;have n0_:=am (Kd.R_below (bK HO_267000.out) hb);have n1_:=am (Kd.R_below (bK HO271.out) hb);have n2_:=am (bM BK259.out hb);have n3_:=am (bM BK266.out hb);have n4_:=am (bM BK268.out hb);have n5_:=am (below_step (bS3 GE259.out GE266.out GE268.out) hb);have n6_:=am (hbox);have n7_:=am ((by rw[hg];exact(below_size (bS3 GE259.out GE266.out GE268.out)):w.heap.size≤gb275));have n8_:=am ((by rw[hg];exact(below_size (bS3 GE259.out GE266.out GE268.out)):w.heap.size≤gb275));have n9_:=am ((bN BK259.out hg:gb259≠gb275));have n10_:=am ((bO BK259.out hg:gb275≠gb259));have n11_:=am ((bN BK266.out hg:gb266≠gb275));have n12_:=am ((bO BK266.out hg:gb275≠gb266));have n13_:=am ((bN BK268.out hg:gb268≠gb275));have n14_:=am ((bO BK268.out hg:gb275≠gb268));clear HO_267000 HO271 BK259 BK266 BK268 HB;have HO_267000:=n0_;have HO271:=n1_;have BK259:=n2_;have BK266:=n3_;have BK268:=n4_;have HB:=n5_;have BK275:=n6_;have GW275:=n7_;have GE275:=n8_;have NB259_275:=n9_;have NB275_259:=n10_;have NB266_275:=n11_;have NB275_266:=n12_;have NB268_275:=n13_;have NB275_268:=n14_;clear n0_ n1_ n2_ n3_ n4_ n5_ n6_ n7_ n8_ n9_ n10_ n11_ n12_ n13_ n14_;clear hb hbox hg;obtain⟨Ao49,co49,eo49⟩:=Kd.R_slice HO271.out;subst eo49;have hnb50:=NB275_259.out;have hnc50:=NB259_275.out;have hnb51:=NB275_266.out;have hnc51:=NB266_275.out;have hnb52:=NB275_268.out;have hnc52:=NB268_275.out;obtain⟨hcz53_0,hcz53_1,hcz53_2⟩:=cC3 BK275.out;obtain⟨hfz53_0,hfz53_1,hfz53_2⟩:=cF3 BK275.out;obtain⟨hcz54_0,hcz54_1,hcz54_2⟩:=cC3 BK266.out;obtain⟨hfz54_0,hfz54_1,hfz54_2⟩:=cF3 BK266.out))
            go_roundg k2
            case measure=>have:=HJ6.out;have:=HK2.out;omega
            case rel=>exact⟨(wrap64 (x38_2+1)),(wrap64 (x38_2+1)),(x260001_2),(x260002_2),(t269),(t272),(true),(.slice Ao49 t269.length co49),(bR),(bR),H',⟨by have:=HJ6.out;have:=HK2.out;omega⟩,⟨by(with_reducible repeat (first|apply Kd.R_alloc|apply Kd.R_drewN|apply Kd.R_drew));exact Kd.R_mono (Kd.R_far (p:=⟨gb266,2,none⟩) (Kd.R_far (p:=⟨gb266,1,none⟩) (Kd.R_far (p:=⟨gb266,0,none⟩) (Kd.R_far (p:=⟨gb275,2,none⟩) (Kd.R_far (p:=⟨gb275,1,none⟩) (Kd.R_far (p:=⟨gb275,0,none⟩) (Kd.R_types (Kd.R_types HO271.out BK275.out (b17_)) BK266.out (b17_)) (fun _ hk=>hk.1.2) (.slice Ao49 t269.length co49)) (fun _ hk=>hk.1.2) (.int .i64 t272)) (fun _ hk=>hk.1.2) (.bool true)) (fun _ hk=>hk.2) (.slice Ao49 t269.length co49)) (fun _ hk=>hk.2) (.int .i64 t272)) (fun _ hk=>hk.2) (.bool true)) (fun _ hk=>trivial)⟩,⟨by(with_reducible repeat (first|refine blk_drewN ?_ _|refine blk_drew ?_|refine blk_alloc ?_ _));refine blk_far ?_ NB259_266.out _;(with_reducible repeat (first|refine blk_drewN ?_ _|refine blk_drew ?_|refine blk_alloc ?_ _));refine blk_far ?_ NB259_266.out _;(with_reducible repeat (first|refine blk_drewN ?_ _|refine blk_drew ?_|refine blk_alloc ?_ _));refine blk_far ?_ NB259_266.out _;(with_reducible repeat (first|refine blk_drewN ?_ _|refine blk_drew ?_|refine blk_alloc ?_ _));refine blk_far ?_ NB259_275.out _;(with_reducible repeat (first|refine blk_drewN ?_ _|refine blk_drew ?_|refine blk_alloc ?_ _));refine blk_far ?_ NB259_275.out _;(with_reducible repeat (first|refine blk_drewN ?_ _|refine blk_drew ?_|refine blk_alloc ?_ _));refine blk_far ?_ NB259_275.out _;(with_reducible repeat (first|refine blk_drewN ?_ _|refine blk_drew ?_|refine blk_alloc ?_ _));exact BK259.out⟩,⟨by(with_reducible repeat (first|refine blk_drewN ?_ _|refine blk_drew ?_|refine blk_alloc ?_ _));apply bU3;(with_reducible repeat (first|refine blk_drewN ?_ _|refine blk_drew ?_|refine blk_alloc ?_ _));refine blk_far ?_ NB266_275.out _;(with_reducible repeat (first|refine blk_drewN ?_ _|refine blk_drew ?_|refine blk_alloc ?_ _));refine blk_far ?_ NB266_275.out _;(with_reducible repeat (first|refine blk_drewN ?_ _|refine blk_drew ?_|refine blk_alloc ?_ _));refine blk_far ?_ NB266_275.out _;(with_reducible repeat (first|refine blk_drewN ?_ _|refine blk_drew ?_|refine blk_alloc ?_ _));exact BK266.out⟩,⟨bS4 GE259.out GE266.out GE268.out GE275.out⟩⟩
          ·replace c23:=Bool.eq_false_iff.mpr c23
           subst c23
           have H1:(impl_PlaySpray.l0 k2 x15_2 l4 (l4.length:Int) (wrap64 (x38_2+1)) t269 t272 false)=some (r1,r2,r3,r4,r5):=by rw[if_neg (show ¬ (false=true) by decide)] at H;exact H
           clear H
           have H:=H1
           clear H1
           have H':=am H
           clear H
           have p267:0≤(x38_2:Int):=bD_
           have q267:x38_2 < (l4.length:Int):=bD_
           obtain⟨ad267,e267,hx267_0,hx267_1⟩:=at_T72 HR4.out x38_2 p267 q267
           cases e267
           replace hx267_0:=bQ_ HB.out hx267_0
           replace hx267_1:=bQ_ HB.out hx267_1
           replace p267:=eq_true p267
           replace q267:=eq_true q267
           go_wp2_with (first|((with_reducible refine gate_dst (N:=17) rfl ?_);(try (refine gate_guard (by rfl) ?_;dsimp only));refine box_event ?hg (N:=17) ?hd (cs:=#[.int .i64 0,.int .i64 0]) (t:=72) ?hr ?_;(case hd=>rfl);(case hg=>rfl);(case hr=>first|(go_simp;done)|(go_simp;rfl));intro gb268 hg w55 hbox hb;have n0_:=am (Kd.R_below (bK HO_267000.out) hb);have n1_:=am (bM BK259.out hb);have n2_:=am (bM BK266.out hb);have n3_:=am (below_step (bS2 GE259.out GE266.out) hb);have n4_:=am (hbox);have n5_:=am ((by rw[hg];exact(below_size (bS2 GE259.out GE266.out)):w.heap.size≤gb268));have n6_:=am ((by rw[hg];exact(below_size (bS2 GE259.out GE266.out)):w.heap.size≤gb268));have n7_:=am ((bN BK259.out hg:gb259≠gb268));have n8_:=am ((bO BK259.out hg:gb268≠gb259));have n9_:=am ((bN BK266.out hg:gb266≠gb268));have n10_:=am ((bO BK266.out hg:gb268≠gb266));clear HO_267000 BK259 BK266 HB;have HO_267000:=n0_;have BK259:=n1_;have BK266:=n2_;have HB:=n3_;have BK268:=n4_;have GW268:=n5_;have GE268:=n6_;have NB259_268:=n7_;have NB268_259:=n8_;have NB266_268:=n9_;have NB268_266:=n10_;clear n0_ n1_ n2_ n3_ n4_ n5_ n6_ n7_ n8_ n9_ n10_;clear hb hbox hg;have hnb56:=NB268_259.out;have hnc56:=NB259_268.out;have hnb57:=NB268_266.out;have hnc57:=NB266_268.out;obtain⟨hcz58_0,hcz58_1⟩:=cC2 BK268.out;obtain⟨hfz58_0,hfz58_1⟩:=cF2 BK268.out;have hnb59:=NB266_259.out;have hnc59:=NB259_266.out;obtain⟨hcz60_0,hcz60_1,hcz60_2⟩:=cC3 BK266.out;obtain⟨hfz60_0,hfz60_1,hfz60_2⟩:=cF3 BK266.out;obtain⟨Ao61,co61,eo61⟩:=Kd.R_slice HO_267000.out;subst eo61)|((with_reducible refine gate_callee (f:=46) rfl ?_);refine goesA (some 46) rfl rfl Try.func46 #[.agg #[.slice Ao61 x267000_2.length co61,.int .i64 x267001_2,.bool x267002_2],.agg #[.int .i64 ((rd_T72 l4 x38_2).f0),.int .i64 ((rd_T72 l4 x38_2).f1)]] rfl ?_;(with_reducible refine(impl_MeetBoth.calls k2 _ _ x267000_2 x267001_2 x267002_2 ((rd_T72 l4 x38_2).f0) ((rd_T72 l4 x38_2).f1) t269 t272 false true _ ?side1 ?side2 A21.out).mono ?_);(case side1=>refine(Kd.R_reads' (e:=3) (base:=w.heap.size) (ok:=fun k_=>True) (n:=x267000_2.length) (c:=co61) ?_).2.2;exact(b2_));(case side2=>exact(Kd.R_reads' HO_267000.out).2.1);rintro e w62 ⟨v270,rfl,ho0,hb⟩;refine⟨_,rfl,?_⟩;have n0_:=am (Kd.R_elder' (b2_) (Kd.R_base ho0) hb);have n1_:=am (Kd.R_lower (Kd.R_new' ho0 (Kd.R_lt (b2_))) (below_size (bS3 GE259.out GE266.out GE268.out)));have n2_:=am (blk_below (g:=gb259) (o:=.cells #[.slice none 0 0,.int .i64 x260001_2,.bool x260002_2] 62 (0,0)) (b12_) hb);have n3_:=am (blk_below (g:=gb266) (o:=.cells #[.slice Ao61 x267000_2.length co61,.int .i64 x267001_2,.bool x267002_2] 62 (0,0)) (b13_) hb);have n4_:=am (blk_below (g:=gb268) (o:=.cells #[.int .i64 ((rd_T72 l4 x38_2).f0),.int .i64 ((rd_T72 l4 x38_2).f1)] 72 (0,0)) (b7_) hb);have n5_:=am (below_step (bS3 GE259.out GE266.out GE268.out) hb);clear HO_267000 BK259 BK266 BK268 HB;have HO_267000:=n0_;have HO271:=n1_;have BK259:=n2_;have BK266:=n3_;have BK268:=n4_;have HB:=n5_;clear n0_ n1_ n2_ n3_ n4_ n5_;(try clear hb);(try clear hb2);(try clear hk);(try clear hi);(try clear ho0))|((with_reducible refine gate_dst (N:=18) rfl ?_);(try (refine gate_guard (by rfl) ?_;dsimp only));refine box_event ?hg (N:=18) ?hd (cs:=#[.slice none 0 0,.int .i64 0,.bool false]) (t:=62) ?hr ?_;(case hd=>rfl);(case hg=>rfl);(case hr=>first|(go_simp;done)|(go_simp;rfl));intro gb275 hg w63 hbox hb;have n0_:=am (Kd.R_below (bK HO_267000.out) hb);have n1_:=am (Kd.R_below (bK HO271.out) hb);have n2_:=am (bM BK259.out hb);have n3_:=am (bM BK266.out hb);have n4_:=am (bM BK268.out hb);have n5_:=am (below_step (bS3 GE259.out GE266.out GE268.out) hb);have n6_:=am (hbox);have n7_:=am ((by rw[hg];exact(below_size (bS3 GE259.out GE266.out GE268.out)):w.heap.size≤gb275));have n8_:=am ((by rw[hg];exact(below_size (bS3 GE259.out GE266.out GE268.out)):w.heap.size≤gb275));have n9_:=am ((bN BK259.out hg:gb259≠gb275));have n10_:=am ((bO BK259.out hg:gb275≠gb259));have n11_:=am ((bN BK266.out hg:gb266≠gb275));have n12_:=am ((bO BK266.out hg:gb275≠gb266));have n13_:=am ((bN BK268.out hg:gb268≠gb275));have n14_:=am ((bO BK268.out hg:gb275≠gb268));clear HO_267000 HO271 BK259 BK266 BK268 HB;have HO_267000:=n0_;have HO271:=n1_;have BK259:=n2_;have BK266:=n3_;have BK268:=n4_;have HB:=n5_;have BK275:=n6_;have GW275:=n7_;have GE275:=n8_;have NB259_275:=n9_;have NB275_259:=n10_;have NB266_275:=n11_;have NB275_266:=n12_;have NB268_275:=n13_;have NB275_268:=n14_;clear n0_ n1_ n2_ n3_ n4_ n5_ n6_ n7_ n8_ n9_ n10_ n11_ n12_ n13_ n14_;clear hb hbox hg;obtain⟨Ao64,co64,eo64⟩:=Kd.R_slice HO271.out;subst eo64;have hnb65:=NB275_259.out;have hnc65:=NB259_275.out;have hnb66:=NB275_266.out;have hnc66:=NB266_275.out;have hnb67:=NB275_268.out;have hnc67:=NB268_275.out;obtain⟨hcz68_0,hcz68_1,hcz68_2⟩:=cC3 BK275.out;obtain⟨hfz68_0,hfz68_1,hfz68_2⟩:=cF3 BK275.out;obtain⟨hcz69_0,hcz69_1,hcz69_2⟩:=cC3 BK266.out;obtain⟨hfz69_0,hfz69_1,hfz69_2⟩:=cF3 BK266.out))
           go_roundg k2
           case measure=>have:=HJ6.out;have:=HK2.out;omega
           case rel=>exact⟨(x15_2),(wrap64 (x38_2+1)),(x260001_2),(x260002_2),(t269),(t272),(false),(.slice Ao64 t269.length co64),(bR),(bR),H',⟨by have:=HJ6.out;have:=HK2.out;omega⟩,⟨by(with_reducible repeat (first|apply Kd.R_alloc|apply Kd.R_drewN|apply Kd.R_drew));exact Kd.R_mono (Kd.R_far (p:=⟨gb266,2,none⟩) (Kd.R_far (p:=⟨gb266,1,none⟩) (Kd.R_far (p:=⟨gb266,0,none⟩) (Kd.R_far (p:=⟨gb275,2,none⟩) (Kd.R_far (p:=⟨gb275,1,none⟩) (Kd.R_far (p:=⟨gb275,0,none⟩) (Kd.R_types (Kd.R_types HO271.out BK275.out (b17_)) BK266.out (b17_)) (fun _ hk=>hk.1.2) (.slice Ao64 t269.length co64)) (fun _ hk=>hk.1.2) (.int .i64 t272)) (fun _ hk=>hk.1.2) (.bool false)) (fun _ hk=>hk.2) (.slice Ao64 t269.length co64)) (fun _ hk=>hk.2) (.int .i64 t272)) (fun _ hk=>hk.2) (.bool false)) (fun _ hk=>trivial)⟩,⟨by(with_reducible repeat (first|refine blk_drewN ?_ _|refine blk_drew ?_|refine blk_alloc ?_ _));refine blk_far ?_ NB259_266.out _;(with_reducible repeat (first|refine blk_drewN ?_ _|refine blk_drew ?_|refine blk_alloc ?_ _));refine blk_far ?_ NB259_266.out _;(with_reducible repeat (first|refine blk_drewN ?_ _|refine blk_drew ?_|refine blk_alloc ?_ _));refine blk_far ?_ NB259_266.out _;(with_reducible repeat (first|refine blk_drewN ?_ _|refine blk_drew ?_|refine blk_alloc ?_ _));refine blk_far ?_ NB259_275.out _;(with_reducible repeat (first|refine blk_drewN ?_ _|refine blk_drew ?_|refine blk_alloc ?_ _));refine blk_far ?_ NB259_275.out _;(with_reducible repeat (first|refine blk_drewN ?_ _|refine blk_drew ?_|refine blk_alloc ?_ _));refine blk_far ?_ NB259_275.out _;(with_reducible repeat (first|refine blk_drewN ?_ _|refine blk_drew ?_|refine blk_alloc ?_ _));exact BK259.out⟩,⟨by(with_reducible repeat (first|refine blk_drewN ?_ _|refine blk_drew ?_|refine blk_alloc ?_ _));apply bU3;(with_reducible repeat (first|refine blk_drewN ?_ _|refine blk_drew ?_|refine blk_alloc ?_ _));refine blk_far ?_ NB266_275.out _;(with_reducible repeat (first|refine blk_drewN ?_ _|refine blk_drew ?_|refine blk_alloc ?_ _));refine blk_far ?_ NB266_275.out _;(with_reducible repeat (first|refine blk_drewN ?_ _|refine blk_drew ?_|refine blk_alloc ?_ _));refine blk_far ?_ NB266_275.out _;(with_reducible repeat (first|refine blk_drewN ?_ _|refine blk_drew ?_|refine blk_alloc ?_ _));exact BK266.out⟩,⟨bS4 GE259.out GE266.out GE268.out GE275.out⟩⟩
         ·replace c22:=Bool.eq_false_iff.mpr c22
          subst c22
          have H1:(some (([]:List Int),0,false,0,false))=some (r1,r2,r3,r4,r5):=by rw[if_neg (show ¬ (false=true) by decide)] at H;exact H
          clear H
          have H:=H1
          clear H1
          simp only[Option.some.injEq,Prod.mk.injEq] at H
          obtain⟨rfl,rfl,rfl,rfl,rfl⟩:=H
          have p267:0≤(x38_2:Int):=bD_
          have q267:x38_2 < (l4.length:Int):=bD_
          obtain⟨ad267,e267,hx267_0,hx267_1⟩:=at_T72 HR4.out x38_2 p267 q267
          cases e267
          replace hx267_0:=bQ_ HB.out hx267_0
          replace hx267_1:=bQ_ HB.out hx267_1
          replace p267:=eq_true p267
          replace q267:=eq_true q267
          go_wp2_with (first|((with_reducible refine gate_dst (N:=17) rfl ?_);(try (refine gate_guard (by rfl) ?_;dsimp only));refine box_event ?hg (N:=17) ?hd (cs:=#[.int .i64 0,.int .i64 0]) (t:=72) ?hr ?_;(case hd=>rfl);(case hg=>rfl);(case hr=>first|(go_simp;done)|(go_simp;rfl));intro gb268 hg w70 hbox hb;have n0_:=am (Kd.R_below (bK HO_267000.out) hb);have n1_:=am (bM BK259.out hb);have n2_:=am (bM BK266.out hb);have n3_:=am (below_step (bS2 GE259.out GE266.out) hb);have n4_:=am (hbox);have n5_:=am ((by rw[hg];exact(below_size (bS2 GE259.out GE266.out)):w.heap.size≤gb268));have n6_:=am ((by rw[hg];exact(below_size (bS2 GE259.out GE266.out)):w.heap.size≤gb268));have n7_:=am ((bN BK259.out hg:gb259≠gb268));have n8_:=am ((bO BK259.out hg:gb268≠gb259));have n9_:=am ((bN BK266.out hg:gb266≠gb268));have n10_:=am ((bO BK266.out hg:gb268≠gb266));clear HO_267000 BK259 BK266 HB;have HO_267000:=n0_;have BK259:=n1_;have BK266:=n2_;have HB:=n3_;have BK268:=n4_;have GW268:=n5_;have GE268:=n6_;have NB259_268:=n7_;have NB268_259:=n8_;have NB266_268:=n9_;have NB268_266:=n10_;clear n0_ n1_ n2_ n3_ n4_ n5_ n6_ n7_ n8_ n9_ n10_;clear hb hbox hg;have hnb71:=NB268_259.out;have hnc71:=NB259_268.out;have hnb72:=NB268_266.out;have hnc72:=NB266_268.out;obtain⟨hcz73_0,hcz73_1⟩:=cC2 BK268.out;obtain⟨hfz73_0,hfz73_1⟩:=cF2 BK268.out;have hnb74:=NB266_259.out;have hnc74:=NB259_266.out;obtain⟨hcz75_0,hcz75_1,hcz75_2⟩:=cC3 BK266.out;obtain⟨hfz75_0,hfz75_1,hfz75_2⟩:=cF3 BK266.out;obtain⟨Ao76,co76,eo76⟩:=Kd.R_slice HO_267000.out;subst eo76)|((with_reducible refine gate_callee (f:=46) rfl ?_);refine goesA (some 46) rfl rfl Try.func46 #[.agg #[.slice Ao76 x267000_2.length co76,.int .i64 x267001_2,.bool x267002_2],.agg #[.int .i64 ((rd_T72 l4 x38_2).f0),.int .i64 ((rd_T72 l4 x38_2).f1)]] rfl ?_;(with_reducible refine(impl_MeetBoth.calls k2 _ _ x267000_2 x267001_2 x267002_2 ((rd_T72 l4 x38_2).f0) ((rd_T72 l4 x38_2).f1) t269 t272 t273 false _ ?side1 ?side2 A21.out).mono ?_);(case side1=>refine(Kd.R_reads' (e:=3) (base:=w.heap.size) (ok:=fun k_=>True) (n:=x267000_2.length) (c:=co76) ?_).2.2;exact(b2_));(case side2=>exact(Kd.R_reads' HO_267000.out).2.1);rintro e w77 ⟨v270,rfl,ho0,hb⟩;refine⟨_,rfl,?_⟩;have n0_:=am (Kd.R_elder' (b2_) (Kd.R_base ho0) hb);have n1_:=am (Kd.R_lower (Kd.R_new' ho0 (Kd.R_lt (b2_))) (below_size (bS3 GE259.out GE266.out GE268.out)));have n2_:=am (blk_below (g:=gb259) (o:=.cells #[.slice none 0 0,.int .i64 x260001_2,.bool x260002_2] 62 (0,0)) (b12_) hb);have n3_:=am (blk_below (g:=gb266) (o:=.cells #[.slice Ao76 x267000_2.length co76,.int .i64 x267001_2,.bool x267002_2] 62 (0,0)) (b13_) hb);have n4_:=am (blk_below (g:=gb268) (o:=.cells #[.int .i64 ((rd_T72 l4 x38_2).f0),.int .i64 ((rd_T72 l4 x38_2).f1)] 72 (0,0)) (b7_) hb);have n5_:=am (below_step (bS3 GE259.out GE266.out GE268.out) hb);clear HO_267000 BK259 BK266 BK268 HB;have HO_267000:=n0_;have HO271:=n1_;have BK259:=n2_;have BK266:=n3_;have BK268:=n4_;have HB:=n5_;clear n0_ n1_ n2_ n3_ n4_ n5_;(try clear hb);(try clear hb2);(try clear hk);(try clear hi);(try clear ho0))|((with_reducible refine gate_dst (N:=18) rfl ?_);(try (refine gate_guard (by rfl) ?_;dsimp only));refine box_event ?hg (N:=18) ?hd (cs:=#[.slice none 0 0,.int .i64 0,.bool false]) (t:=62) ?hr ?_;(case hd=>rfl);(case hg=>rfl);(case hr=>first|(go_simp;done)|(go_simp;rfl));intro gb275 hg w78 hbox hb;have n0_:=am (Kd.R_below (bK HO_267000.out) hb);have n1_:=am (Kd.R_below (bK HO271.out) hb);have n2_:=am (bM BK259.out hb);have n3_:=am (bM BK266.out hb);have n4_:=am (bM BK268.out hb);have n5_:=am (below_step (bS3 GE259.out GE266.out GE268.out) hb);have n6_:=am (hbox);have n7_:=am ((by rw[hg];exact(below_size (bS3 GE259.out GE266.out GE268.out)):w.heap.size≤gb275));have n8_:=am ((by rw[hg];exact(below_size (bS3 GE259.out GE266.out GE268.out)):w.heap.size≤gb275));have n9_:=am ((bN BK259.out hg:gb259≠gb275));have n10_:=am ((bO BK259.out hg:gb275≠gb259));have n11_:=am ((bN BK266.out hg:gb266≠gb275));have n12_:=am ((bO BK266.out hg:gb275≠gb266));have n13_:=am ((bN BK268.out hg:gb268≠gb275));have n14_:=am ((bO BK268.out hg:gb275≠gb268));clear HO_267000 HO271 BK259 BK266 BK268 HB;have HO_267000:=n0_;have HO271:=n1_;have BK259:=n2_;have BK266:=n3_;have BK268:=n4_;have HB:=n5_;have BK275:=n6_;have GW275:=n7_;have GE275:=n8_;have NB259_275:=n9_;have NB275_259:=n10_;have NB266_275:=n11_;have NB275_266:=n12_;have NB268_275:=n13_;have NB275_268:=n14_;clear n0_ n1_ n2_ n3_ n4_ n5_ n6_ n7_ n8_ n9_ n10_ n11_ n12_ n13_ n14_;clear hb hbox hg;obtain⟨Ao79,co79,eo79⟩:=Kd.R_slice HO271.out;subst eo79;have hnb80:=NB275_259.out;have hnc80:=NB259_275.out;have hnb81:=NB275_266.out;have hnc81:=NB266_275.out;have hnb82:=NB275_268.out;have hnc82:=NB268_275.out;obtain⟨hcz83_0,hcz83_1,hcz83_2⟩:=cC3 BK275.out;obtain⟨hfz83_0,hfz83_1,hfz83_2⟩:=cF3 BK275.out;obtain⟨hcz84_0,hcz84_1,hcz84_2⟩:=cC3 BK259.out;obtain⟨hfz84_0,hfz84_1,hfz84_2⟩:=cF3 BK259.out))
          refine bodyPost_ret (results_ctt rfl _ _ gb259 62 #[.slice none 0 0,.int .i64 0,.bool false] (0,0) _ rfl (by(with_reducible repeat (first|refine blk_drewN ?_ _|refine blk_drew ?_|refine blk_alloc ?_ _));apply bU3;(with_reducible repeat (first|refine blk_drewN ?_ _|refine blk_drew ?_|refine blk_alloc ?_ _));refine blk_far ?_ NB259_275.out _;(with_reducible repeat (first|refine blk_drewN ?_ _|refine blk_drew ?_|refine blk_alloc ?_ _));refine blk_far ?_ NB259_275.out _;(with_reducible repeat (first|refine blk_drewN ?_ _|refine blk_drew ?_|refine blk_alloc ?_ _));refine blk_far ?_ NB259_275.out _;(with_reducible repeat (first|refine blk_drewN ?_ _|refine blk_drew ?_|refine blk_alloc ?_ _));exact BK259.out) Try.underlying62 rfl (b4_)) rfl ?_
          exact⟨_,by first|rfl|(simp[errW_none,errW_some]<;>rfl)|(simp[*,errW_none,errW_some]<;>rfl),by first|exact Kd.R_nil _ _ _ _ _|exact Kd.N_nil _ _ _ _ _|exact Kd.V_nil _ _ _ _ _|exact Kd.Q_nil _ _ _ _ _|exact Kd.S_nil _ _ _ _ _,bS4 GE259.out GE266.out GE268.out GE275.out⟩
        ·rw[if_neg c20] at H
         exact absurd H (by simp)
       ·rw[if_neg c19] at H
        exact absurd H (by simp)
      ·rw[if_neg c18] at H
       have c18b0:decide (x38_2 < (l4.length:Int))=false:=decide_eq_false c18
       clear c18
       simp only[Option.some.injEq,Prod.mk.injEq] at H
       obtain⟨rfl,rfl,rfl,rfl,rfl⟩:=H
       have hnb85:=NB266_259.out
       have hnc85:=NB259_266.out
       obtain⟨hcz86_0,hcz86_1,hcz86_2⟩:=cC3 BK266.out
       obtain⟨hfz86_0,hfz86_1,hfz86_2⟩:=cF3 BK266.out
       obtain⟨Ao87,co87,eo87⟩:=Kd.R_slice HO_267000.out
       subst eo87
       obtain⟨hcz88_0,hcz88_1,hcz88_2⟩:=cC3 BK259.out
       obtain⟨hfz88_0,hfz88_1,hfz88_2⟩:=cF3 BK259.out
       go_wp2
       refine bodyPost_ret (results_ctt rfl _ _ gb259 62 #[.slice Ao87 x267000_2.length co87,.int .i64 x267001_2,.bool x267002_2] (0,0) _ rfl (by(with_reducible repeat (first|refine blk_drewN ?_ _|refine blk_drew ?_|refine blk_alloc ?_ _));apply bU3;(with_reducible repeat (first|refine blk_drewN ?_ _|refine blk_drew ?_|refine blk_alloc ?_ _));exact BK259.out) Try.underlying62 rfl (b4_)) rfl ?_
       exact⟨_,by first|rfl|(simp[errW_none,errW_some]<;>rfl)|(simp[*,errW_none,errW_some]<;>rfl),by(with_reducible repeat (first|apply Kd.R_alloc|apply Kd.R_drewN|apply Kd.R_drew));exact Kd.R_mono (Kd.R_far (p:=⟨gb259,2,none⟩) (Kd.R_far (p:=⟨gb259,1,none⟩) (Kd.R_far (p:=⟨gb259,0,none⟩) (Kd.R_types HO_267000.out BK259.out (b17_)) (fun _ hk=>hk.2) (.slice Ao87 x267000_2.length co87)) (fun _ hk=>hk.2) (.int .i64 x267001_2)) (fun _ hk=>hk.2) (.bool x267002_2)) (fun _ hk=>trivial),bS2 GE259.out GE266.out⟩

/-! ### spec_l1In: function 75 -/
def spec_l1In.f (a0:Int) (a1:Int) (a2:Int):Option (Bool):=if a0 ≥ a1 then (some (decide (a0≤a2))) else (some false)
set_option maxHeartbeats 8000000 in
set_option maxRecDepth 100000 in
theorem spec_l1In.calls (a0:Int) (a1:Int) (a2:Int) (r:Bool) (w:World) (h:spec_l1In.f a0 a1 a2=some r) :
  Calls Try.prog 75 #[.int .i64 a0,.int .i64 a1,.int .i64 a2] w fun e w'=>e=.returned (.bool r)∧Drawn0 w w':=by
 have H:(if a0 ≥ a1 then (some (decide (a0≤a2))) else (some false))=some r:=h
 clear h
 by_cases c4:a0 ≥ a1
 ·rw[if_pos c4] at H
  have c4b0:decide (a1≤a0)=true:=decide_eq_true c4
  clear c4
  obtain rfl:=Option.some.inj H
  go_enter Try.func75,Try.ntmps75
  go_wp2
  go_ret
  exact⟨bR,bW⟩
 ·rw[if_neg c4] at H
  have c4b0:decide (a1≤a0)=false:=decide_eq_false c4
  clear c4
  obtain rfl:=Option.some.inj H
  go_enter Try.func75,Try.ntmps75
  go_wp2
  go_ret
  exact⟨bR,bW⟩

/-! ### spec_NewSpray: function 108 -/
def spec_NewSpray.f (a0:Int) (a1:Int) (a2:Int) (a3:Int):Option (List Int × Int × Bool × Bool):=(spec_l1In.f a0 2 8).bind fun t277=>(if t277=true then (if a1 < 0 then (some (([]:List Int),0,false,false)) else (if a1 ≥ a0 then (some (([]:List Int),0,false,false)) else (if a2 < 0 then (some (([]:List Int),0,false,false)) else (if a2 ≥ a0 then (some (([]:List Int),0,false,false)) else (if a1=a2 then (some (([]:List Int),0,false,false)) else ((spec_l1In.f a3 1 64).bind fun t278=>(if t278=true then (if 0≤a0 then (if (a0:Int).toNat≤35184372088832 then ((some (List.replicate (a0:Int).toNat 0:List Int)).bind fun y279=>(if 0≤a1 then (if a1 < (y279.length:Int) then (some ((y279.set (a1:Int).toNat a3),a2,false,true)) else (none)) else (none))) else (none)) else (none)) else (some (([]:List Int),0,false,false))))))))) else (some (([]:List Int),0,false,false)))
set_option maxHeartbeats 8000000 in
set_option maxRecDepth 100000 in
theorem spec_NewSpray.calls (a0:Int) (a1:Int) (a2:Int) (a3:Int) (r1:List Int) (r2:Int) (r3:Bool) (r4:Bool) (w:World) (h:spec_NewSpray.f a0 a1 a2 a3=some (r1,r2,r3,r4)) :
  Calls Try.prog 108 #[.int .i64 a0,.int .i64 a1,.int .i64 a2,.int .i64 a3] w fun e w' => ∃ v0_:Value,e=.returned (.tuple #[.agg #[v0_,.int .i64 r2,.bool r3],.bool r4])∧Kd.R (Kd.int .i64) 3 w' w.heap.size (fun _=>True) v0_ r1∧Below w.heap.size w w':=by
 have hu62:=Try.underlying62
 have HB:=am (Below.refl w.heap.size w)
 have H:((spec_l1In.f a0 2 8).bind fun t277=>(if t277=true then (if a1 < 0 then (some (([]:List Int),0,false,false)) else (if a1 ≥ a0 then (some (([]:List Int),0,false,false)) else (if a2 < 0 then (some (([]:List Int),0,false,false)) else (if a2 ≥ a0 then (some (([]:List Int),0,false,false)) else (if a1=a2 then (some (([]:List Int),0,false,false)) else ((spec_l1In.f a3 1 64).bind fun t278=>(if t278=true then (if 0≤a0 then (if (a0:Int).toNat≤35184372088832 then ((some (List.replicate (a0:Int).toNat 0:List Int)).bind fun y279=>(if 0≤a1 then (if a1 < (y279.length:Int) then (some ((y279.set (a1:Int).toNat a3),a2,false,true)) else (none)) else (none))) else (none)) else (none)) else (some (([]:List Int),0,false,false))))))))) else (some (([]:List Int),0,false,false))))=some (r1,r2,r3,r4):=h
 clear h
 replace H:=bI_ H
 obtain⟨t277,A50,H⟩:=H
 replace H:(if t277=true then (if a1 < 0 then (some (([]:List Int),0,false,false)) else (if a1 ≥ a0 then (some (([]:List Int),0,false,false)) else (if a2 < 0 then (some (([]:List Int),0,false,false)) else (if a2 ≥ a0 then (some (([]:List Int),0,false,false)) else (if a1=a2 then (some (([]:List Int),0,false,false)) else ((spec_l1In.f a3 1 64).bind fun t278=>(if t278=true then (if 0≤a0 then (if (a0:Int).toNat≤35184372088832 then ((some (List.replicate (a0:Int).toNat 0:List Int)).bind fun y279=>(if 0≤a1 then (if a1 < (y279.length:Int) then (some ((y279.set (a1:Int).toNat a3),a2,false,true)) else (none)) else (none))) else (none)) else (none)) else (some (([]:List Int),0,false,false))))))))) else (some (([]:List Int),0,false,false)))=some (r1,r2,r3,r4):=H
 have A5:=am A50
 clear A50
 by_cases c6:t277=true
 ·subst c6
  have H1:(if a1 < 0 then (some (([]:List Int),0,false,false)) else (if a1 ≥ a0 then (some (([]:List Int),0,false,false)) else (if a2 < 0 then (some (([]:List Int),0,false,false)) else (if a2 ≥ a0 then (some (([]:List Int),0,false,false)) else (if a1=a2 then (some (([]:List Int),0,false,false)) else ((spec_l1In.f a3 1 64).bind fun t278=>(if t278=true then (if 0≤a0 then (if (a0:Int).toNat≤35184372088832 then ((some (List.replicate (a0:Int).toNat 0:List Int)).bind fun y279=>(if 0≤a1 then (if a1 < (y279.length:Int) then (some ((y279.set (a1:Int).toNat a3),a2,false,true)) else (none)) else (none))) else (none)) else (none)) else (some (([]:List Int),0,false,false)))))))))=some (r1,r2,r3,r4):=by rw[if_pos rfl] at H;exact H
  clear H
  have H:=H1
  clear H1
  by_cases c7:a1 < 0
  ·rw[if_pos c7] at H
   have c7b0:decide (a1 < 0)=true:=decide_eq_true c7
   clear c7
   simp only[Option.some.injEq,Prod.mk.injEq] at H
   obtain⟨rfl,rfl,rfl,rfl⟩:=H
   go_enter Try.func108,Try.ntmps108
   go_wp2_with (first|((with_reducible refine gate_dst (N:=8) rfl ?_);refine box_event ?hg (N:=8) ?hd (cs:=#[.slice none 0 0,.int .i64 0,.bool false]) (t:=62) ?hr ?_;(case hd=>rfl);(case hg=>rfl);(case hr=>first|(go_simp;done)|(go_simp;rfl));intro gb276 hg w8 hbox hb;have n0_:=am (below_step (bB) hb);have n1_:=am (hbox);have n2_:=am ((bG:w.heap.size≤gb276));have n3_:=am ((bG:w.heap.size≤gb276));clear HB;have HB:=n0_;have BK276:=n1_;have GW276:=n2_;have GE276:=n3_;clear n0_ n1_ n2_ n3_;clear hb hbox hg)|((with_reducible refine gate_callee (f:=75) rfl ?_);refine goesA (some 12) rfl rfl Try.func75 #[.int .i64 a0,.int .i64 2,.int .i64 8] rfl ?_;(with_reducible refine(spec_l1In.calls a0 2 8 true _ A5.out).mono ?_);rintro e w' ⟨rfl,⟨nd,rfl⟩⟩;refine⟨_,rfl,?_⟩;(try (rw[drewN_self w8];generalize hq_:World.drewN w8 _=w8;have n0_:Aside0 (w8.heap[gb276]?=some (.cells #[.slice none 0 0,.int .i64 0,.bool false] 62 (0,0))):=⟨by rw[← hq_];exact(bL BK276.out)⟩;have n1_:Aside0 (Below w.heap.size w w8):=⟨by rw[← hq_];exact(bS GE276.out)⟩;clear BK276 HB hq_;have BK276:=n0_;have HB:=n1_;clear n0_ n1_));obtain⟨hcz9_0,hcz9_1,hcz9_2⟩:=cC3 BK276.out;obtain⟨hfz9_0,hfz9_1,hfz9_2⟩:=cF3 BK276.out))
   refine bodyPost_ret (results_ct rfl _ _ gb276 62 #[.slice none 0 0,.int .i64 0,.bool false] (0,0) _ rfl (b1_) Try.underlying62 rfl (b4_)) rfl ?_
   exact⟨_,by first|rfl|(simp[errW_none,errW_some]<;>rfl)|(simp[*,errW_none,errW_some]<;>rfl),by first|exact Kd.R_nil _ _ _ _ _|exact Kd.N_nil _ _ _ _ _|exact Kd.V_nil _ _ _ _ _|exact Kd.Q_nil _ _ _ _ _|exact Kd.S_nil _ _ _ _ _,bS GE276.out⟩
  ·rw[if_neg c7] at H
   have c7b0:decide (a1 < 0)=false:=decide_eq_false c7
   clear c7
   by_cases c10:a1 ≥ a0
   ·rw[if_pos c10] at H
    have c10b0:decide (a0≤a1)=true:=decide_eq_true c10
    clear c10
    simp only[Option.some.injEq,Prod.mk.injEq] at H
    obtain⟨rfl,rfl,rfl,rfl⟩:=H
    go_enter Try.func108,Try.ntmps108
    go_wp2_with (first|((with_reducible refine gate_dst (N:=8) rfl ?_);refine box_event ?hg (N:=8) ?hd (cs:=#[.slice none 0 0,.int .i64 0,.bool false]) (t:=62) ?hr ?_;(case hd=>rfl);(case hg=>rfl);(case hr=>first|(go_simp;done)|(go_simp;rfl));intro gb276 hg w11 hbox hb;have n0_:=am (below_step (bB) hb);have n1_:=am (hbox);have n2_:=am ((bG:w.heap.size≤gb276));have n3_:=am ((bG:w.heap.size≤gb276));clear HB;have HB:=n0_;have BK276:=n1_;have GW276:=n2_;have GE276:=n3_;clear n0_ n1_ n2_ n3_;clear hb hbox hg)|((with_reducible refine gate_callee (f:=75) rfl ?_);refine goesA (some 12) rfl rfl Try.func75 #[.int .i64 a0,.int .i64 2,.int .i64 8] rfl ?_;(with_reducible refine(spec_l1In.calls a0 2 8 true _ A5.out).mono ?_);rintro e w' ⟨rfl,⟨nd,rfl⟩⟩;refine⟨_,rfl,?_⟩;(try (rw[drewN_self w11];generalize hq_:World.drewN w11 _=w11;have n0_:Aside0 (w11.heap[gb276]?=some (.cells #[.slice none 0 0,.int .i64 0,.bool false] 62 (0,0))):=⟨by rw[← hq_];exact(bL BK276.out)⟩;have n1_:Aside0 (Below w.heap.size w w11):=⟨by rw[← hq_];exact(bS GE276.out)⟩;clear BK276 HB hq_;have BK276:=n0_;have HB:=n1_;clear n0_ n1_));obtain⟨hcz12_0,hcz12_1,hcz12_2⟩:=cC3 BK276.out;obtain⟨hfz12_0,hfz12_1,hfz12_2⟩:=cF3 BK276.out))
    refine bodyPost_ret (results_ct rfl _ _ gb276 62 #[.slice none 0 0,.int .i64 0,.bool false] (0,0) _ rfl (b1_) Try.underlying62 rfl (b4_)) rfl ?_
    exact⟨_,by first|rfl|(simp[errW_none,errW_some]<;>rfl)|(simp[*,errW_none,errW_some]<;>rfl),by first|exact Kd.R_nil _ _ _ _ _|exact Kd.N_nil _ _ _ _ _|exact Kd.V_nil _ _ _ _ _|exact Kd.Q_nil _ _ _ _ _|exact Kd.S_nil _ _ _ _ _,bS GE276.out⟩
   ·rw[if_neg c10] at H
    have c10b0:decide (a0≤a1)=false:=decide_eq_false c10
    clear c10
    by_cases c13:a2 < 0
    ·rw[if_pos c13] at H
     have c13b0:decide (a2 < 0)=true:=decide_eq_true c13
     clear c13
     simp only[Option.some.injEq,Prod.mk.injEq] at H
     obtain⟨rfl,rfl,rfl,rfl⟩:=H
     go_enter Try.func108,Try.ntmps108
     go_wp2_with (first|((with_reducible refine gate_dst (N:=8) rfl ?_);refine box_event ?hg (N:=8) ?hd (cs:=#[.slice none 0 0,.int .i64 0,.bool false]) (t:=62) ?hr ?_;(case hd=>rfl);(case hg=>rfl);(case hr=>first|(go_simp;done)|(go_simp;rfl));intro gb276 hg w14 hbox hb;have n0_:=am (below_step (bB) hb);have n1_:=am (hbox);have n2_:=am ((bG:w.heap.size≤gb276));have n3_:=am ((bG:w.heap.size≤gb276));clear HB;have HB:=n0_;have BK276:=n1_;have GW276:=n2_;have GE276:=n3_;clear n0_ n1_ n2_ n3_;clear hb hbox hg)|((with_reducible refine gate_callee (f:=75) rfl ?_);refine goesA (some 12) rfl rfl Try.func75 #[.int .i64 a0,.int .i64 2,.int .i64 8] rfl ?_;(with_reducible refine(spec_l1In.calls a0 2 8 true _ A5.out).mono ?_);rintro e w' ⟨rfl,⟨nd,rfl⟩⟩;refine⟨_,rfl,?_⟩;(try (rw[drewN_self w14];generalize hq_:World.drewN w14 _=w14;have n0_:Aside0 (w14.heap[gb276]?=some (.cells #[.slice none 0 0,.int .i64 0,.bool false] 62 (0,0))):=⟨by rw[← hq_];exact(bL BK276.out)⟩;have n1_:Aside0 (Below w.heap.size w w14):=⟨by rw[← hq_];exact(bS GE276.out)⟩;clear BK276 HB hq_;have BK276:=n0_;have HB:=n1_;clear n0_ n1_));obtain⟨hcz15_0,hcz15_1,hcz15_2⟩:=cC3 BK276.out;obtain⟨hfz15_0,hfz15_1,hfz15_2⟩:=cF3 BK276.out))
     refine bodyPost_ret (results_ct rfl _ _ gb276 62 #[.slice none 0 0,.int .i64 0,.bool false] (0,0) _ rfl (b1_) Try.underlying62 rfl (b4_)) rfl ?_
     exact⟨_,by first|rfl|(simp[errW_none,errW_some]<;>rfl)|(simp[*,errW_none,errW_some]<;>rfl),by first|exact Kd.R_nil _ _ _ _ _|exact Kd.N_nil _ _ _ _ _|exact Kd.V_nil _ _ _ _ _|exact Kd.Q_nil _ _ _ _ _|exact Kd.S_nil _ _ _ _ _,bS GE276.out⟩
    ·rw[if_neg c13] at H
     have c13b0:decide (a2 < 0)=false:=decide_eq_false c13
     clear c13
     by_cases c16:a2 ≥ a0
     ·rw[if_pos c16] at H
      have c16b0:decide (a0≤a2)=true:=decide_eq_true c16
      clear c16
      simp only[Option.some.injEq,Prod.mk.injEq] at H
      obtain⟨rfl,rfl,rfl,rfl⟩:=H
      go_enter Try.func108,Try.ntmps108
      go_wp2_with (first|((with_reducible refine gate_dst (N:=8) rfl ?_);refine box_event ?hg (N:=8) ?hd (cs:=#[.slice none 0 0,.int .i64 0,.bool false]) (t:=62) ?hr ?_;(case hd=>rfl);(case hg=>rfl);(case hr=>first|(go_simp;done)|(go_simp;rfl));intro gb276 hg w17 hbox hb;have n0_:=am (below_step (bB) hb);have n1_:=am (hbox);have n2_:=am ((bG:w.heap.size≤gb276));have n3_:=am ((bG:w.heap.size≤gb276));clear HB;have HB:=n0_;have BK276:=n1_;have GW276:=n2_;have GE276:=n3_;clear n0_ n1_ n2_ n3_;clear hb hbox hg)|((with_reducible refine gate_callee (f:=75) rfl ?_);refine goesA (some 12) rfl rfl Try.func75 #[.int .i64 a0,.int .i64 2,.int .i64 8] rfl ?_;(with_reducible refine(spec_l1In.calls a0 2 8 true _ A5.out).mono ?_);rintro e w' ⟨rfl,⟨nd,rfl⟩⟩;refine⟨_,rfl,?_⟩;(try (rw[drewN_self w17];generalize hq_:World.drewN w17 _=w17;have n0_:Aside0 (w17.heap[gb276]?=some (.cells #[.slice none 0 0,.int .i64 0,.bool false] 62 (0,0))):=⟨by rw[← hq_];exact(bL BK276.out)⟩;have n1_:Aside0 (Below w.heap.size w w17):=⟨by rw[← hq_];exact(bS GE276.out)⟩;clear BK276 HB hq_;have BK276:=n0_;have HB:=n1_;clear n0_ n1_));obtain⟨hcz18_0,hcz18_1,hcz18_2⟩:=cC3 BK276.out;obtain⟨hfz18_0,hfz18_1,hfz18_2⟩:=cF3 BK276.out))
      refine bodyPost_ret (results_ct rfl _ _ gb276 62 #[.slice none 0 0,.int .i64 0,.bool false] (0,0) _ rfl (b1_) Try.underlying62 rfl (b4_)) rfl ?_
      exact⟨_,by first|rfl|(simp[errW_none,errW_some]<;>rfl)|(simp[*,errW_none,errW_some]<;>rfl),by first|exact Kd.R_nil _ _ _ _ _|exact Kd.N_nil _ _ _ _ _|exact Kd.V_nil _ _ _ _ _|exact Kd.Q_nil _ _ _ _ _|exact Kd.S_nil _ _ _ _ _,bS GE276.out⟩
     ·rw[if_neg c16] at H
      have c16b0:decide (a0≤a2)=false:=decide_eq_false c16
      clear c16
      by_cases c19:a1=a2
      ·rw[if_pos c19] at H
       have c19b0:(a1 == a2)=true:=beq_iff_eq.mpr c19
       have c19b1:(a1 != a2)=false:=bne_eq_false_iff_eq.mpr c19
       clear c19
       simp only[Option.some.injEq,Prod.mk.injEq] at H
       obtain⟨rfl,rfl,rfl,rfl⟩:=H
       go_enter Try.func108,Try.ntmps108
       go_wp2_with (first|((with_reducible refine gate_dst (N:=8) rfl ?_);refine box_event ?hg (N:=8) ?hd (cs:=#[.slice none 0 0,.int .i64 0,.bool false]) (t:=62) ?hr ?_;(case hd=>rfl);(case hg=>rfl);(case hr=>first|(go_simp;done)|(go_simp;rfl));intro gb276 hg w20 hbox hb;have n0_:=am (below_step (bB) hb);have n1_:=am (hbox);have n2_:=am ((bG:w.heap.size≤gb276));have n3_:=am ((bG:w.heap.size≤gb276));clear HB;have HB:=n0_;have BK276:=n1_;have GW276:=n2_;have GE276:=n3_;clear n0_ n1_ n2_ n3_;clear hb hbox hg)|((with_reducible refine gate_callee (f:=75) rfl ?_);refine goesA (some 12) rfl rfl Try.func75 #[.int .i64 a0,.int .i64 2,.int .i64 8] rfl ?_;(with_reducible refine(spec_l1In.calls a0 2 8 true _ A5.out).mono ?_);rintro e w' ⟨rfl,⟨nd,rfl⟩⟩;refine⟨_,rfl,?_⟩;(try (rw[drewN_self w20];generalize hq_:World.drewN w20 _=w20;have n0_:Aside0 (w20.heap[gb276]?=some (.cells #[.slice none 0 0,.int .i64 0,.bool false] 62 (0,0))):=⟨by rw[← hq_];exact(bL BK276.out)⟩;have n1_:Aside0 (Below w.heap.size w w20):=⟨by rw[← hq_];exact(bS GE276.out)⟩;clear BK276 HB hq_;have BK276:=n0_;have HB:=n1_;clear n0_ n1_));obtain⟨hcz21_0,hcz21_1,hcz21_2⟩:=cC3 BK276.out;obtain⟨hfz21_0,hfz21_1,hfz21_2⟩:=cF3 BK276.out))
       refine bodyPost_ret (results_ct rfl _ _ gb276 62 #[.slice none 0 0,.int .i64 0,.bool false] (0,0) _ rfl (b1_) Try.underlying62 rfl (b4_)) rfl ?_
       exact⟨_,by first|rfl|(simp[errW_none,errW_some]<;>rfl)|(simp[*,errW_none,errW_some]<;>rfl),by first|exact Kd.R_nil _ _ _ _ _|exact Kd.N_nil _ _ _ _ _|exact Kd.V_nil _ _ _ _ _|exact Kd.Q_nil _ _ _ _ _|exact Kd.S_nil _ _ _ _ _,bS GE276.out⟩
      ·rw[if_neg c19] at H
       have c19b0:(a1 == a2)=false:=beq_eq_false_iff_ne.mpr c19
       have c19b1:(a1 != a2)=true:=bne_iff_ne.mpr c19
       replace H:=bI_ H
       obtain⟨t278,A220,H⟩:=H
       replace H:(if t278=true then (if 0≤a0 then (if (a0:Int).toNat≤35184372088832 then ((some (List.replicate (a0:Int).toNat 0:List Int)).bind fun y279=>(if 0≤a1 then (if a1 < (y279.length:Int) then (some ((y279.set (a1:Int).toNat a3),a2,false,true)) else (none)) else (none))) else (none)) else (none)) else (some (([]:List Int),0,false,false)))=some (r1,r2,r3,r4):=H
       have A22:=am A220
       clear A220
       by_cases c23:t278=true
       ·subst c23
        have H1:(if 0≤a0 then (if (a0:Int).toNat≤35184372088832 then ((some (List.replicate (a0:Int).toNat 0:List Int)).bind fun y279=>(if 0≤a1 then (if a1 < (y279.length:Int) then (some ((y279.set (a1:Int).toNat a3),a2,false,true)) else (none)) else (none))) else (none)) else (none))=some (r1,r2,r3,r4):=by rw[if_pos rfl] at H;exact H
        clear H
        have H:=H1
        clear H1
        by_cases c24:0≤a0
        ·rw[if_pos c24] at H
         have c24b0:=eq_true c24
         have c24b1:decide (0≤a0)=true:=decide_eq_true c24
         clear c24
         by_cases c25:(a0:Int).toNat≤35184372088832
         ·rw[if_pos c25] at H
          have c25b0:=eq_true c25
          have c25b1:decide ((a0:Int).toNat≤35184372088832)=true:=decide_eq_true c25
          clear c25
          obtain⟨y279,hy279⟩ : ∃ y_:List Int,y_=(List.replicate (a0:Int).toNat 0):=⟨_,rfl⟩
          replace H:(if 0≤a1 then (if a1 < (y279.length:Int) then (some ((y279.set (a1:Int).toNat a3),a2,false,true)) else (none)) else (none))=some (r1,r2,r3,r4):=by first|(rw[hy279];with_reducible exact H)|(have H2_:=(Option.bind_some _ _).symm.trans H;rw[hy279];with_reducible exact H2_)|(have H2_:=(Option.bind_some _ _).symm.trans H;with_reducible exact H2_)|with_reducible exact H|(rw[hy279];exact H)|exact H
          have Ny279:=am hy279
          clear hy279
          by_cases c26:0≤a1
          ·rw[if_pos c26] at H
           have c26b0:decide (0≤a1)=true:=decide_eq_true c26
           clear c26
           by_cases c27:a1 < (y279.length:Int)
           ·rw[if_pos c27] at H
            have c27b0:decide (a1 < (y279.length:Int))=true:=decide_eq_true c27
            clear c27
            obtain⟨y283,hy283⟩ : ∃ y_:List Int,y_=(y279.set (a1:Int).toNat a3):=⟨_,rfl⟩
            replace H:(some (y283,a2,false,true))=some (r1,r2,r3,r4):=by first|(rw[hy283];with_reducible exact H)|(have H2_:=(Option.bind_some _ _).symm.trans H;rw[hy283];with_reducible exact H2_)|(have H2_:=(Option.bind_some _ _).symm.trans H;with_reducible exact H2_)|with_reducible exact H|(rw[hy283];exact H)|exact H
            have Ny283:=am hy283
            clear hy283
            simp only[Option.some.injEq,Prod.mk.injEq] at H
            obtain⟨rfl,rfl,rfl,rfl⟩:=H
            go_enter Try.func108,Try.ntmps108
            go_wp2_with (first|((with_reducible refine gate_dst (N:=8) rfl ?_);refine box_event ?hg (N:=8) ?hd (cs:=#[.slice none 0 0,.int .i64 0,.bool false]) (t:=62) ?hr ?_;(case hd=>rfl);(case hg=>rfl);(case hr=>first|(go_simp;done)|(go_simp;rfl));intro gb276 hg w29 hbox hb;have n0_:=am (below_step (bB) hb);have n1_:=am (hbox);have n2_:=am ((bG:w.heap.size≤gb276));have n3_:=am ((bG:w.heap.size≤gb276));clear HB;have HB:=n0_;have BK276:=n1_;have GW276:=n2_;have GE276:=n3_;clear n0_ n1_ n2_ n3_;clear hb hbox hg)|((with_reducible refine gate_callee (f:=75) rfl ?_);refine goesA (some 12) rfl rfl Try.func75 #[.int .i64 a0,.int .i64 2,.int .i64 8] rfl ?_;(with_reducible refine(spec_l1In.calls a0 2 8 true _ A5.out).mono ?_);rintro e w' ⟨rfl,⟨nd,rfl⟩⟩;refine⟨_,rfl,?_⟩;(try (rw[drewN_self w29];generalize hq_:World.drewN w29 _=w29;have n0_:Aside0 (w29.heap[gb276]?=some (.cells #[.slice none 0 0,.int .i64 0,.bool false] 62 (0,0))):=⟨by rw[← hq_];exact(bL BK276.out)⟩;have n1_:Aside0 (Below w.heap.size w w29):=⟨by rw[← hq_];exact(bS GE276.out)⟩;clear BK276 HB hq_;have BK276:=n0_;have HB:=n1_;clear n0_ n1_)))|(go_at_call 75;(with_reducible refine(spec_l1In.calls a3 1 64 true _ A22.out).mono ?_);rintro e w' ⟨rfl,⟨nd,rfl⟩⟩;(try (rw[drewN_self w29];generalize hq_:World.drewN w29 _=w29;have n0_:Aside0 (w29.heap[gb276]?=some (.cells #[.slice none 0 0,.int .i64 0,.bool false] 62 (0,0))):=⟨by rw[← hq_];exact(bL BK276.out)⟩;have n1_:Aside0 (Below w.heap.size w w29):=⟨by rw[← hq_];exact(bS GE276.out)⟩;clear BK276 HB hq_;have BK276:=n0_;have HB:=n1_;clear n0_ n1_)))|((with_reducible refine gate_dst (N:=44) rfl ?_);refine Kd.R_make (Kd.int .i64) _ 3 rfl (N:=44) rfl 37 _ _ rfl a0 rfl rfl Try.underlying37 (.int .i64 0) 8 info3 rfl (b17_) (by omega) 0 (ok:=fun _=>True) (okp:=fun _=>True) rfl (fun _ hk=>hk) trivial (bD_) (Nat.le_trans (Nat.mul_le_mul_right _ (bD_:a0.toNat≤35184372088832)) (by omega)) (Below.refl _ _) (Nat.le_refl _) ?_;intro v280 w30 ho31 hb hg_ hnew_;clear hg_ hnew_;(first|rw[← Ny279.out] at ho31|(simp only[Int.reduceToNat] at ho31;rw[← Ny279.out] at ho31));have n0_:=am (Kd.R_lower ho31 (below_size (bS GE276.out)));have n1_:=am (bM BK276.out hb);have n2_:=am (below_step (bS GE276.out) hb);clear BK276 HB;have HO281:=n0_;have BK276:=n1_;have HB:=n2_;clear n0_ n1_ n2_;clear hb ho31;obtain⟨Ao32,co32,eo32⟩:=Kd.R_slice HO281.out;subst eo32)|((with_reducible refine gate_dst (N:=10) rfl ?_);refine box_event ?hg (N:=10) ?hd (cs:=#[.slice none 0 0,.int .i64 0,.bool false]) (t:=62) ?hr ?_;(case hd=>rfl);(case hg=>rfl);(case hr=>first|(go_simp;done)|(go_simp;rfl));intro gb282 hg w33 hbox hb;have n0_:=am (Kd.R_below (bK HO281.out) hb);have n1_:=am (bM BK276.out hb);have n2_:=am (below_step (bS GE276.out) hb);have n3_:=am (hbox);have n4_:=am ((by rw[hg];exact(below_size (bS GE276.out)):w.heap.size≤gb282));have n5_:=am ((by rw[hg];exact(below_size (bS GE276.out)):w.heap.size≤gb282));have n6_:=am ((bN BK276.out hg:gb276≠gb282));have n7_:=am ((bO BK276.out hg:gb282≠gb276));clear HO281 BK276 HB;have HO281:=n0_;have BK276:=n1_;have HB:=n2_;have BK282:=n3_;have GW282:=n4_;have GE282:=n5_;have NB276_282:=n6_;have NB282_276:=n7_;clear n0_ n1_ n2_ n3_ n4_ n5_ n6_ n7_;clear hb hbox hg;have hnb34:=NB282_276.out;have hnc34:=NB276_282.out;obtain⟨hcz35_0,hcz35_1,hcz35_2⟩:=cC3 BK282.out;obtain⟨hfz35_0,hfz35_1,hfz35_2⟩:=cF3 BK282.out)|((with_reducible refine gate_store (t:=62) (p:=10) rfl ?_);refine store_event (t:=62) (p:=10) (v:=?vo_w36) (w1:=(((w33.setCell ⟨gb282,0,none⟩ (.slice Ao32 y279.length co32)).setCell ⟨gb282,1,none⟩ (.int .i64 a2)).setCell ⟨gb282,2,none⟩ (.bool false))) ?hg ?ho ?hn ?hr ?_;(case ho=>rfl);(case hg=>rfl);(case hn=>rfl);(case hr=>first|(go_simp;done)|(go_simp;rfl));intro w36 hw;have n0_:Aside0 (Kd.R (Kd.int .i64) 3 w36 w.heap.size (fun _=>True) (.slice Ao32 y279.length co32) y279):=⟨(by rw[hw];exact(by(with_reducible repeat (first|apply Kd.R_alloc|apply Kd.R_drewN|apply Kd.R_drew));exact Kd.R_mono (Kd.R_far (p:=⟨gb282,2,none⟩) (Kd.R_far (p:=⟨gb282,1,none⟩) (Kd.R_far (p:=⟨gb282,0,none⟩) (Kd.R_types HO281.out BK282.out (b17_)) (fun _ hk=>hk.2) (.slice Ao32 y279.length co32)) (fun _ hk=>hk.2) (.int .i64 a2)) (fun _ hk=>hk.2) (.bool false)) (fun _ hk=>trivial)))⟩;have n1_:Aside0 (w36.heap[gb276]?=some (.cells #[.slice none 0 0,.int .i64 0,.bool false] 62 (0,0))):=⟨(by rw[hw];exact(by(with_reducible repeat (first|refine blk_drewN ?_ _|refine blk_drew ?_|refine blk_alloc ?_ _));refine blk_far ?_ NB276_282.out _;(with_reducible repeat (first|refine blk_drewN ?_ _|refine blk_drew ?_|refine blk_alloc ?_ _));refine blk_far ?_ NB276_282.out _;(with_reducible repeat (first|refine blk_drewN ?_ _|refine blk_drew ?_|refine blk_alloc ?_ _));refine blk_far ?_ NB276_282.out _;(with_reducible repeat (first|refine blk_drewN ?_ _|refine blk_drew ?_|refine blk_alloc ?_ _));exact BK276.out))⟩;have n2_:Aside0 (w36.heap[gb282]?=some (.cells #[.slice Ao32 y279.length co32,.int .i64 a2,.bool false] 62 (0,0))):=⟨(by rw[hw];exact(by(with_reducible repeat (first|refine blk_drewN ?_ _|refine blk_drew ?_|refine blk_alloc ?_ _));apply bU3;(with_reducible repeat (first|refine blk_drewN ?_ _|refine blk_drew ?_|refine blk_alloc ?_ _));exact BK282.out))⟩;have n3_:Aside0 (Below w.heap.size w w36):=⟨(by rw[hw];exact(bS2 GE276.out GE282.out))⟩;clear hw HO281 BK276 BK282 HB;have HO281:=n0_;have BK276:=n1_;have BK282:=n2_;have HB:=n3_;clear n0_ n1_ n2_ n3_;obtain⟨hcz37_0,hcz37_1,hcz37_2⟩:=cC3 BK282.out;obtain⟨hfz37_0,hfz37_1,hfz37_2⟩:=cF3 BK282.out;have p28:0≤(a1:Int):=bD_;have q28:(a1:Int) < ((y279.length:Int):Int):=bD_;obtain⟨go28,co28,eo28,gb28,gl28,cl28,HG28⟩:=Kd.R_form HO281.out (by omega);(first|cases eo28|(injection eo28 with ea_ en_ ec_;(first|subst ea_|(injection ea_ with ea_;subst ea_));subst ec_;clear en_));have GB28:=am gb28;have GG28:=am HG28;clear gb28 gl28 HG28;obtain⟨hx28_0,hf28_0⟩:=Kd.R_celln 0 HO281.out (a1:Int) p28 q28;replace p28:=eq_true p28;replace q28:=eq_true q28;obtain⟨hy38_,hz38_⟩:=Kd.R_celln 0 HO281.out (a1:Int) (bD_) (bD_);have HP38:=Kd.R_putg HO281.out (a1:Int) a3)|((with_reducible refine gate_store (t:=3) (p:=51) rfl ?_);refine store_event (t:=3) (p:=51) (v:=?vo_w39) (w1:=(w36.setCell ⟨go28,(a1:Int).toNat,none⟩ (.int .i64 a3))) ?hg ?ho ?hn ?hr ?_;(case ho=>rfl);(case hg=>rfl);(case hn=>rfl);(case hr=>first|(go_simp;done)|(go_simp;rfl));intro w39 hw;have hg:w36.grownBy w39 (some go28):=(by rw[hw];exact HP38.2);have hp_:Kd.R (Kd.int .i64) 3 w39 w.heap.size (fun _=>True) (.slice (some ⟨go28,0,none⟩) y279.length co32) y283:=(by rw[hw,Ny283.out];exact HP38.1);clear HP38;have n0_:=am (blk_grown (g:=gb276) (o:=.cells #[.slice none 0 0,.int .i64 0,.bool false] 62 (0,0)) (bL BK276.out) hg (Kd.R_ne HO281.out BK276.out (b17_)));have n1_:=am (hp_);have n2_:=am (blk_grown (g:=gb282) (o:=.cells #[.slice (some ⟨go28,0,none⟩) y279.length co32,.int .i64 a2,.bool false] 62 (0,0)) (bL BK282.out) hg (Kd.R_ne HO281.out BK282.out (b17_)));have n3_:=am ((by rw[hw];exact below_set (HB.out) GB28.out:Below w.heap.size w w39));clear BK276 HO281 BK282 HB;have BK276:=n0_;have HO281:=n1_;have BK282:=n2_;have HB:=n3_;clear n0_ n1_ n2_ n3_;clear hg hw hp_;obtain⟨hcz40_0,hcz40_1,hcz40_2⟩:=cC3 BK282.out;obtain⟨hfz40_0,hfz40_1,hfz40_2⟩:=cF3 BK282.out;obtain⟨hcz41_0,hcz41_1,hcz41_2⟩:=cC3 BK276.out;obtain⟨hfz41_0,hfz41_1,hfz41_2⟩:=cF3 BK276.out))
            refine bodyPost_ret (results_ct rfl _ _ gb276 62 #[.slice (some ⟨go28,0,none⟩) y279.length co32,.int .i64 a2,.bool false] (0,0) _ rfl (by(with_reducible repeat (first|refine blk_drewN ?_ _|refine blk_drew ?_|refine blk_alloc ?_ _));apply bU3;(with_reducible repeat (first|refine blk_drewN ?_ _|refine blk_drew ?_|refine blk_alloc ?_ _));exact BK276.out) Try.underlying62 rfl (b4_)) rfl ?_
            exact⟨_,by first|rfl|(simp[errW_none,errW_some]<;>rfl)|(simp[*,errW_none,errW_some]<;>rfl),by(with_reducible repeat (first|apply Kd.R_alloc|apply Kd.R_drewN|apply Kd.R_drew));exact Kd.R_mono (Kd.R_far (p:=⟨gb276,2,none⟩) (Kd.R_far (p:=⟨gb276,1,none⟩) (Kd.R_far (p:=⟨gb276,0,none⟩) (Kd.R_types HO281.out BK276.out (b17_)) (fun _ hk=>hk.2) (.slice (some ⟨go28,0,none⟩) y279.length co32)) (fun _ hk=>hk.2) (.int .i64 a2)) (fun _ hk=>hk.2) (.bool false)) (fun _ hk=>trivial),bS2 GE276.out GE282.out⟩
           ·rw[if_neg c27] at H
            exact absurd H (by simp)
          ·rw[if_neg c26] at H
           exact absurd H (by simp)
         ·rw[if_neg c25] at H
          exact absurd H (by simp)
        ·rw[if_neg c24] at H
         exact absurd H (by simp)
       ·replace c23:=Bool.eq_false_iff.mpr c23
        subst c23
        have H1:(some (([]:List Int),0,false,false))=some (r1,r2,r3,r4):=by rw[if_neg (show ¬ (false=true) by decide)] at H;exact H
        clear H
        have H:=H1
        clear H1
        simp only[Option.some.injEq,Prod.mk.injEq] at H
        obtain⟨rfl,rfl,rfl,rfl⟩:=H
        go_enter Try.func108,Try.ntmps108
        go_wp2_with (first|((with_reducible refine gate_dst (N:=8) rfl ?_);refine box_event ?hg (N:=8) ?hd (cs:=#[.slice none 0 0,.int .i64 0,.bool false]) (t:=62) ?hr ?_;(case hd=>rfl);(case hg=>rfl);(case hr=>first|(go_simp;done)|(go_simp;rfl));intro gb276 hg w42 hbox hb;have n0_:=am (below_step (bB) hb);have n1_:=am (hbox);have n2_:=am ((bG:w.heap.size≤gb276));have n3_:=am ((bG:w.heap.size≤gb276));clear HB;have HB:=n0_;have BK276:=n1_;have GW276:=n2_;have GE276:=n3_;clear n0_ n1_ n2_ n3_;clear hb hbox hg)|((with_reducible refine gate_callee (f:=75) rfl ?_);refine goesA (some 12) rfl rfl Try.func75 #[.int .i64 a0,.int .i64 2,.int .i64 8] rfl ?_;(with_reducible refine(spec_l1In.calls a0 2 8 true _ A5.out).mono ?_);rintro e w' ⟨rfl,⟨nd,rfl⟩⟩;refine⟨_,rfl,?_⟩;(try (rw[drewN_self w42];generalize hq_:World.drewN w42 _=w42;have n0_:Aside0 (w42.heap[gb276]?=some (.cells #[.slice none 0 0,.int .i64 0,.bool false] 62 (0,0))):=⟨by rw[← hq_];exact(bL BK276.out)⟩;have n1_:Aside0 (Below w.heap.size w w42):=⟨by rw[← hq_];exact(bS GE276.out)⟩;clear BK276 HB hq_;have BK276:=n0_;have HB:=n1_;clear n0_ n1_)))|(go_at_call 75;(with_reducible refine(spec_l1In.calls a3 1 64 false _ A22.out).mono ?_);rintro e w' ⟨rfl,⟨nd,rfl⟩⟩;(try (rw[drewN_self w42];generalize hq_:World.drewN w42 _=w42;have n0_:Aside0 (w42.heap[gb276]?=some (.cells #[.slice none 0 0,.int .i64 0,.bool false] 62 (0,0))):=⟨by rw[← hq_];exact(bL BK276.out)⟩;have n1_:Aside0 (Below w.heap.size w w42):=⟨by rw[← hq_];exact(bS GE276.out)⟩;clear BK276 HB hq_;have BK276:=n0_;have HB:=n1_;clear n0_ n1_));obtain⟨hcz43_0,hcz43_1,hcz43_2⟩:=cC3 BK276.out;obtain⟨hfz43_0,hfz43_1,hfz43_2⟩:=cF3 BK276.out))
        refine bodyPost_ret (results_ct rfl _ _ gb276 62 #[.slice none 0 0,.int .i64 0,.bool false] (0,0) _ rfl (b1_) Try.underlying62 rfl (b4_)) rfl ?_
        exact⟨_,by first|rfl|(simp[errW_none,errW_some]<;>rfl)|(simp[*,errW_none,errW_some]<;>rfl),by first|exact Kd.R_nil _ _ _ _ _|exact Kd.N_nil _ _ _ _ _|exact Kd.V_nil _ _ _ _ _|exact Kd.Q_nil _ _ _ _ _|exact Kd.S_nil _ _ _ _ _,bS GE276.out⟩
 ·replace c6:=Bool.eq_false_iff.mpr c6
  subst c6
  have H1:(some (([]:List Int),0,false,false))=some (r1,r2,r3,r4):=by rw[if_neg (show ¬ (false=true) by decide)] at H;exact H
  clear H
  have H:=H1
  clear H1
  simp only[Option.some.injEq,Prod.mk.injEq] at H
  obtain⟨rfl,rfl,rfl,rfl⟩:=H
  go_enter Try.func108,Try.ntmps108
  go_wp2_with (first|((with_reducible refine gate_dst (N:=8) rfl ?_);refine box_event ?hg (N:=8) ?hd (cs:=#[.slice none 0 0,.int .i64 0,.bool false]) (t:=62) ?hr ?_;(case hd=>rfl);(case hg=>rfl);(case hr=>first|(go_simp;done)|(go_simp;rfl));intro gb276 hg w44 hbox hb;have n0_:=am (below_step (bB) hb);have n1_:=am (hbox);have n2_:=am ((bG:w.heap.size≤gb276));have n3_:=am ((bG:w.heap.size≤gb276));clear HB;have HB:=n0_;have BK276:=n1_;have GW276:=n2_;have GE276:=n3_;clear n0_ n1_ n2_ n3_;clear hb hbox hg)|((with_reducible refine gate_callee (f:=75) rfl ?_);refine goesA (some 12) rfl rfl Try.func75 #[.int .i64 a0,.int .i64 2,.int .i64 8] rfl ?_;(with_reducible refine(spec_l1In.calls a0 2 8 false _ A5.out).mono ?_);rintro e w' ⟨rfl,⟨nd,rfl⟩⟩;refine⟨_,rfl,?_⟩;(try (rw[drewN_self w44];generalize hq_:World.drewN w44 _=w44;have n0_:Aside0 (w44.heap[gb276]?=some (.cells #[.slice none 0 0,.int .i64 0,.bool false] 62 (0,0))):=⟨by rw[← hq_];exact(bL BK276.out)⟩;have n1_:Aside0 (Below w.heap.size w w44):=⟨by rw[← hq_];exact(bS GE276.out)⟩;clear BK276 HB hq_;have BK276:=n0_;have HB:=n1_;clear n0_ n1_));obtain⟨hcz45_0,hcz45_1,hcz45_2⟩:=cC3 BK276.out;obtain⟨hfz45_0,hfz45_1,hfz45_2⟩:=cF3 BK276.out))
  refine bodyPost_ret (results_ct rfl _ _ gb276 62 #[.slice none 0 0,.int .i64 0,.bool false] (0,0) _ rfl (b1_) Try.underlying62 rfl (b4_)) rfl ?_
  exact⟨_,by first|rfl|(simp[errW_none,errW_some]<;>rfl)|(simp[*,errW_none,errW_some]<;>rfl),by first|exact Kd.R_nil _ _ _ _ _|exact Kd.N_nil _ _ _ _ _|exact Kd.V_nil _ _ _ _ _|exact Kd.Q_nil _ _ _ _ _|exact Kd.S_nil _ _ _ _ _,bS GE276.out⟩

end Go.Proofs.Yteneeohaoplpbaa.XFnSpray
