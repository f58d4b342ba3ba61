-- Written by this session's own program (wip/xprint.py) out of the translation; Lean checks it.
import Derived.Test.YtanegdfncfkinaaXFnFloodx0
import Derived.Test.YtanegdfncfkinaaXFnFloodx5
namespace Go.Proofs.Ytanegdfncfkinaa.XFnFlood
open Go.RowKit Go.Proofs.YtanegdfncfkinaaW.PrintWords Go.Proofs.YtanegdfncfkinaaW.PrintLast Go.Proofs.YtanegdfncfkinaaW.PrintMore
attribute [local go_sem] max2_int min2_int max_two min_two max_three min_three max_four min_four   -- for this text's walks alone
set_option linter.unusedVariables false
set_option linter.unusedSimpArgs false

/-! ### spec_GoodPlan: function 31 -/
def spec_GoodPlan.l0:Nat→List (S58)→List (S58)→Int→Int→Option (Bool)
 | 0,_,_,_,_=>none
 | k+1,x0,x5,x6,x7=>if x7 < x6 then (if 0≤x7 then (if x7 < (x5.length:Int) then ((spec_l6Node.f ((rd_T58 x5 x7).f0)).bind fun t253=>(if t253=true then ((spec_l6Node.f ((rd_T58 x5 x7).f1)).bind fun t254=>(if t254=true then (if ((rd_T58 x5 x7).f0)=((rd_T58 x5 x7).f1) then (some false) else ((spec_l6When.f ((rd_T58 x5 x7).f3)).bind fun t255=>(if t255=true then (if ((rd_T58 x5 x7).f2) < 0 then (some false) else (if ((rd_T58 x5 x7).f2) ≥ ((rd_T58 x5 x7).f3) then (some false) else ((spec_l1In.f ((rd_T58 x5 x7).f4) 0 100).bind fun t256=>(if t256=true then (spec_GoodPlan.l0 k x0 x5 x6 (wrap64 (x7+1))) else (some false))))) else (some false)))) else (some false))) else (some false))) else (none)) else (none)) else (some (decide ((x0.length:Int)≤20)))
def spec_GoodPlan.f (k:Nat) (l0:List (S58)):Option (Bool):=spec_GoodPlan.l0 k l0 l0 (l0.length:Int) 0
theorem spec_GoodPlan.mono_l : ∀ k,(∀ y0 y1 y2 y3,LeO (spec_GoodPlan.l0 k y0 y1 y2 y3) (spec_GoodPlan.l0 (k+1) y0 y1 y2 y3))
 | 0=>fun _ _ _ _ r h=>by simp[spec_GoodPlan.l0] at h
 | k+1=>by
  have ih0:=spec_GoodPlan.mono_l k
  ·intro y0 y1 y2 y3
   unfold spec_GoodPlan.l0
   repeat' first
   | (with_reducible exact ih0 _ _ _ _)
   | (with_reducible exact LeO.refl _)
   | (with_reducible exact LeO.none _)
   | (with_reducible refine LeO.ite ?_ ?_)
   | (with_reducible refine LeO.bind ?_ (fun _ => ?_))
   | exact ih0 _ _ _ _
   | exact LeO.none _
   | refine LeO.ite ?_ ?_
   | refine LeO.bind ?_ (fun _ => ?_)
theorem spec_GoodPlan.mono : ∀ a0 k,LeO (spec_GoodPlan.f k a0) (spec_GoodPlan.f (k+1) a0):=by
 intro a0 k
 have ih0:=spec_GoodPlan.mono_l k
 unfold spec_GoodPlan.f
 repeat' first
  | (with_reducible exact ih0 _ _ _ _)
  | (with_reducible exact LeO.refl _)
  | (with_reducible exact LeO.none _)
  | (with_reducible refine LeO.ite ?_ ?_)
  | (with_reducible refine LeO.bind ?_ (fun _ => ?_))
  | exact ih0 _ _ _ _
  | exact LeO.none _
  | refine LeO.ite ?_ ?_
  | refine LeO.bind ?_ (fun _ => ?_)
set_option maxHeartbeats 8000000 in
set_option maxRecDepth 100000 in
theorem spec_GoodPlan.calls (k:Nat) (A0:Option Addr) (c0:Nat) (l0:List (S58)) (r:Bool) (w:World) (hr0:Kd.C k58 w A0 l0.length l0) (hc0:l0.length≤c0) (h:spec_GoodPlan.f k l0=some r) :
  Calls Try.prog 31 #[.slice A0 l0.length c0] w fun e w'=>e=.returned (.bool r)∧Below w.heap.size w w':=by
 have hu58:=Try.underlying58
 have HR0:=Aside0.mk hr0
 have HC0:=Aside0.mk hc0
 clear hr0 hc0
 have HB:=Aside0.mk (Below.refl w.heap.size w)
 have H:(spec_GoodPlan.l0 k l0 l0 (l0.length:Int) 0)=some r:=h
 clear h
 have H':=Aside0.mk H
 clear H
 go_enter Try.func31,Try.ntmps31
 go_wp2
 go_loopg [7] k (fun kq v7 w' => ∃ (x7_1:Int),v7=.int .i64 x7_1∧Aside0 (spec_GoodPlan.l0 kq l0 l0 (l0.length:Int) x7_1=some r)∧Aside0 (kq≤k)∧Aside0 (Below w.heap.size w w'))
 case atStart=>exact⟨(0),(bR),H',⟨Nat.le_refl _⟩,⟨by repeat (first|(with_reducible first|exact HB.out|apply below_alloc|apply pw_below_drewN|apply below_drew1)|exact HB.out)⟩⟩
 case round =>
  clear H'
  obtain⟨x7_1,rfl,HA,HK1,HB⟩:=hrel
  cases gk with
  | zero=>exact absurd HA.out (by simp[spec_GoodPlan.l0])
  | succ k1 =>
   have H:=HA.out
   clear HA
   simp only[spec_GoodPlan.l0] at H
   by_cases c2:x7_1 < (l0.length:Int)
   ·rw[if_pos c2] at H
    have c2b0:decide (x7_1 < (l0.length:Int))=true:=decide_eq_true c2
    clear c2
    by_cases c3:0≤x7_1
    ·rw[if_pos c3] at H
     have c3b0:decide (0≤x7_1)=true:=decide_eq_true c3
     clear c3
     by_cases c4:x7_1 < (l0.length:Int)
     ·rw[if_pos c4] at H
      have c4b0:decide (x7_1 < (l0.length:Int))=true:=decide_eq_true c4
      clear c4
      replace H:=Option.bind_eq_some_iff.mp H
      obtain⟨t253,A50,H⟩:=H
      have A5:=Aside0.mk A50
      clear A50
      by_cases c6:t253=true
      ·subst c6
       have H1:((spec_l6Node.f ((rd_T58 l0 x7_1).f1)).bind fun t254=>(if t254=true then (if ((rd_T58 l0 x7_1).f0)=((rd_T58 l0 x7_1).f1) then (some false) else ((spec_l6When.f ((rd_T58 l0 x7_1).f3)).bind fun t255=>(if t255=true then (if ((rd_T58 l0 x7_1).f2) < 0 then (some false) else (if ((rd_T58 l0 x7_1).f2) ≥ ((rd_T58 l0 x7_1).f3) then (some false) else ((spec_l1In.f ((rd_T58 l0 x7_1).f4) 0 100).bind fun t256=>(if t256=true then (spec_GoodPlan.l0 k1 l0 l0 (l0.length:Int) (wrap64 (x7_1+1))) else (some false))))) else (some false)))) else (some false)))=some r:=by rw[if_pos rfl] at H;exact H
       clear H
       have H:=H1
       clear H1
       replace H:=Option.bind_eq_some_iff.mp H
       obtain⟨t254,A70,H⟩:=H
       have A7:=Aside0.mk A70
       clear A70
       by_cases c8:t254=true
       ·subst c8
        have H1:(if ((rd_T58 l0 x7_1).f0)=((rd_T58 l0 x7_1).f1) then (some false) else ((spec_l6When.f ((rd_T58 l0 x7_1).f3)).bind fun t255=>(if t255=true then (if ((rd_T58 l0 x7_1).f2) < 0 then (some false) else (if ((rd_T58 l0 x7_1).f2) ≥ ((rd_T58 l0 x7_1).f3) then (some false) else ((spec_l1In.f ((rd_T58 l0 x7_1).f4) 0 100).bind fun t256=>(if t256=true then (spec_GoodPlan.l0 k1 l0 l0 (l0.length:Int) (wrap64 (x7_1+1))) else (some false))))) else (some false))))=some r:=by rw[if_pos rfl] at H;exact H
        clear H
        have H:=H1
        clear H1
        by_cases c9:((rd_T58 l0 x7_1).f0)=((rd_T58 l0 x7_1).f1)
        ·rw[if_pos c9] at H
         have c9b0:(((rd_T58 l0 x7_1).f0) == ((rd_T58 l0 x7_1).f1))=true:=beq_iff_eq.mpr c9
         have c9b1:(((rd_T58 l0 x7_1).f0) != ((rd_T58 l0 x7_1).f1))=false:=bne_eq_false_iff_eq.mpr c9
         clear c9
         obtain rfl:=Option.some.inj H
         have p251:0≤(x7_1:Int):=of_decide_eq_true (bD)
         have q251:x7_1 < (l0.length:Int):=of_decide_eq_true (bD)
         obtain⟨ad251,e251,hx251_0,hx251_1,hx251_2,hx251_3,hx251_4⟩:=at_T58 HR0.out x7_1 p251 q251
         cases e251
         replace hx251_0:=(HB.out.cell (World.block_lt_of_cell? w _ hx251_0)).trans hx251_0
         replace hx251_1:=(HB.out.cell (World.block_lt_of_cell? w _ hx251_1)).trans hx251_1
         replace hx251_2:=(HB.out.cell (World.block_lt_of_cell? w _ hx251_2)).trans hx251_2
         replace hx251_3:=(HB.out.cell (World.block_lt_of_cell? w _ hx251_3)).trans hx251_3
         replace hx251_4:=(HB.out.cell (World.block_lt_of_cell? w _ hx251_4)).trans hx251_4
         replace p251:=eq_true p251
         replace q251:=eq_true q251
         go_wp2_with (first|((with_reducible refine gate_dst (N:=4) rfl ?_);refine box_event ?hg (N:=4) ?hd (cs:=#[.int .i64 0,.int .i64 0,.int .i64 0,.int .i64 0,.int .i64 0]) (t:=58) ?hr ?_;(case hd=>rfl);(case hg=>rfl);(case hr=>first|(go_simp;done)|(go_simp;rfl));intro gb252 hg w10 hbox hb;have n0_:=Aside0.mk (below_step (bB) hb);have n1_:=Aside0.mk (hbox);have n2_:=Aside0.mk ((bG:w.heap.size≤gb252));have n3_:=Aside0.mk ((bG:w.heap.size≤gb252));clear HB;have HB:=n0_;have BK252:=n1_;have GW252:=n2_;have GE252:=n3_;clear n0_ n1_ n2_ n3_;clear hb hbox hg;obtain⟨hcz11_0,hcz11_1,hcz11_2,hcz11_3,hcz11_4⟩:=cC5 BK252.out;obtain⟨hfz11_0,hfz11_1,hfz11_2,hfz11_3,hfz11_4⟩:=cF5 BK252.out)|((with_reducible refine gate_callee (f:=32) rfl ?_);refine goesA (some 13) rfl rfl Try.func32 #[.int .i64 ((rd_T58 l0 x7_1).f0)] rfl ?_;(with_reducible refine(spec_l6Node.calls ((rd_T58 l0 x7_1).f0) true _ A5.out).mono ?_);rintro e w' ⟨rfl,⟨nd,rfl⟩⟩;refine⟨_,rfl,?_⟩)|(go_at_call 32;(with_reducible refine(spec_l6Node.calls ((rd_T58 l0 x7_1).f1) true _ A7.out).mono ?_);rintro e w' ⟨rfl,⟨nd,rfl⟩⟩))
         go_ret
         exact⟨bE,bS GE252.out⟩
        ·rw[if_neg c9] at H
         have c9b0:(((rd_T58 l0 x7_1).f0) == ((rd_T58 l0 x7_1).f1))=false:=beq_eq_false_iff_ne.mpr c9
         have c9b1:(((rd_T58 l0 x7_1).f0) != ((rd_T58 l0 x7_1).f1))=true:=bne_iff_ne.mpr c9
         replace H:=Option.bind_eq_some_iff.mp H
         obtain⟨t255,A120,H⟩:=H
         have A12:=Aside0.mk A120
         clear A120
         by_cases c13:t255=true
         ·subst c13
          have H1:(if ((rd_T58 l0 x7_1).f2) < 0 then (some false) else (if ((rd_T58 l0 x7_1).f2) ≥ ((rd_T58 l0 x7_1).f3) then (some false) else ((spec_l1In.f ((rd_T58 l0 x7_1).f4) 0 100).bind fun t256=>(if t256=true then (spec_GoodPlan.l0 k1 l0 l0 (l0.length:Int) (wrap64 (x7_1+1))) else (some false)))))=some r:=by rw[if_pos rfl] at H;exact H
          clear H
          have H:=H1
          clear H1
          by_cases c14:((rd_T58 l0 x7_1).f2) < 0
          ·rw[if_pos c14] at H
           have c14b0:decide (((rd_T58 l0 x7_1).f2) < 0)=true:=decide_eq_true c14
           clear c14
           obtain rfl:=Option.some.inj H
           have p251:0≤(x7_1:Int):=of_decide_eq_true (bD)
           have q251:x7_1 < (l0.length:Int):=of_decide_eq_true (bD)
           obtain⟨ad251,e251,hx251_0,hx251_1,hx251_2,hx251_3,hx251_4⟩:=at_T58 HR0.out x7_1 p251 q251
           cases e251
           replace hx251_0:=(HB.out.cell (World.block_lt_of_cell? w _ hx251_0)).trans hx251_0
           replace hx251_1:=(HB.out.cell (World.block_lt_of_cell? w _ hx251_1)).trans hx251_1
           replace hx251_2:=(HB.out.cell (World.block_lt_of_cell? w _ hx251_2)).trans hx251_2
           replace hx251_3:=(HB.out.cell (World.block_lt_of_cell? w _ hx251_3)).trans hx251_3
           replace hx251_4:=(HB.out.cell (World.block_lt_of_cell? w _ hx251_4)).trans hx251_4
           replace p251:=eq_true p251
           replace q251:=eq_true q251
           go_wp2_with (first|((with_reducible refine gate_dst (N:=4) rfl ?_);refine box_event ?hg (N:=4) ?hd (cs:=#[.int .i64 0,.int .i64 0,.int .i64 0,.int .i64 0,.int .i64 0]) (t:=58) ?hr ?_;(case hd=>rfl);(case hg=>rfl);(case hr=>first|(go_simp;done)|(go_simp;rfl));intro gb252 hg w15 hbox hb;have n0_:=Aside0.mk (below_step (bB) hb);have n1_:=Aside0.mk (hbox);have n2_:=Aside0.mk ((bG:w.heap.size≤gb252));have n3_:=Aside0.mk ((bG:w.heap.size≤gb252));clear HB;have HB:=n0_;have BK252:=n1_;have GW252:=n2_;have GE252:=n3_;clear n0_ n1_ n2_ n3_;clear hb hbox hg;obtain⟨hcz16_0,hcz16_1,hcz16_2,hcz16_3,hcz16_4⟩:=cC5 BK252.out;obtain⟨hfz16_0,hfz16_1,hfz16_2,hfz16_3,hfz16_4⟩:=cF5 BK252.out)|((with_reducible refine gate_callee (f:=32) rfl ?_);refine goesA (some 13) rfl rfl Try.func32 #[.int .i64 ((rd_T58 l0 x7_1).f0)] rfl ?_;(with_reducible refine(spec_l6Node.calls ((rd_T58 l0 x7_1).f0) true _ A5.out).mono ?_);rintro e w' ⟨rfl,⟨nd,rfl⟩⟩;refine⟨_,rfl,?_⟩)|(go_at_call 32;(with_reducible refine(spec_l6Node.calls ((rd_T58 l0 x7_1).f1) true _ A7.out).mono ?_);rintro e w' ⟨rfl,⟨nd,rfl⟩⟩)|(go_at_call 33;(with_reducible refine(spec_l6When.calls ((rd_T58 l0 x7_1).f3) true _ A12.out).mono ?_);rintro e w' ⟨rfl,⟨nd,rfl⟩⟩))
           go_ret
           exact⟨bE,bS GE252.out⟩
          ·rw[if_neg c14] at H
           have c14b0:decide (((rd_T58 l0 x7_1).f2) < 0)=false:=decide_eq_false c14
           clear c14
           by_cases c17:((rd_T58 l0 x7_1).f2) ≥ ((rd_T58 l0 x7_1).f3)
           ·rw[if_pos c17] at H
            have c17b0:decide (((rd_T58 l0 x7_1).f3)≤((rd_T58 l0 x7_1).f2))=true:=decide_eq_true c17
            clear c17
            obtain rfl:=Option.some.inj H
            have p251:0≤(x7_1:Int):=of_decide_eq_true (bD)
            have q251:x7_1 < (l0.length:Int):=of_decide_eq_true (bD)
            obtain⟨ad251,e251,hx251_0,hx251_1,hx251_2,hx251_3,hx251_4⟩:=at_T58 HR0.out x7_1 p251 q251
            cases e251
            replace hx251_0:=(HB.out.cell (World.block_lt_of_cell? w _ hx251_0)).trans hx251_0
            replace hx251_1:=(HB.out.cell (World.block_lt_of_cell? w _ hx251_1)).trans hx251_1
            replace hx251_2:=(HB.out.cell (World.block_lt_of_cell? w _ hx251_2)).trans hx251_2
            replace hx251_3:=(HB.out.cell (World.block_lt_of_cell? w _ hx251_3)).trans hx251_3
            replace hx251_4:=(HB.out.cell (World.block_lt_of_cell? w _ hx251_4)).trans hx251_4
            replace p251:=eq_true p251
            replace q251:=eq_true q251
            go_wp2_with (first|((with_reducible refine gate_dst (N:=4) rfl ?_);refine box_event ?hg (N:=4) ?hd (cs:=#[.int .i64 0,.int .i64 0,.int .i64 0,.int .i64 0,.int .i64 0]) (t:=58) ?hr ?_;(case hd=>rfl);(case hg=>rfl);(case hr=>first|(go_simp;done)|(go_simp;rfl));intro gb252 hg w18 hbox hb;have n0_:=Aside0.mk (below_step (bB) hb);have n1_:=Aside0.mk (hbox);have n2_:=Aside0.mk ((bG:w.heap.size≤gb252));have n3_:=Aside0.mk ((bG:w.heap.size≤gb252));clear HB;have HB:=n0_;have BK252:=n1_;have GW252:=n2_;have GE252:=n3_;clear n0_ n1_ n2_ n3_;clear hb hbox hg;obtain⟨hcz19_0,hcz19_1,hcz19_2,hcz19_3,hcz19_4⟩:=cC5 BK252.out;obtain⟨hfz19_0,hfz19_1,hfz19_2,hfz19_3,hfz19_4⟩:=cF5 BK252.out)|((with_reducible refine gate_callee (f:=32) rfl ?_);refine goesA (some 13) rfl rfl Try.func32 #[.int .i64 ((rd_T58 l0 x7_1).f0)] rfl ?_;(with_reducible refine(spec_l6Node.calls ((rd_T58 l0 x7_1).f0) true _ A5.out).mono ?_);rintro e w' ⟨rfl,⟨nd,rfl⟩⟩;refine⟨_,rfl,?_⟩)|(go_at_call 32;(with_reducible refine(spec_l6Node.calls ((rd_T58 l0 x7_1).f1) true _ A7.out).mono ?_);rintro e w' ⟨rfl,⟨nd,rfl⟩⟩)|(go_at_call 33;(with_reducible refine(spec_l6When.calls ((rd_T58 l0 x7_1).f3) true _ A12.out).mono ?_);rintro e w' ⟨rfl,⟨nd,rfl⟩⟩))
            go_ret
            exact⟨bE,bS GE252.out⟩
           ·rw[if_neg c17] at H
            have c17b0:decide (((rd_T58 l0 x7_1).f3)≤((rd_T58 l0 x7_1).f2))=false:=decide_eq_false c17
            clear c17
            replace H:=Option.bind_eq_some_iff.mp H
            obtain⟨t256,A200,H⟩:=H
            have A20:=Aside0.mk A200
            clear A200
            by_cases c21:t256=true
            ·subst c21
             have H1:(spec_GoodPlan.l0 k1 l0 l0 (l0.length:Int) (wrap64 (x7_1+1)))=some r:=by rw[if_pos rfl] at H;exact H
             clear H
             have H:=H1
             clear H1
             have H':=Aside0.mk H
             clear H
             have p251:0≤(x7_1:Int):=of_decide_eq_true (bD)
             have q251:x7_1 < (l0.length:Int):=of_decide_eq_true (bD)
             obtain⟨ad251,e251,hx251_0,hx251_1,hx251_2,hx251_3,hx251_4⟩:=at_T58 HR0.out x7_1 p251 q251
             cases e251
             replace hx251_0:=(HB.out.cell (World.block_lt_of_cell? w _ hx251_0)).trans hx251_0
             replace hx251_1:=(HB.out.cell (World.block_lt_of_cell? w _ hx251_1)).trans hx251_1
             replace hx251_2:=(HB.out.cell (World.block_lt_of_cell? w _ hx251_2)).trans hx251_2
             replace hx251_3:=(HB.out.cell (World.block_lt_of_cell? w _ hx251_3)).trans hx251_3
             replace hx251_4:=(HB.out.cell (World.block_lt_of_cell? w _ hx251_4)).trans hx251_4
             replace p251:=eq_true p251
             replace q251:=eq_true q251
             go_wp2_with (first|((with_reducible refine gate_dst (N:=4) rfl ?_);refine box_event ?hg (N:=4) ?hd (cs:=#[.int .i64 0,.int .i64 0,.int .i64 0,.int .i64 0,.int .i64 0]) (t:=58) ?hr ?_;(case hd=>rfl);(case hg=>rfl);(case hr=>first|(go_simp;done)|(go_simp;rfl));intro gb252 hg w22 hbox hb;have n0_:=Aside0.mk (below_step (bB) hb);have n1_:=Aside0.mk (hbox);have n2_:=Aside0.mk ((bG:w.heap.size≤gb252));have n3_:=Aside0.mk ((bG:w.heap.size≤gb252));clear HB;have HB:=n0_;have BK252:=n1_;have GW252:=n2_;have GE252:=n3_;clear n0_ n1_ n2_ n3_;clear hb hbox hg;obtain⟨hcz23_0,hcz23_1,hcz23_2,hcz23_3,hcz23_4⟩:=cC5 BK252.out;obtain⟨hfz23_0,hfz23_1,hfz23_2,hfz23_3,hfz23_4⟩:=cF5 BK252.out)|((with_reducible refine gate_callee (f:=32) rfl ?_);refine goesA (some 13) rfl rfl Try.func32 #[.int .i64 ((rd_T58 l0 x7_1).f0)] rfl ?_;(with_reducible refine(spec_l6Node.calls ((rd_T58 l0 x7_1).f0) true _ A5.out).mono ?_);rintro e w' ⟨rfl,⟨nd,rfl⟩⟩;refine⟨_,rfl,?_⟩)|(go_at_call 32;(with_reducible refine(spec_l6Node.calls ((rd_T58 l0 x7_1).f1) true _ A7.out).mono ?_);rintro e w' ⟨rfl,⟨nd,rfl⟩⟩)|(go_at_call 33;(with_reducible refine(spec_l6When.calls ((rd_T58 l0 x7_1).f3) true _ A12.out).mono ?_);rintro e w' ⟨rfl,⟨nd,rfl⟩⟩)|(go_at_call 16;(with_reducible refine(spec_l1In.calls ((rd_T58 l0 x7_1).f4) 0 100 true _ A20.out).mono ?_);rintro e w' ⟨rfl,⟨nd,rfl⟩⟩))
             go_roundg k1
             case measure=>have:=HK1.out;omega
             case rel=>exact⟨(wrap64 (x7_1+1)),(bR),H',⟨by have:=HK1.out;omega⟩,⟨bS GE252.out⟩⟩
            ·replace c21:=Bool.eq_false_iff.mpr c21
             subst c21
             have H1:(some false)=some r:=by rw[if_neg (show ¬ (false=true) by decide)] at H;exact H
             clear H
             have H:=H1
             clear H1
             obtain rfl:=Option.some.inj H
             have p251:0≤(x7_1:Int):=of_decide_eq_true (bD)
             have q251:x7_1 < (l0.length:Int):=of_decide_eq_true (bD)
             obtain⟨ad251,e251,hx251_0,hx251_1,hx251_2,hx251_3,hx251_4⟩:=at_T58 HR0.out x7_1 p251 q251
             cases e251
             replace hx251_0:=(HB.out.cell (World.block_lt_of_cell? w _ hx251_0)).trans hx251_0
             replace hx251_1:=(HB.out.cell (World.block_lt_of_cell? w _ hx251_1)).trans hx251_1
             replace hx251_2:=(HB.out.cell (World.block_lt_of_cell? w _ hx251_2)).trans hx251_2
             replace hx251_3:=(HB.out.cell (World.block_lt_of_cell? w _ hx251_3)).trans hx251_3
             replace hx251_4:=(HB.out.cell (World.block_lt_of_cell? w _ hx251_4)).trans hx251_4
             replace p251:=eq_true p251
             replace q251:=eq_true q251
             go_wp2_with (first|((with_reducible refine gate_dst (N:=4) rfl ?_);refine box_event ?hg (N:=4) ?hd (cs:=#[.int .i64 0,.int .i64 0,.int .i64 0,.int .i64 0,.int .i64 0]) (t:=58) ?hr ?_;(case hd=>rfl);(case hg=>rfl);(case hr=>first|(go_simp;done)|(go_simp;rfl));intro gb252 hg w24 hbox hb;have n0_:=Aside0.mk (below_step (bB) hb);have n1_:=Aside0.mk (hbox);have n2_:=Aside0.mk ((bG:w.heap.size≤gb252));have n3_:=Aside0.mk ((bG:w.heap.size≤gb252));clear HB;have HB:=n0_;have BK252:=n1_;have GW252:=n2_;have GE252:=n3_;clear n0_ n1_ n2_ n3_;clear hb hbox hg;obtain⟨hcz25_0,hcz25_1,hcz25_2,hcz25_3,hcz25_4⟩:=cC5 BK252.out;obtain⟨hfz25_0,hfz25_1,hfz25_2,hfz25_3,hfz25_4⟩:=cF5 BK252.out)|((with_reducible refine gate_callee (f:=32) rfl ?_);refine goesA (some 13) rfl rfl Try.func32 #[.int .i64 ((rd_T58 l0 x7_1).f0)] rfl ?_;(with_reducible refine(spec_l6Node.calls ((rd_T58 l0 x7_1).f0) true _ A5.out).mono ?_);rintro e w' ⟨rfl,⟨nd,rfl⟩⟩;refine⟨_,rfl,?_⟩)|(go_at_call 32;(with_reducible refine(spec_l6Node.calls ((rd_T58 l0 x7_1).f1) true _ A7.out).mono ?_);rintro e w' ⟨rfl,⟨nd,rfl⟩⟩)|(go_at_call 33;(with_reducible refine(spec_l6When.calls ((rd_T58 l0 x7_1).f3) true _ A12.out).mono ?_);rintro e w' ⟨rfl,⟨nd,rfl⟩⟩)|(go_at_call 16;(with_reducible refine(spec_l1In.calls ((rd_T58 l0 x7_1).f4) 0 100 false _ A20.out).mono ?_);rintro e w' ⟨rfl,⟨nd,rfl⟩⟩))
             go_ret
             exact⟨bE,bS GE252.out⟩
         ·replace c13:=Bool.eq_false_iff.mpr c13
          subst c13
          have H1:(some false)=some r:=by rw[if_neg (show ¬ (false=true) by decide)] at H;exact H
          clear H
          have H:=H1
          clear H1
          obtain rfl:=Option.some.inj H
          have p251:0≤(x7_1:Int):=of_decide_eq_true (bD)
          have q251:x7_1 < (l0.length:Int):=of_decide_eq_true (bD)
          obtain⟨ad251,e251,hx251_0,hx251_1,hx251_2,hx251_3,hx251_4⟩:=at_T58 HR0.out x7_1 p251 q251
          cases e251
          replace hx251_0:=(HB.out.cell (World.block_lt_of_cell? w _ hx251_0)).trans hx251_0
          replace hx251_1:=(HB.out.cell (World.block_lt_of_cell? w _ hx251_1)).trans hx251_1
          replace hx251_2:=(HB.out.cell (World.block_lt_of_cell? w _ hx251_2)).trans hx251_2
          replace hx251_3:=(HB.out.cell (World.block_lt_of_cell? w _ hx251_3)).trans hx251_3
          replace hx251_4:=(HB.out.cell (World.block_lt_of_cell? w _ hx251_4)).trans hx251_4
          replace p251:=eq_true p251
          replace q251:=eq_true q251
          go_wp2_with (first|((with_reducible refine gate_dst (N:=4) rfl ?_);refine box_event ?hg (N:=4) ?hd (cs:=#[.int .i64 0,.int .i64 0,.int .i64 0,.int .i64 0,.int .i64 0]) (t:=58) ?hr ?_;(case hd=>rfl);(case hg=>rfl);(case hr=>first|(go_simp;done)|(go_simp;rfl));intro gb252 hg w26 hbox hb;have n0_:=Aside0.mk (below_step (bB) hb);have n1_:=Aside0.mk (hbox);have n2_:=Aside0.mk ((bG:w.heap.size≤gb252));have n3_:=Aside0.mk ((bG:w.heap.size≤gb252));clear HB;have HB:=n0_;have BK252:=n1_;have GW252:=n2_;have GE252:=n3_;clear n0_ n1_ n2_ n3_;clear hb hbox hg;obtain⟨hcz27_0,hcz27_1,hcz27_2,hcz27_3,hcz27_4⟩:=cC5 BK252.out;obtain⟨hfz27_0,hfz27_1,hfz27_2,hfz27_3,hfz27_4⟩:=cF5 BK252.out)|((with_reducible refine gate_callee (f:=32) rfl ?_);refine goesA (some 13) rfl rfl Try.func32 #[.int .i64 ((rd_T58 l0 x7_1).f0)] rfl ?_;(with_reducible refine(spec_l6Node.calls ((rd_T58 l0 x7_1).f0) true _ A5.out).mono ?_);rintro e w' ⟨rfl,⟨nd,rfl⟩⟩;refine⟨_,rfl,?_⟩)|(go_at_call 32;(with_reducible refine(spec_l6Node.calls ((rd_T58 l0 x7_1).f1) true _ A7.out).mono ?_);rintro e w' ⟨rfl,⟨nd,rfl⟩⟩)|(go_at_call 33;(with_reducible refine(spec_l6When.calls ((rd_T58 l0 x7_1).f3) false _ A12.out).mono ?_);rintro e w' ⟨rfl,⟨nd,rfl⟩⟩))
          go_ret
          exact⟨bE,bS GE252.out⟩
       ·replace c8:=Bool.eq_false_iff.mpr c8
        subst c8
        have H1:(some false)=some r:=by rw[if_neg (show ¬ (false=true) by decide)] at H;exact H
        clear H
        have H:=H1
        clear H1
        obtain rfl:=Option.some.inj H
        have p251:0≤(x7_1:Int):=of_decide_eq_true (bD)
        have q251:x7_1 < (l0.length:Int):=of_decide_eq_true (bD)
        obtain⟨ad251,e251,hx251_0,hx251_1,hx251_2,hx251_3,hx251_4⟩:=at_T58 HR0.out x7_1 p251 q251
        cases e251
        replace hx251_0:=(HB.out.cell (World.block_lt_of_cell? w _ hx251_0)).trans hx251_0
        replace hx251_1:=(HB.out.cell (World.block_lt_of_cell? w _ hx251_1)).trans hx251_1
        replace hx251_2:=(HB.out.cell (World.block_lt_of_cell? w _ hx251_2)).trans hx251_2
        replace hx251_3:=(HB.out.cell (World.block_lt_of_cell? w _ hx251_3)).trans hx251_3
        replace hx251_4:=(HB.out.cell (World.block_lt_of_cell? w _ hx251_4)).trans hx251_4
        replace p251:=eq_true p251
        replace q251:=eq_true q251
        go_wp2_with (first|((with_reducible refine gate_dst (N:=4) rfl ?_);refine box_event ?hg (N:=4) ?hd (cs:=#[.int .i64 0,.int .i64 0,.int .i64 0,.int .i64 0,.int .i64 0]) (t:=58) ?hr ?_;(case hd=>rfl);(case hg=>rfl);(case hr=>first|(go_simp;done)|(go_simp;rfl));intro gb252 hg w28 hbox hb;have n0_:=Aside0.mk (below_step (bB) hb);have n1_:=Aside0.mk (hbox);have n2_:=Aside0.mk ((bG:w.heap.size≤gb252));have n3_:=Aside0.mk ((bG:w.heap.size≤gb252));clear HB;have HB:=n0_;have BK252:=n1_;have GW252:=n2_;have GE252:=n3_;clear n0_ n1_ n2_ n3_;clear hb hbox hg;obtain⟨hcz29_0,hcz29_1,hcz29_2,hcz29_3,hcz29_4⟩:=cC5 BK252.out;obtain⟨hfz29_0,hfz29_1,hfz29_2,hfz29_3,hfz29_4⟩:=cF5 BK252.out)|((with_reducible refine gate_callee (f:=32) rfl ?_);refine goesA (some 13) rfl rfl Try.func32 #[.int .i64 ((rd_T58 l0 x7_1).f0)] rfl ?_;(with_reducible refine(spec_l6Node.calls ((rd_T58 l0 x7_1).f0) true _ A5.out).mono ?_);rintro e w' ⟨rfl,⟨nd,rfl⟩⟩;refine⟨_,rfl,?_⟩)|(go_at_call 32;(with_reducible refine(spec_l6Node.calls ((rd_T58 l0 x7_1).f1) false _ A7.out).mono ?_);rintro e w' ⟨rfl,⟨nd,rfl⟩⟩))
        go_ret
        exact⟨bE,bS GE252.out⟩
      ·replace c6:=Bool.eq_false_iff.mpr c6
       subst c6
       have H1:(some false)=some r:=by rw[if_neg (show ¬ (false=true) by decide)] at H;exact H
       clear H
       have H:=H1
       clear H1
       obtain rfl:=Option.some.inj H
       have p251:0≤(x7_1:Int):=of_decide_eq_true (bD)
       have q251:x7_1 < (l0.length:Int):=of_decide_eq_true (bD)
       obtain⟨ad251,e251,hx251_0,hx251_1,hx251_2,hx251_3,hx251_4⟩:=at_T58 HR0.out x7_1 p251 q251
       cases e251
       replace hx251_0:=(HB.out.cell (World.block_lt_of_cell? w _ hx251_0)).trans hx251_0
       replace hx251_1:=(HB.out.cell (World.block_lt_of_cell? w _ hx251_1)).trans hx251_1
       replace hx251_2:=(HB.out.cell (World.block_lt_of_cell? w _ hx251_2)).trans hx251_2
       replace hx251_3:=(HB.out.cell (World.block_lt_of_cell? w _ hx251_3)).trans hx251_3
       replace hx251_4:=(HB.out.cell (World.block_lt_of_cell? w _ hx251_4)).trans hx251_4
       replace p251:=eq_true p251
       replace q251:=eq_true q251
       go_wp2_with (first|((with_reducible refine gate_dst (N:=4) rfl ?_);refine box_event ?hg (N:=4) ?hd (cs:=#[.int .i64 0,.int .i64 0,.int .i64 0,.int .i64 0,.int .i64 0]) (t:=58) ?hr ?_;(case hd=>rfl);(case hg=>rfl);(case hr=>first|(go_simp;done)|(go_simp;rfl));intro gb252 hg w30 hbox hb;have n0_:=Aside0.mk (below_step (bB) hb);have n1_:=Aside0.mk (hbox);have n2_:=Aside0.mk ((bG:w.heap.size≤gb252));have n3_:=Aside0.mk ((bG:w.heap.size≤gb252));clear HB;have HB:=n0_;have BK252:=n1_;have GW252:=n2_;have GE252:=n3_;clear n0_ n1_ n2_ n3_;clear hb hbox hg;obtain⟨hcz31_0,hcz31_1,hcz31_2,hcz31_3,hcz31_4⟩:=cC5 BK252.out;obtain⟨hfz31_0,hfz31_1,hfz31_2,hfz31_3,hfz31_4⟩:=cF5 BK252.out)|((with_reducible refine gate_callee (f:=32) rfl ?_);refine goesA (some 13) rfl rfl Try.func32 #[.int .i64 ((rd_T58 l0 x7_1).f0)] rfl ?_;(with_reducible refine(spec_l6Node.calls ((rd_T58 l0 x7_1).f0) false _ A5.out).mono ?_);rintro e w' ⟨rfl,⟨nd,rfl⟩⟩;refine⟨_,rfl,?_⟩))
       go_ret
       exact⟨bE,bS GE252.out⟩
     ·rw[if_neg c4] at H
      exact absurd H (by simp)
    ·rw[if_neg c3] at H
     exact absurd H (by simp)
   ·rw[if_neg c2] at H
    have c2b0:decide (x7_1 < (l0.length:Int))=false:=decide_eq_false c2
    clear c2
    obtain rfl:=Option.some.inj H
    go_wp2
    go_ret
    exact⟨bE,bB⟩

end Go.Proofs.Ytanegdfncfkinaa.XFnFlood
