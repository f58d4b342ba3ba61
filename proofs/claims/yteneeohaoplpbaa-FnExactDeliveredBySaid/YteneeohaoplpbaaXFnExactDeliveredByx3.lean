-- Written by this session's own program (wip/xprint.py) out of the translation; Lean checks it.
import Derived.Test.YteneeohaoplpbaaXFnExactDeliveredByx0
import Derived.Test.YteneeohaoplpbaaXFnExactDeliveredByx2
namespace Go.Proofs.Yteneeohaoplpbaa.XFnExactDeliveredBy
open Go.RowKit Go.Proofs.YteneeohaoplpbaaW.PrintWords Go.Proofs.YteneeohaoplpbaaW.PrintLast Go.Proofs.YteneeohaoplpbaaW.PrintMore
attribute [local go_sem] max2_int min2_int max_two min_two max_three min_three max_four min_four   -- for this text's walks alone
set_option linter.unusedVariables false
set_option linter.unusedSimpArgs false

/-! ### spec_GoodPlan: function 84 -/
def spec_GoodPlan.l0:Nat→List (S104)→List (S104)→Int→Int→Option (Bool)
 | 0,_,_,_,_=>none
 | k+1,x0,x5,x6,x7=>if x7 < x6 then (if 0≤x7 then (if x7 < (x5.length:Int) then ((spec_l6Node.f ((rd_T104 x5 x7).f0)).bind fun t140=>(if t140=true then ((spec_l6Node.f ((rd_T104 x5 x7).f1)).bind fun t141=>(if t141=true then (if ((rd_T104 x5 x7).f0)=((rd_T104 x5 x7).f1) then (some false) else ((spec_l6When.f ((rd_T104 x5 x7).f3)).bind fun t142=>(if t142=true then (if ((rd_T104 x5 x7).f2) < 0 then (some false) else (if ((rd_T104 x5 x7).f2) ≥ ((rd_T104 x5 x7).f3) then (some false) else ((spec_l1In.f ((rd_T104 x5 x7).f4) 0 100).bind fun t143=>(if t143=true then (spec_GoodPlan.l0 k x0 x5 x6 (wrap64 (x7+1))) else (some false))))) else (some false)))) else (some false))) else (some false))) else (none)) else (none)) else (some (decide ((x0.length:Int)≤20)))
def spec_GoodPlan.f (k:Nat) (l0:List (S104)):Option (Bool):=spec_GoodPlan.l0 k l0 l0 (l0.length:Int) 0
theorem spec_GoodPlan.mono_l : ∀ k,(∀ y0 y1 y2 y3,LeO (spec_GoodPlan.l0 k y0 y1 y2 y3) (spec_GoodPlan.l0 (k+1) y0 y1 y2 y3))
 | 0=>fun _ _ _ _ r h=>by simp[spec_GoodPlan.l0] at h
 | k+1=>by
  have ih0:=spec_GoodPlan.mono_l k
  ·intro y0 y1 y2 y3
   unfold spec_GoodPlan.l0
   repeat' first
   | (with_reducible exact ih0 _ _ _ _)
   | (with_reducible exact LeO.refl _)
   | (with_reducible exact LeO.none _)
   | (with_reducible refine LeO.ite ?_ ?_)
   | (with_reducible refine LeO.bind ?_ (fun _ => ?_))
   | exact ih0 _ _ _ _
   | exact LeO.none _
   | refine LeO.ite ?_ ?_
   | refine LeO.bind ?_ (fun _ => ?_)
theorem spec_GoodPlan.mono : ∀ a0 k,LeO (spec_GoodPlan.f k a0) (spec_GoodPlan.f (k+1) a0):=by
 intro a0 k
 have ih0:=spec_GoodPlan.mono_l k
 unfold spec_GoodPlan.f
 repeat' first
  | (with_reducible exact ih0 _ _ _ _)
  | (with_reducible exact LeO.refl _)
  | (with_reducible exact LeO.none _)
  | (with_reducible refine LeO.ite ?_ ?_)
  | (with_reducible refine LeO.bind ?_ (fun _ => ?_))
  | exact ih0 _ _ _ _
  | exact LeO.none _
  | refine LeO.ite ?_ ?_
  | refine LeO.bind ?_ (fun _ => ?_)
set_option maxHeartbeats 8000000 in
set_option maxRecDepth 100000 in
theorem spec_GoodPlan.calls (k:Nat) (A0:Option Addr) (c0:Nat) (l0:List (S104)) (r:Bool) (w:World) (hr0:Kd.C k104 w A0 l0.length l0) (hc0:l0.length≤c0) (h:spec_GoodPlan.f k l0=some r) :
  Calls Try.prog 84 #[.slice A0 l0.length c0] w fun e w'=>e=.returned (.bool r)∧Below w.heap.size w w':=by
 have hu104:=Try.underlying104
 have HR0:=Aside0.mk hr0
 have HC0:=Aside0.mk hc0
 clear hr0 hc0
 have HB:=Aside0.mk (Below.refl w.heap.size w)
 have H:(spec_GoodPlan.l0 k l0 l0 (l0.length:Int) 0)=some r:=h
 clear h
 have H':=Aside0.mk H
 clear H
 go_enter Try.func84,Try.ntmps84
 go_wp2
 go_loopg [7] k (fun kq v7 w' => ∃ (x7_1:Int),v7=.int .i64 x7_1∧Aside0 (spec_GoodPlan.l0 kq l0 l0 (l0.length:Int) x7_1=some r)∧Aside0 (kq≤k)∧Aside0 (Below w.heap.size w w'))
 case atStart=>exact⟨(0),(bR),H',⟨Nat.le_refl _⟩,⟨by repeat (first|(with_reducible first|exact HB.out|apply below_alloc|apply pw_below_drewN|apply below_drew1)|exact HB.out)⟩⟩
 case round =>
  clear H'
  obtain⟨x7_1,rfl,HA,HK1,HB⟩:=hrel
  cases gk with
  | zero=>exact absurd HA.out (by simp[spec_GoodPlan.l0])
  | succ k1 =>
   have H:=HA.out
   clear HA
   simp only[spec_GoodPlan.l0] at H
   by_cases c2:x7_1 < (l0.length:Int)
   ·rw[if_pos c2] at H
    have c2b0:decide (x7_1 < (l0.length:Int))=true:=decide_eq_true c2
    clear c2
    by_cases c3:0≤x7_1
    ·rw[if_pos c3] at H
     have c3b0:decide (0≤x7_1)=true:=decide_eq_true c3
     clear c3
     by_cases c4:x7_1 < (l0.length:Int)
     ·rw[if_pos c4] at H
      have c4b0:decide (x7_1 < (l0.length:Int))=true:=decide_eq_true c4
      clear c4
      replace H:=Option.bind_eq_some_iff.mp H
      obtain⟨t140,A50,H⟩:=H
      have A5:=Aside0.mk A50
      clear A50
      by_cases c6:t140=true
      ·subst c6
       have H1:((spec_l6Node.f ((rd_T104 l0 x7_1).f1)).bind fun t141=>(if t141=true then (if ((rd_T104 l0 x7_1).f0)=((rd_T104 l0 x7_1).f1) then (some false) else ((spec_l6When.f ((rd_T104 l0 x7_1).f3)).bind fun t142=>(if t142=true then (if ((rd_T104 l0 x7_1).f2) < 0 then (some false) else (if ((rd_T104 l0 x7_1).f2) ≥ ((rd_T104 l0 x7_1).f3) then (some false) else ((spec_l1In.f ((rd_T104 l0 x7_1).f4) 0 100).bind fun t143=>(if t143=true then (spec_GoodPlan.l0 k1 l0 l0 (l0.length:Int) (wrap64 (x7_1+1))) else (some false))))) else (some false)))) else (some false)))=some r:=by rw[if_pos rfl] at H;exact H
       clear H
       have H:=H1
       clear H1
       replace H:=Option.bind_eq_some_iff.mp H
       obtain⟨t141,A70,H⟩:=H
       have A7:=Aside0.mk A70
       clear A70
       by_cases c8:t141=true
       ·subst c8
        have H1:(if ((rd_T104 l0 x7_1).f0)=((rd_T104 l0 x7_1).f1) then (some false) else ((spec_l6When.f ((rd_T104 l0 x7_1).f3)).bind fun t142=>(if t142=true then (if ((rd_T104 l0 x7_1).f2) < 0 then (some false) else (if ((rd_T104 l0 x7_1).f2) ≥ ((rd_T104 l0 x7_1).f3) then (some false) else ((spec_l1In.f ((rd_T104 l0 x7_1).f4) 0 100).bind fun t143=>(if t143=true then (spec_GoodPlan.l0 k1 l0 l0 (l0.length:Int) (wrap64 (x7_1+1))) else (some false))))) else (some false))))=some r:=by rw[if_pos rfl] at H;exact H
        clear H
        have H:=H1
        clear H1
        by_cases c9:((rd_T104 l0 x7_1).f0)=((rd_T104 l0 x7_1).f1)
        ·rw[if_pos c9] at H
         have c9b0:(((rd_T104 l0 x7_1).f0) == ((rd_T104 l0 x7_1).f1))=true:=beq_iff_eq.mpr c9
         have c9b1:(((rd_T104 l0 x7_1).f0) != ((rd_T104 l0 x7_1).f1))=false:=bne_eq_false_iff_eq.mpr c9
         clear c9
         obtain rfl:=Option.some.inj H
         have p138:0≤(x7_1:Int):=of_decide_eq_true (bD)
         have q138:x7_1 < (l0.length:Int):=of_decide_eq_true (bD)
         obtain⟨ad138,e138,hx138_0,hx138_1,hx138_2,hx138_3,hx138_4⟩:=at_T104 HR0.out x7_1 p138 q138
         cases e138
         replace hx138_0:=(HB.out.cell (World.block_lt_of_cell? w _ hx138_0)).trans hx138_0
         replace hx138_1:=(HB.out.cell (World.block_lt_of_cell? w _ hx138_1)).trans hx138_1
         replace hx138_2:=(HB.out.cell (World.block_lt_of_cell? w _ hx138_2)).trans hx138_2
         replace hx138_3:=(HB.out.cell (World.block_lt_of_cell? w _ hx138_3)).trans hx138_3
         replace hx138_4:=(HB.out.cell (World.block_lt_of_cell? w _ hx138_4)).trans hx138_4
         replace p138:=eq_true p138
         replace q138:=eq_true q138
         go_wp2_with (first|((with_reducible refine gate_dst (N:=4) rfl ?_);refine box_event ?hg (N:=4) ?hd (cs:=#[.int .i64 0,.int .i64 0,.int .i64 0,.int .i64 0,.int .i64 0]) (t:=104) ?hr ?_;(case hd=>rfl);(case hg=>rfl);(case hr=>first|(go_simp;done)|(go_simp;rfl));intro gb139 hg w10 hbox hb;have n0_:=Aside0.mk (below_step (bB) hb);have n1_:=Aside0.mk (hbox);have n2_:=Aside0.mk ((bG:w.heap.size≤gb139));have n3_:=Aside0.mk ((bG:w.heap.size≤gb139));clear HB;have HB:=n0_;have BK139:=n1_;have GW139:=n2_;have GE139:=n3_;clear n0_ n1_ n2_ n3_;clear hb hbox hg;have hcz11_0:w10.cell? ⟨gb139,0,none⟩=some (.int .i64 0):=(blk_cell BK139.out 0).trans rfl;have hcz11_1:w10.cell? ⟨gb139,1,none⟩=some (.int .i64 0):=(blk_cell BK139.out 1).trans rfl;have hcz11_2:w10.cell? ⟨gb139,2,none⟩=some (.int .i64 0):=(blk_cell BK139.out 2).trans rfl;have hcz11_3:w10.cell? ⟨gb139,3,none⟩=some (.int .i64 0):=(blk_cell BK139.out 3).trans rfl;have hcz11_4:w10.cell? ⟨gb139,4,none⟩=some (.int .i64 0):=(blk_cell BK139.out 4).trans rfl;have hfz11_0:=blk_frozen BK139.out 0;have hfz11_1:=blk_frozen BK139.out 1;have hfz11_2:=blk_frozen BK139.out 2;have hfz11_3:=blk_frozen BK139.out 3;have hfz11_4:=blk_frozen BK139.out 4)|((with_reducible refine gate_callee (f:=85) rfl ?_);refine goesA (some 13) rfl rfl Try.func85 #[.int .i64 ((rd_T104 l0 x7_1).f0)] rfl ?_;(with_reducible refine(spec_l6Node.calls ((rd_T104 l0 x7_1).f0) true _ A5.out).mono ?_);rintro e w' ⟨rfl,⟨nd,rfl⟩⟩;refine⟨_,rfl,?_⟩)|(go_at_call 85;(with_reducible refine(spec_l6Node.calls ((rd_T104 l0 x7_1).f1) true _ A7.out).mono ?_);rintro e w' ⟨rfl,⟨nd,rfl⟩⟩))
         go_ret
         exact⟨bE,bS GE139.out⟩
        ·rw[if_neg c9] at H
         have c9b0:(((rd_T104 l0 x7_1).f0) == ((rd_T104 l0 x7_1).f1))=false:=beq_eq_false_iff_ne.mpr c9
         have c9b1:(((rd_T104 l0 x7_1).f0) != ((rd_T104 l0 x7_1).f1))=true:=bne_iff_ne.mpr c9
         replace H:=Option.bind_eq_some_iff.mp H
         obtain⟨t142,A120,H⟩:=H
         have A12:=Aside0.mk A120
         clear A120
         by_cases c13:t142=true
         ·subst c13
          have H1:(if ((rd_T104 l0 x7_1).f2) < 0 then (some false) else (if ((rd_T104 l0 x7_1).f2) ≥ ((rd_T104 l0 x7_1).f3) then (some false) else ((spec_l1In.f ((rd_T104 l0 x7_1).f4) 0 100).bind fun t143=>(if t143=true then (spec_GoodPlan.l0 k1 l0 l0 (l0.length:Int) (wrap64 (x7_1+1))) else (some false)))))=some r:=by rw[if_pos rfl] at H;exact H
          clear H
          have H:=H1
          clear H1
          by_cases c14:((rd_T104 l0 x7_1).f2) < 0
          ·rw[if_pos c14] at H
           have c14b0:decide (((rd_T104 l0 x7_1).f2) < 0)=true:=decide_eq_true c14
           clear c14
           obtain rfl:=Option.some.inj H
           have p138:0≤(x7_1:Int):=of_decide_eq_true (bD)
           have q138:x7_1 < (l0.length:Int):=of_decide_eq_true (bD)
           obtain⟨ad138,e138,hx138_0,hx138_1,hx138_2,hx138_3,hx138_4⟩:=at_T104 HR0.out x7_1 p138 q138
           cases e138
           replace hx138_0:=(HB.out.cell (World.block_lt_of_cell? w _ hx138_0)).trans hx138_0
           replace hx138_1:=(HB.out.cell (World.block_lt_of_cell? w _ hx138_1)).trans hx138_1
           replace hx138_2:=(HB.out.cell (World.block_lt_of_cell? w _ hx138_2)).trans hx138_2
           replace hx138_3:=(HB.out.cell (World.block_lt_of_cell? w _ hx138_3)).trans hx138_3
           replace hx138_4:=(HB.out.cell (World.block_lt_of_cell? w _ hx138_4)).trans hx138_4
           replace p138:=eq_true p138
           replace q138:=eq_true q138
           go_wp2_with (first|((with_reducible refine gate_dst (N:=4) rfl ?_);refine box_event ?hg (N:=4) ?hd (cs:=#[.int .i64 0,.int .i64 0,.int .i64 0,.int .i64 0,.int .i64 0]) (t:=104) ?hr ?_;(case hd=>rfl);(case hg=>rfl);(case hr=>first|(go_simp;done)|(go_simp;rfl));intro gb139 hg w15 hbox hb;have n0_:=Aside0.mk (below_step (bB) hb);have n1_:=Aside0.mk (hbox);have n2_:=Aside0.mk ((bG:w.heap.size≤gb139));have n3_:=Aside0.mk ((bG:w.heap.size≤gb139));clear HB;have HB:=n0_;have BK139:=n1_;have GW139:=n2_;have GE139:=n3_;clear n0_ n1_ n2_ n3_;clear hb hbox hg;have hcz16_0:w15.cell? ⟨gb139,0,none⟩=some (.int .i64 0):=(blk_cell BK139.out 0).trans rfl;have hcz16_1:w15.cell? ⟨gb139,1,none⟩=some (.int .i64 0):=(blk_cell BK139.out 1).trans rfl;have hcz16_2:w15.cell? ⟨gb139,2,none⟩=some (.int .i64 0):=(blk_cell BK139.out 2).trans rfl;have hcz16_3:w15.cell? ⟨gb139,3,none⟩=some (.int .i64 0):=(blk_cell BK139.out 3).trans rfl;have hcz16_4:w15.cell? ⟨gb139,4,none⟩=some (.int .i64 0):=(blk_cell BK139.out 4).trans rfl;have hfz16_0:=blk_frozen BK139.out 0;have hfz16_1:=blk_frozen BK139.out 1;have hfz16_2:=blk_frozen BK139.out 2;have hfz16_3:=blk_frozen BK139.out 3;have hfz16_4:=blk_frozen BK139.out 4)|((with_reducible refine gate_callee (f:=85) rfl ?_);refine goesA (some 13) rfl rfl Try.func85 #[.int .i64 ((rd_T104 l0 x7_1).f0)] rfl ?_;(with_reducible refine(spec_l6Node.calls ((rd_T104 l0 x7_1).f0) true _ A5.out).mono ?_);rintro e w' ⟨rfl,⟨nd,rfl⟩⟩;refine⟨_,rfl,?_⟩)|(go_at_call 85;(with_reducible refine(spec_l6Node.calls ((rd_T104 l0 x7_1).f1) true _ A7.out).mono ?_);rintro e w' ⟨rfl,⟨nd,rfl⟩⟩)|(go_at_call 86;(with_reducible refine(spec_l6When.calls ((rd_T104 l0 x7_1).f3) true _ A12.out).mono ?_);rintro e w' ⟨rfl,⟨nd,rfl⟩⟩))
           go_ret
           exact⟨bE,bS GE139.out⟩
          ·rw[if_neg c14] at H
           have c14b0:decide (((rd_T104 l0 x7_1).f2) < 0)=false:=decide_eq_false c14
           clear c14
           by_cases c17:((rd_T104 l0 x7_1).f2) ≥ ((rd_T104 l0 x7_1).f3)
           ·rw[if_pos c17] at H
            have c17b0:decide (((rd_T104 l0 x7_1).f3)≤((rd_T104 l0 x7_1).f2))=true:=decide_eq_true c17
            clear c17
            obtain rfl:=Option.some.inj H
            have p138:0≤(x7_1:Int):=of_decide_eq_true (bD)
            have q138:x7_1 < (l0.length:Int):=of_decide_eq_true (bD)
            obtain⟨ad138,e138,hx138_0,hx138_1,hx138_2,hx138_3,hx138_4⟩:=at_T104 HR0.out x7_1 p138 q138
            cases e138
            replace hx138_0:=(HB.out.cell (World.block_lt_of_cell? w _ hx138_0)).trans hx138_0
            replace hx138_1:=(HB.out.cell (World.block_lt_of_cell? w _ hx138_1)).trans hx138_1
            replace hx138_2:=(HB.out.cell (World.block_lt_of_cell? w _ hx138_2)).trans hx138_2
            replace hx138_3:=(HB.out.cell (World.block_lt_of_cell? w _ hx138_3)).trans hx138_3
            replace hx138_4:=(HB.out.cell (World.block_lt_of_cell? w _ hx138_4)).trans hx138_4
            replace p138:=eq_true p138
            replace q138:=eq_true q138
            go_wp2_with (first|((with_reducible refine gate_dst (N:=4) rfl ?_);refine box_event ?hg (N:=4) ?hd (cs:=#[.int .i64 0,.int .i64 0,.int .i64 0,.int .i64 0,.int .i64 0]) (t:=104) ?hr ?_;(case hd=>rfl);(case hg=>rfl);(case hr=>first|(go_simp;done)|(go_simp;rfl));intro gb139 hg w18 hbox hb;have n0_:=Aside0.mk (below_step (bB) hb);have n1_:=Aside0.mk (hbox);have n2_:=Aside0.mk ((bG:w.heap.size≤gb139));have n3_:=Aside0.mk ((bG:w.heap.size≤gb139));clear HB;have HB:=n0_;have BK139:=n1_;have GW139:=n2_;have GE139:=n3_;clear n0_ n1_ n2_ n3_;clear hb hbox hg;have hcz19_0:w18.cell? ⟨gb139,0,none⟩=some (.int .i64 0):=(blk_cell BK139.out 0).trans rfl;have hcz19_1:w18.cell? ⟨gb139,1,none⟩=some (.int .i64 0):=(blk_cell BK139.out 1).trans rfl;have hcz19_2:w18.cell? ⟨gb139,2,none⟩=some (.int .i64 0):=(blk_cell BK139.out 2).trans rfl;have hcz19_3:w18.cell? ⟨gb139,3,none⟩=some (.int .i64 0):=(blk_cell BK139.out 3).trans rfl;have hcz19_4:w18.cell? ⟨gb139,4,none⟩=some (.int .i64 0):=(blk_cell BK139.out 4).trans rfl;have hfz19_0:=blk_frozen BK139.out 0;have hfz19_1:=blk_frozen BK139.out 1;have hfz19_2:=blk_frozen BK139.out 2;have hfz19_3:=blk_frozen BK139.out 3;have hfz19_4:=blk_frozen BK139.out 4)|((with_reducible refine gate_callee (f:=85) rfl ?_);refine goesA (some 13) rfl rfl Try.func85 #[.int .i64 ((rd_T104 l0 x7_1).f0)] rfl ?_;(with_reducible refine(spec_l6Node.calls ((rd_T104 l0 x7_1).f0) true _ A5.out).mono ?_);rintro e w' ⟨rfl,⟨nd,rfl⟩⟩;refine⟨_,rfl,?_⟩)|(go_at_call 85;(with_reducible refine(spec_l6Node.calls ((rd_T104 l0 x7_1).f1) true _ A7.out).mono ?_);rintro e w' ⟨rfl,⟨nd,rfl⟩⟩)|(go_at_call 86;(with_reducible refine(spec_l6When.calls ((rd_T104 l0 x7_1).f3) true _ A12.out).mono ?_);rintro e w' ⟨rfl,⟨nd,rfl⟩⟩))
            go_ret
            exact⟨bE,bS GE139.out⟩
           ·rw[if_neg c17] at H
            have c17b0:decide (((rd_T104 l0 x7_1).f3)≤((rd_T104 l0 x7_1).f2))=false:=decide_eq_false c17
            clear c17
            replace H:=Option.bind_eq_some_iff.mp H
            obtain⟨t143,A200,H⟩:=H
            have A20:=Aside0.mk A200
            clear A200
            by_cases c21:t143=true
            ·subst c21
             have H1:(spec_GoodPlan.l0 k1 l0 l0 (l0.length:Int) (wrap64 (x7_1+1)))=some r:=by rw[if_pos rfl] at H;exact H
             clear H
             have H:=H1
             clear H1
             have H':=Aside0.mk H
             clear H
             have p138:0≤(x7_1:Int):=of_decide_eq_true (bD)
             have q138:x7_1 < (l0.length:Int):=of_decide_eq_true (bD)
             obtain⟨ad138,e138,hx138_0,hx138_1,hx138_2,hx138_3,hx138_4⟩:=at_T104 HR0.out x7_1 p138 q138
             cases e138
             replace hx138_0:=(HB.out.cell (World.block_lt_of_cell? w _ hx138_0)).trans hx138_0
             replace hx138_1:=(HB.out.cell (World.block_lt_of_cell? w _ hx138_1)).trans hx138_1
             replace hx138_2:=(HB.out.cell (World.block_lt_of_cell? w _ hx138_2)).trans hx138_2
             replace hx138_3:=(HB.out.cell (World.block_lt_of_cell? w _ hx138_3)).trans hx138_3
             replace hx138_4:=(HB.out.cell (World.block_lt_of_cell? w _ hx138_4)).trans hx138_4
             replace p138:=eq_true p138
             replace q138:=eq_true q138
             go_wp2_with (first|((with_reducible refine gate_dst (N:=4) rfl ?_);refine box_event ?hg (N:=4) ?hd (cs:=#[.int .i64 0,.int .i64 0,.int .i64 0,.int .i64 0,.int .i64 0]) (t:=104) ?hr ?_;(case hd=>rfl);(case hg=>rfl);(case hr=>first|(go_simp;done)|(go_simp;rfl));intro gb139 hg w22 hbox hb;have n0_:=Aside0.mk (below_step (bB) hb);have n1_:=Aside0.mk (hbox);have n2_:=Aside0.mk ((bG:w.heap.size≤gb139));have n3_:=Aside0.mk ((bG:w.heap.size≤gb139));clear HB;have HB:=n0_;have BK139:=n1_;have GW139:=n2_;have GE139:=n3_;clear n0_ n1_ n2_ n3_;clear hb hbox hg;have hcz23_0:w22.cell? ⟨gb139,0,none⟩=some (.int .i64 0):=(blk_cell BK139.out 0).trans rfl;have hcz23_1:w22.cell? ⟨gb139,1,none⟩=some (.int .i64 0):=(blk_cell BK139.out 1).trans rfl;have hcz23_2:w22.cell? ⟨gb139,2,none⟩=some (.int .i64 0):=(blk_cell BK139.out 2).trans rfl;have hcz23_3:w22.cell? ⟨gb139,3,none⟩=some (.int .i64 0):=(blk_cell BK139.out 3).trans rfl;have hcz23_4:w22.cell? ⟨gb139,4,none⟩=some (.int .i64 0):=(blk_cell BK139.out 4).trans rfl;have hfz23_0:=blk_frozen BK139.out 0;have hfz23_1:=blk_frozen BK139.out 1;have hfz23_2:=blk_frozen BK139.out 2;have hfz23_3:=blk_frozen BK139.out 3;have hfz23_4:=blk_frozen BK139.out 4)|((with_reducible refine gate_callee (f:=85) rfl ?_);refine goesA (some 13) rfl rfl Try.func85 #[.int .i64 ((rd_T104 l0 x7_1).f0)] rfl ?_;(with_reducible refine(spec_l6Node.calls ((rd_T104 l0 x7_1).f0) true _ A5.out).mono ?_);rintro e w' ⟨rfl,⟨nd,rfl⟩⟩;refine⟨_,rfl,?_⟩)|(go_at_call 85;(with_reducible refine(spec_l6Node.calls ((rd_T104 l0 x7_1).f1) true _ A7.out).mono ?_);rintro e w' ⟨rfl,⟨nd,rfl⟩⟩)|(go_at_call 86;(with_reducible refine(spec_l6When.calls ((rd_T104 l0 x7_1).f3) true _ A12.out).mono ?_);rintro e w' ⟨rfl,⟨nd,rfl⟩⟩)|(go_at_call 75;(with_reducible refine(spec_l1In.calls ((rd_T104 l0 x7_1).f4) 0 100 true _ A20.out).mono ?_);rintro e w' ⟨rfl,⟨nd,rfl⟩⟩))
             go_roundg k1
             case measure=>have:=HK1.out;omega
             case rel=>exact⟨(wrap64 (x7_1+1)),(bR),H',⟨by have:=HK1.out;omega⟩,⟨bS GE139.out⟩⟩
            ·replace c21:=Bool.eq_false_iff.mpr c21
             subst c21
             have H1:(some false)=some r:=by rw[if_neg (show ¬ (false=true) by decide)] at H;exact H
             clear H
             have H:=H1
             clear H1
             obtain rfl:=Option.some.inj H
             have p138:0≤(x7_1:Int):=of_decide_eq_true (bD)
             have q138:x7_1 < (l0.length:Int):=of_decide_eq_true (bD)
             obtain⟨ad138,e138,hx138_0,hx138_1,hx138_2,hx138_3,hx138_4⟩:=at_T104 HR0.out x7_1 p138 q138
             cases e138
             replace hx138_0:=(HB.out.cell (World.block_lt_of_cell? w _ hx138_0)).trans hx138_0
             replace hx138_1:=(HB.out.cell (World.block_lt_of_cell? w _ hx138_1)).trans hx138_1
             replace hx138_2:=(HB.out.cell (World.block_lt_of_cell? w _ hx138_2)).trans hx138_2
             replace hx138_3:=(HB.out.cell (World.block_lt_of_cell? w _ hx138_3)).trans hx138_3
             replace hx138_4:=(HB.out.cell (World.block_lt_of_cell? w _ hx138_4)).trans hx138_4
             replace p138:=eq_true p138
             replace q138:=eq_true q138
             go_wp2_with (first|((with_reducible refine gate_dst (N:=4) rfl ?_);refine box_event ?hg (N:=4) ?hd (cs:=#[.int .i64 0,.int .i64 0,.int .i64 0,.int .i64 0,.int .i64 0]) (t:=104) ?hr ?_;(case hd=>rfl);(case hg=>rfl);(case hr=>first|(go_simp;done)|(go_simp;rfl));intro gb139 hg w24 hbox hb;have n0_:=Aside0.mk (below_step (bB) hb);have n1_:=Aside0.mk (hbox);have n2_:=Aside0.mk ((bG:w.heap.size≤gb139));have n3_:=Aside0.mk ((bG:w.heap.size≤gb139));clear HB;have HB:=n0_;have BK139:=n1_;have GW139:=n2_;have GE139:=n3_;clear n0_ n1_ n2_ n3_;clear hb hbox hg;have hcz25_0:w24.cell? ⟨gb139,0,none⟩=some (.int .i64 0):=(blk_cell BK139.out 0).trans rfl;have hcz25_1:w24.cell? ⟨gb139,1,none⟩=some (.int .i64 0):=(blk_cell BK139.out 1).trans rfl;have hcz25_2:w24.cell? ⟨gb139,2,none⟩=some (.int .i64 0):=(blk_cell BK139.out 2).trans rfl;have hcz25_3:w24.cell? ⟨gb139,3,none⟩=some (.int .i64 0):=(blk_cell BK139.out 3).trans rfl;have hcz25_4:w24.cell? ⟨gb139,4,none⟩=some (.int .i64 0):=(blk_cell BK139.out 4).trans rfl;have hfz25_0:=blk_frozen BK139.out 0;have hfz25_1:=blk_frozen BK139.out 1;have hfz25_2:=blk_frozen BK139.out 2;have hfz25_3:=blk_frozen BK139.out 3;have hfz25_4:=blk_frozen BK139.out 4)|((with_reducible refine gate_callee (f:=85) rfl ?_);refine goesA (some 13) rfl rfl Try.func85 #[.int .i64 ((rd_T104 l0 x7_1).f0)] rfl ?_;(with_reducible refine(spec_l6Node.calls ((rd_T104 l0 x7_1).f0) true _ A5.out).mono ?_);rintro e w' ⟨rfl,⟨nd,rfl⟩⟩;refine⟨_,rfl,?_⟩)|(go_at_call 85;(with_reducible refine(spec_l6Node.calls ((rd_T104 l0 x7_1).f1) true _ A7.out).mono ?_);rintro e w' ⟨rfl,⟨nd,rfl⟩⟩)|(go_at_call 86;(with_reducible refine(spec_l6When.calls ((rd_T104 l0 x7_1).f3) true _ A12.out).mono ?_);rintro e w' ⟨rfl,⟨nd,rfl⟩⟩)|(go_at_call 75;(with_reducible refine(spec_l1In.calls ((rd_T104 l0 x7_1).f4) 0 100 false _ A20.out).mono ?_);rintro e w' ⟨rfl,⟨nd,rfl⟩⟩))
             go_ret
             exact⟨bE,bS GE139.out⟩
         ·replace c13:=Bool.eq_false_iff.mpr c13
          subst c13
          have H1:(some false)=some r:=by rw[if_neg (show ¬ (false=true) by decide)] at H;exact H
          clear H
          have H:=H1
          clear H1
          obtain rfl:=Option.some.inj H
          have p138:0≤(x7_1:Int):=of_decide_eq_true (bD)
          have q138:x7_1 < (l0.length:Int):=of_decide_eq_true (bD)
          obtain⟨ad138,e138,hx138_0,hx138_1,hx138_2,hx138_3,hx138_4⟩:=at_T104 HR0.out x7_1 p138 q138
          cases e138
          replace hx138_0:=(HB.out.cell (World.block_lt_of_cell? w _ hx138_0)).trans hx138_0
          replace hx138_1:=(HB.out.cell (World.block_lt_of_cell? w _ hx138_1)).trans hx138_1
          replace hx138_2:=(HB.out.cell (World.block_lt_of_cell? w _ hx138_2)).trans hx138_2
          replace hx138_3:=(HB.out.cell (World.block_lt_of_cell? w _ hx138_3)).trans hx138_3
          replace hx138_4:=(HB.out.cell (World.block_lt_of_cell? w _ hx138_4)).trans hx138_4
          replace p138:=eq_true p138
          replace q138:=eq_true q138
          go_wp2_with (first|((with_reducible refine gate_dst (N:=4) rfl ?_);refine box_event ?hg (N:=4) ?hd (cs:=#[.int .i64 0,.int .i64 0,.int .i64 0,.int .i64 0,.int .i64 0]) (t:=104) ?hr ?_;(case hd=>rfl);(case hg=>rfl);(case hr=>first|(go_simp;done)|(go_simp;rfl));intro gb139 hg w26 hbox hb;have n0_:=Aside0.mk (below_step (bB) hb);have n1_:=Aside0.mk (hbox);have n2_:=Aside0.mk ((bG:w.heap.size≤gb139));have n3_:=Aside0.mk ((bG:w.heap.size≤gb139));clear HB;have HB:=n0_;have BK139:=n1_;have GW139:=n2_;have GE139:=n3_;clear n0_ n1_ n2_ n3_;clear hb hbox hg;have hcz27_0:w26.cell? ⟨gb139,0,none⟩=some (.int .i64 0):=(blk_cell BK139.out 0).trans rfl;have hcz27_1:w26.cell? ⟨gb139,1,none⟩=some (.int .i64 0):=(blk_cell BK139.out 1).trans rfl;have hcz27_2:w26.cell? ⟨gb139,2,none⟩=some (.int .i64 0):=(blk_cell BK139.out 2).trans rfl;have hcz27_3:w26.cell? ⟨gb139,3,none⟩=some (.int .i64 0):=(blk_cell BK139.out 3).trans rfl;have hcz27_4:w26.cell? ⟨gb139,4,none⟩=some (.int .i64 0):=(blk_cell BK139.out 4).trans rfl;have hfz27_0:=blk_frozen BK139.out 0;have hfz27_1:=blk_frozen BK139.out 1;have hfz27_2:=blk_frozen BK139.out 2;have hfz27_3:=blk_frozen BK139.out 3;have hfz27_4:=blk_frozen BK139.out 4)|((with_reducible refine gate_callee (f:=85) rfl ?_);refine goesA (some 13) rfl rfl Try.func85 #[.int .i64 ((rd_T104 l0 x7_1).f0)] rfl ?_;(with_reducible refine(spec_l6Node.calls ((rd_T104 l0 x7_1).f0) true _ A5.out).mono ?_);rintro e w' ⟨rfl,⟨nd,rfl⟩⟩;refine⟨_,rfl,?_⟩)|(go_at_call 85;(with_reducible refine(spec_l6Node.calls ((rd_T104 l0 x7_1).f1) true _ A7.out).mono ?_);rintro e w' ⟨rfl,⟨nd,rfl⟩⟩)|(go_at_call 86;(with_reducible refine(spec_l6When.calls ((rd_T104 l0 x7_1).f3) false _ A12.out).mono ?_);rintro e w' ⟨rfl,⟨nd,rfl⟩⟩))
          go_ret
          exact⟨bE,bS GE139.out⟩
       ·replace c8:=Bool.eq_false_iff.mpr c8
        subst c8
        have H1:(some false)=some r:=by rw[if_neg (show ¬ (false=true) by decide)] at H;exact H
        clear H
        have H:=H1
        clear H1
        obtain rfl:=Option.some.inj H
        have p138:0≤(x7_1:Int):=of_decide_eq_true (bD)
        have q138:x7_1 < (l0.length:Int):=of_decide_eq_true (bD)
        obtain⟨ad138,e138,hx138_0,hx138_1,hx138_2,hx138_3,hx138_4⟩:=at_T104 HR0.out x7_1 p138 q138
        cases e138
        replace hx138_0:=(HB.out.cell (World.block_lt_of_cell? w _ hx138_0)).trans hx138_0
        replace hx138_1:=(HB.out.cell (World.block_lt_of_cell? w _ hx138_1)).trans hx138_1
        replace hx138_2:=(HB.out.cell (World.block_lt_of_cell? w _ hx138_2)).trans hx138_2
        replace hx138_3:=(HB.out.cell (World.block_lt_of_cell? w _ hx138_3)).trans hx138_3
        replace hx138_4:=(HB.out.cell (World.block_lt_of_cell? w _ hx138_4)).trans hx138_4
        replace p138:=eq_true p138
        replace q138:=eq_true q138
        go_wp2_with (first|((with_reducible refine gate_dst (N:=4) rfl ?_);refine box_event ?hg (N:=4) ?hd (cs:=#[.int .i64 0,.int .i64 0,.int .i64 0,.int .i64 0,.int .i64 0]) (t:=104) ?hr ?_;(case hd=>rfl);(case hg=>rfl);(case hr=>first|(go_simp;done)|(go_simp;rfl));intro gb139 hg w28 hbox hb;have n0_:=Aside0.mk (below_step (bB) hb);have n1_:=Aside0.mk (hbox);have n2_:=Aside0.mk ((bG:w.heap.size≤gb139));have n3_:=Aside0.mk ((bG:w.heap.size≤gb139));clear HB;have HB:=n0_;have BK139:=n1_;have GW139:=n2_;have GE139:=n3_;clear n0_ n1_ n2_ n3_;clear hb hbox hg;have hcz29_0:w28.cell? ⟨gb139,0,none⟩=some (.int .i64 0):=(blk_cell BK139.out 0).trans rfl;have hcz29_1:w28.cell? ⟨gb139,1,none⟩=some (.int .i64 0):=(blk_cell BK139.out 1).trans rfl;have hcz29_2:w28.cell? ⟨gb139,2,none⟩=some (.int .i64 0):=(blk_cell BK139.out 2).trans rfl;have hcz29_3:w28.cell? ⟨gb139,3,none⟩=some (.int .i64 0):=(blk_cell BK139.out 3).trans rfl;have hcz29_4:w28.cell? ⟨gb139,4,none⟩=some (.int .i64 0):=(blk_cell BK139.out 4).trans rfl;have hfz29_0:=blk_frozen BK139.out 0;have hfz29_1:=blk_frozen BK139.out 1;have hfz29_2:=blk_frozen BK139.out 2;have hfz29_3:=blk_frozen BK139.out 3;have hfz29_4:=blk_frozen BK139.out 4)|((with_reducible refine gate_callee (f:=85) rfl ?_);refine goesA (some 13) rfl rfl Try.func85 #[.int .i64 ((rd_T104 l0 x7_1).f0)] rfl ?_;(with_reducible refine(spec_l6Node.calls ((rd_T104 l0 x7_1).f0) true _ A5.out).mono ?_);rintro e w' ⟨rfl,⟨nd,rfl⟩⟩;refine⟨_,rfl,?_⟩)|(go_at_call 85;(with_reducible refine(spec_l6Node.calls ((rd_T104 l0 x7_1).f1) false _ A7.out).mono ?_);rintro e w' ⟨rfl,⟨nd,rfl⟩⟩))
        go_ret
        exact⟨bE,bS GE139.out⟩
      ·replace c6:=Bool.eq_false_iff.mpr c6
       subst c6
       have H1:(some false)=some r:=by rw[if_neg (show ¬ (false=true) by decide)] at H;exact H
       clear H
       have H:=H1
       clear H1
       obtain rfl:=Option.some.inj H
       have p138:0≤(x7_1:Int):=of_decide_eq_true (bD)
       have q138:x7_1 < (l0.length:Int):=of_decide_eq_true (bD)
       obtain⟨ad138,e138,hx138_0,hx138_1,hx138_2,hx138_3,hx138_4⟩:=at_T104 HR0.out x7_1 p138 q138
       cases e138
       replace hx138_0:=(HB.out.cell (World.block_lt_of_cell? w _ hx138_0)).trans hx138_0
       replace hx138_1:=(HB.out.cell (World.block_lt_of_cell? w _ hx138_1)).trans hx138_1
       replace hx138_2:=(HB.out.cell (World.block_lt_of_cell? w _ hx138_2)).trans hx138_2
       replace hx138_3:=(HB.out.cell (World.block_lt_of_cell? w _ hx138_3)).trans hx138_3
       replace hx138_4:=(HB.out.cell (World.block_lt_of_cell? w _ hx138_4)).trans hx138_4
       replace p138:=eq_true p138
       replace q138:=eq_true q138
       go_wp2_with (first|((with_reducible refine gate_dst (N:=4) rfl ?_);refine box_event ?hg (N:=4) ?hd (cs:=#[.int .i64 0,.int .i64 0,.int .i64 0,.int .i64 0,.int .i64 0]) (t:=104) ?hr ?_;(case hd=>rfl);(case hg=>rfl);(case hr=>first|(go_simp;done)|(go_simp;rfl));intro gb139 hg w30 hbox hb;have n0_:=Aside0.mk (below_step (bB) hb);have n1_:=Aside0.mk (hbox);have n2_:=Aside0.mk ((bG:w.heap.size≤gb139));have n3_:=Aside0.mk ((bG:w.heap.size≤gb139));clear HB;have HB:=n0_;have BK139:=n1_;have GW139:=n2_;have GE139:=n3_;clear n0_ n1_ n2_ n3_;clear hb hbox hg;have hcz31_0:w30.cell? ⟨gb139,0,none⟩=some (.int .i64 0):=(blk_cell BK139.out 0).trans rfl;have hcz31_1:w30.cell? ⟨gb139,1,none⟩=some (.int .i64 0):=(blk_cell BK139.out 1).trans rfl;have hcz31_2:w30.cell? ⟨gb139,2,none⟩=some (.int .i64 0):=(blk_cell BK139.out 2).trans rfl;have hcz31_3:w30.cell? ⟨gb139,3,none⟩=some (.int .i64 0):=(blk_cell BK139.out 3).trans rfl;have hcz31_4:w30.cell? ⟨gb139,4,none⟩=some (.int .i64 0):=(blk_cell BK139.out 4).trans rfl;have hfz31_0:=blk_frozen BK139.out 0;have hfz31_1:=blk_frozen BK139.out 1;have hfz31_2:=blk_frozen BK139.out 2;have hfz31_3:=blk_frozen BK139.out 3;have hfz31_4:=blk_frozen BK139.out 4)|((with_reducible refine gate_callee (f:=85) rfl ?_);refine goesA (some 13) rfl rfl Try.func85 #[.int .i64 ((rd_T104 l0 x7_1).f0)] rfl ?_;(with_reducible refine(spec_l6Node.calls ((rd_T104 l0 x7_1).f0) false _ A5.out).mono ?_);rintro e w' ⟨rfl,⟨nd,rfl⟩⟩;refine⟨_,rfl,?_⟩))
       go_ret
       exact⟨bE,bS GE139.out⟩
     ·rw[if_neg c4] at H
      exact absurd H (by simp)
    ·rw[if_neg c3] at H
     exact absurd H (by simp)
   ·rw[if_neg c2] at H
    have c2b0:decide (x7_1 < (l0.length:Int))=false:=decide_eq_false c2
    clear c2
    obtain rfl:=Option.some.inj H
    go_wp2
    go_ret
    exact⟨bE,bB⟩

/-! ### spec_GoodBundle: function 157 -/
def spec_GoodBundle.f (a0_0:Int) (a0_1:Int) (a0_2:Bool) (a0_3:Int) (a0_4:Int) (a0_5:Int) (a0_6:Int) (a0_7:Int) (a0_8:Int) (a0_9:ByteArray):Option (Bool):=(spec_l1In.f a0_0 0 40).bind fun t145=>(if t145=true then ((spec_l1In.f a0_1 0 40).bind fun t146=>(if t146=true then ((spec_l1In.f a0_3 0 1000000).bind fun t147=>(if t147=true then ((spec_l1In.f a0_4 0 1000).bind fun t148=>(if t148=true then ((spec_l1In.f a0_5 1 1000000).bind fun t149=>(if t149=true then ((spec_l1In.f a0_6 0 30).bind fun t150=>(if t150=true then (if (a0_9.size:Int) > 60 then (some false) else ((spec_l1In.f a0_8 0 60).bind fun t151=>(if t151=true then ((spec_l1In.f a0_7 0 a0_8).bind fun t152=>(if t152=true then (if a0_8=0 then (some true) else (if (a0_9.size:Int) > 0 then (some (decide ((wrap64 (a0_7+(a0_9.size:Int)))≤a0_8))) else (some false))) else (some false))) else (some false)))) else (some false))) else (some false))) else (some false))) else (some false))) else (some false))) else (some false))
set_option maxHeartbeats 8000000 in
set_option maxRecDepth 100000 in
theorem spec_GoodBundle.calls (a0_0:Int) (a0_1:Int) (a0_2:Bool) (a0_3:Int) (a0_4:Int) (a0_5:Int) (a0_6:Int) (a0_7:Int) (a0_8:Int) (a0_9:ByteArray) (r:Bool) (w:World) (h:spec_GoodBundle.f a0_0 a0_1 a0_2 a0_3 a0_4 a0_5 a0_6 a0_7 a0_8 a0_9=some r) :
  Calls Try.prog 157 #[.agg #[.int .i64 a0_0,.int .i64 a0_1,.bool a0_2,.int .i64 a0_3,.int .i64 a0_4,.int .i64 a0_5,.int .i64 a0_6,.int .i64 a0_7,.int .i64 a0_8,.string a0_9]] w fun e w'=>e=.returned (.bool r)∧Below w.heap.size w w':=by
 have hu86:=Try.underlying86
 have HB:=Aside0.mk (Below.refl w.heap.size w)
 have H:((spec_l1In.f a0_0 0 40).bind fun t145=>(if t145=true then ((spec_l1In.f a0_1 0 40).bind fun t146=>(if t146=true then ((spec_l1In.f a0_3 0 1000000).bind fun t147=>(if t147=true then ((spec_l1In.f a0_4 0 1000).bind fun t148=>(if t148=true then ((spec_l1In.f a0_5 1 1000000).bind fun t149=>(if t149=true then ((spec_l1In.f a0_6 0 30).bind fun t150=>(if t150=true then (if (a0_9.size:Int) > 60 then (some false) else ((spec_l1In.f a0_8 0 60).bind fun t151=>(if t151=true then ((spec_l1In.f a0_7 0 a0_8).bind fun t152=>(if t152=true then (if a0_8=0 then (some true) else (if (a0_9.size:Int) > 0 then (some (decide ((wrap64 (a0_7+(a0_9.size:Int)))≤a0_8))) else (some false))) else (some false))) else (some false)))) else (some false))) else (some false))) else (some false))) else (some false))) else (some false))) else (some false)))=some r:=h
 clear h
 replace H:=Option.bind_eq_some_iff.mp H
 obtain⟨t145,A20,H⟩:=H
 have A2:=Aside0.mk A20
 clear A20
 by_cases c3:t145=true
 ·subst c3
  have H1:((spec_l1In.f a0_1 0 40).bind fun t146=>(if t146=true then ((spec_l1In.f a0_3 0 1000000).bind fun t147=>(if t147=true then ((spec_l1In.f a0_4 0 1000).bind fun t148=>(if t148=true then ((spec_l1In.f a0_5 1 1000000).bind fun t149=>(if t149=true then ((spec_l1In.f a0_6 0 30).bind fun t150=>(if t150=true then (if (a0_9.size:Int) > 60 then (some false) else ((spec_l1In.f a0_8 0 60).bind fun t151=>(if t151=true then ((spec_l1In.f a0_7 0 a0_8).bind fun t152=>(if t152=true then (if a0_8=0 then (some true) else (if (a0_9.size:Int) > 0 then (some (decide ((wrap64 (a0_7+(a0_9.size:Int)))≤a0_8))) else (some false))) else (some false))) else (some false)))) else (some false))) else (some false))) else (some false))) else (some false))) else (some false)))=some r:=by rw[if_pos rfl] at H;exact H
  clear H
  have H:=H1
  clear H1
  replace H:=Option.bind_eq_some_iff.mp H
  obtain⟨t146,A40,H⟩:=H
  have A4:=Aside0.mk A40
  clear A40
  by_cases c5:t146=true
  ·subst c5
   have H1:((spec_l1In.f a0_3 0 1000000).bind fun t147=>(if t147=true then ((spec_l1In.f a0_4 0 1000).bind fun t148=>(if t148=true then ((spec_l1In.f a0_5 1 1000000).bind fun t149=>(if t149=true then ((spec_l1In.f a0_6 0 30).bind fun t150=>(if t150=true then (if (a0_9.size:Int) > 60 then (some false) else ((spec_l1In.f a0_8 0 60).bind fun t151=>(if t151=true then ((spec_l1In.f a0_7 0 a0_8).bind fun t152=>(if t152=true then (if a0_8=0 then (some true) else (if (a0_9.size:Int) > 0 then (some (decide ((wrap64 (a0_7+(a0_9.size:Int)))≤a0_8))) else (some false))) else (some false))) else (some false)))) else (some false))) else (some false))) else (some false))) else (some false)))=some r:=by rw[if_pos rfl] at H;exact H
   clear H
   have H:=H1
   clear H1
   replace H:=Option.bind_eq_some_iff.mp H
   obtain⟨t147,A60,H⟩:=H
   have A6:=Aside0.mk A60
   clear A60
   by_cases c7:t147=true
   ·subst c7
    have H1:((spec_l1In.f a0_4 0 1000).bind fun t148=>(if t148=true then ((spec_l1In.f a0_5 1 1000000).bind fun t149=>(if t149=true then ((spec_l1In.f a0_6 0 30).bind fun t150=>(if t150=true then (if (a0_9.size:Int) > 60 then (some false) else ((spec_l1In.f a0_8 0 60).bind fun t151=>(if t151=true then ((spec_l1In.f a0_7 0 a0_8).bind fun t152=>(if t152=true then (if a0_8=0 then (some true) else (if (a0_9.size:Int) > 0 then (some (decide ((wrap64 (a0_7+(a0_9.size:Int)))≤a0_8))) else (some false))) else (some false))) else (some false)))) else (some false))) else (some false))) else (some false)))=some r:=by rw[if_pos rfl] at H;exact H
    clear H
    have H:=H1
    clear H1
    replace H:=Option.bind_eq_some_iff.mp H
    obtain⟨t148,A80,H⟩:=H
    have A8:=Aside0.mk A80
    clear A80
    by_cases c9:t148=true
    ·subst c9
     have H1:((spec_l1In.f a0_5 1 1000000).bind fun t149=>(if t149=true then ((spec_l1In.f a0_6 0 30).bind fun t150=>(if t150=true then (if (a0_9.size:Int) > 60 then (some false) else ((spec_l1In.f a0_8 0 60).bind fun t151=>(if t151=true then ((spec_l1In.f a0_7 0 a0_8).bind fun t152=>(if t152=true then (if a0_8=0 then (some true) else (if (a0_9.size:Int) > 0 then (some (decide ((wrap64 (a0_7+(a0_9.size:Int)))≤a0_8))) else (some false))) else (some false))) else (some false)))) else (some false))) else (some false)))=some r:=by rw[if_pos rfl] at H;exact H
     clear H
     have H:=H1
     clear H1
     replace H:=Option.bind_eq_some_iff.mp H
     obtain⟨t149,A100,H⟩:=H
     have A10:=Aside0.mk A100
     clear A100
     by_cases c11:t149=true
     ·subst c11
      have H1:((spec_l1In.f a0_6 0 30).bind fun t150=>(if t150=true then (if (a0_9.size:Int) > 60 then (some false) else ((spec_l1In.f a0_8 0 60).bind fun t151=>(if t151=true then ((spec_l1In.f a0_7 0 a0_8).bind fun t152=>(if t152=true then (if a0_8=0 then (some true) else (if (a0_9.size:Int) > 0 then (some (decide ((wrap64 (a0_7+(a0_9.size:Int)))≤a0_8))) else (some false))) else (some false))) else (some false)))) else (some false)))=some r:=by rw[if_pos rfl] at H;exact H
      clear H
      have H:=H1
      clear H1
      replace H:=Option.bind_eq_some_iff.mp H
      obtain⟨t150,A120,H⟩:=H
      have A12:=Aside0.mk A120
      clear A120
      by_cases c13:t150=true
      ·subst c13
       have H1:(if (a0_9.size:Int) > 60 then (some false) else ((spec_l1In.f a0_8 0 60).bind fun t151=>(if t151=true then ((spec_l1In.f a0_7 0 a0_8).bind fun t152=>(if t152=true then (if a0_8=0 then (some true) else (if (a0_9.size:Int) > 0 then (some (decide ((wrap64 (a0_7+(a0_9.size:Int)))≤a0_8))) else (some false))) else (some false))) else (some false))))=some r:=by rw[if_pos rfl] at H;exact H
       clear H
       have H:=H1
       clear H1
       by_cases c14:(a0_9.size:Int) > 60
       ·rw[if_pos c14] at H
        have c14b0:decide (60 < (a0_9.size:Int))=true:=decide_eq_true c14
        have c14b1:decide (60 < a0_9.size)=true:=decide_eq_true (by omega)
        clear c14
        obtain rfl:=Option.some.inj H
        go_enter Try.func157,Try.ntmps157
        go_wp2_with (first|((with_reducible refine gate_dst (N:=1) rfl ?_);(try (refine gate_guard (by rfl) ?_;dsimp only));refine box_event ?hg (N:=1) ?hd (cs:=#[.int .i64 a0_0,.int .i64 a0_1,.bool a0_2,.int .i64 a0_3,.int .i64 a0_4,.int .i64 a0_5,.int .i64 a0_6,.int .i64 a0_7,.int .i64 a0_8,.string a0_9]) (t:=86) ?hr ?_;(case hd=>rfl);(case hg=>rfl);(case hr=>first|(go_simp;done)|(go_simp;rfl));intro gb144 hg w15 hbox hb;have n0_:=Aside0.mk (below_step (bB) hb);have n1_:=Aside0.mk (hbox);have n2_:=Aside0.mk ((bG:w.heap.size≤gb144));have n3_:=Aside0.mk ((bG:w.heap.size≤gb144));clear HB;have HB:=n0_;have BK144:=n1_;have GW144:=n2_;have GE144:=n3_;clear n0_ n1_ n2_ n3_;clear hb hbox hg;have hcz16_0:w15.cell? ⟨gb144,0,none⟩=some (.int .i64 a0_0):=(blk_cell BK144.out 0).trans rfl;have hcz16_1:w15.cell? ⟨gb144,1,none⟩=some (.int .i64 a0_1):=(blk_cell BK144.out 1).trans rfl;have hcz16_2:w15.cell? ⟨gb144,2,none⟩=some (.bool a0_2):=(blk_cell BK144.out 2).trans rfl;have hcz16_3:w15.cell? ⟨gb144,3,none⟩=some (.int .i64 a0_3):=(blk_cell BK144.out 3).trans rfl;have hcz16_4:w15.cell? ⟨gb144,4,none⟩=some (.int .i64 a0_4):=(blk_cell BK144.out 4).trans rfl;have hcz16_5:w15.cell? ⟨gb144,5,none⟩=some (.int .i64 a0_5):=(blk_cell BK144.out 5).trans rfl;have hcz16_6:w15.cell? ⟨gb144,6,none⟩=some (.int .i64 a0_6):=(blk_cell BK144.out 6).trans rfl;have hcz16_7:w15.cell? ⟨gb144,7,none⟩=some (.int .i64 a0_7):=(blk_cell BK144.out 7).trans rfl;have hcz16_8:w15.cell? ⟨gb144,8,none⟩=some (.int .i64 a0_8):=(blk_cell BK144.out 8).trans rfl;have hcz16_9:w15.cell? ⟨gb144,9,none⟩=some (.string a0_9):=(blk_cell BK144.out 9).trans rfl;have hfz16_0:=blk_frozen BK144.out 0;have hfz16_1:=blk_frozen BK144.out 1;have hfz16_2:=blk_frozen BK144.out 2;have hfz16_3:=blk_frozen BK144.out 3;have hfz16_4:=blk_frozen BK144.out 4;have hfz16_5:=blk_frozen BK144.out 5;have hfz16_6:=blk_frozen BK144.out 6;have hfz16_7:=blk_frozen BK144.out 7;have hfz16_8:=blk_frozen BK144.out 8;have hfz16_9:=blk_frozen BK144.out 9)|((with_reducible refine gate_callee (f:=75) rfl ?_);refine goesA (some 5) rfl rfl Try.func75 #[.int .i64 a0_0,.int .i64 0,.int .i64 40] rfl ?_;(with_reducible refine(spec_l1In.calls a0_0 0 40 true _ A2.out).mono ?_);rintro e w' ⟨rfl,⟨nd,rfl⟩⟩;refine⟨_,rfl,?_⟩)|(go_at_call 75;(with_reducible refine(spec_l1In.calls a0_1 0 40 true _ A4.out).mono ?_);rintro e w' ⟨rfl,⟨nd,rfl⟩⟩)|(go_at_call 75;(with_reducible refine(spec_l1In.calls a0_3 0 1000000 true _ A6.out).mono ?_);rintro e w' ⟨rfl,⟨nd,rfl⟩⟩)|(go_at_call 75;(with_reducible refine(spec_l1In.calls a0_4 0 1000 true _ A8.out).mono ?_);rintro e w' ⟨rfl,⟨nd,rfl⟩⟩)|(go_at_call 75;(with_reducible refine(spec_l1In.calls a0_5 1 1000000 true _ A10.out).mono ?_);rintro e w' ⟨rfl,⟨nd,rfl⟩⟩)|(go_at_call 75;(with_reducible refine(spec_l1In.calls a0_6 0 30 true _ A12.out).mono ?_);rintro e w' ⟨rfl,⟨nd,rfl⟩⟩))
        go_ret
        exact⟨bE,bS GE144.out⟩
       ·rw[if_neg c14] at H
        have c14b0:decide (60 < (a0_9.size:Int))=false:=decide_eq_false c14
        have c14b1:decide (60 < a0_9.size)=false:=decide_eq_false (by omega)
        clear c14
        replace H:=Option.bind_eq_some_iff.mp H
        obtain⟨t151,A170,H⟩:=H
        have A17:=Aside0.mk A170
        clear A170
        by_cases c18:t151=true
        ·subst c18
         have H1:((spec_l1In.f a0_7 0 a0_8).bind fun t152=>(if t152=true then (if a0_8=0 then (some true) else (if (a0_9.size:Int) > 0 then (some (decide ((wrap64 (a0_7+(a0_9.size:Int)))≤a0_8))) else (some false))) else (some false)))=some r:=by rw[if_pos rfl] at H;exact H
         clear H
         have H:=H1
         clear H1
         replace H:=Option.bind_eq_some_iff.mp H
         obtain⟨t152,A190,H⟩:=H
         have A19:=Aside0.mk A190
         clear A190
         by_cases c20:t152=true
         ·subst c20
          have H1:(if a0_8=0 then (some true) else (if (a0_9.size:Int) > 0 then (some (decide ((wrap64 (a0_7+(a0_9.size:Int)))≤a0_8))) else (some false)))=some r:=by rw[if_pos rfl] at H;exact H
          clear H
          have H:=H1
          clear H1
          by_cases c21:a0_8=0
          ·rw[if_pos c21] at H
           have c21b0:(a0_8 == 0)=true:=beq_iff_eq.mpr c21
           have c21b1:(a0_8 != 0)=false:=bne_eq_false_iff_eq.mpr c21
           clear c21
           obtain rfl:=Option.some.inj H
           go_enter Try.func157,Try.ntmps157
           go_wp2_with (first|((with_reducible refine gate_dst (N:=1) rfl ?_);(try (refine gate_guard (by rfl) ?_;dsimp only));refine box_event ?hg (N:=1) ?hd (cs:=#[.int .i64 a0_0,.int .i64 a0_1,.bool a0_2,.int .i64 a0_3,.int .i64 a0_4,.int .i64 a0_5,.int .i64 a0_6,.int .i64 a0_7,.int .i64 a0_8,.string a0_9]) (t:=86) ?hr ?_;(case hd=>rfl);(case hg=>rfl);(case hr=>first|(go_simp;done)|(go_simp;rfl));intro gb144 hg w22 hbox hb;have n0_:=Aside0.mk (below_step (bB) hb);have n1_:=Aside0.mk (hbox);have n2_:=Aside0.mk ((bG:w.heap.size≤gb144));have n3_:=Aside0.mk ((bG:w.heap.size≤gb144));clear HB;have HB:=n0_;have BK144:=n1_;have GW144:=n2_;have GE144:=n3_;clear n0_ n1_ n2_ n3_;clear hb hbox hg;have hcz23_0:w22.cell? ⟨gb144,0,none⟩=some (.int .i64 a0_0):=(blk_cell BK144.out 0).trans rfl;have hcz23_1:w22.cell? ⟨gb144,1,none⟩=some (.int .i64 a0_1):=(blk_cell BK144.out 1).trans rfl;have hcz23_2:w22.cell? ⟨gb144,2,none⟩=some (.bool a0_2):=(blk_cell BK144.out 2).trans rfl;have hcz23_3:w22.cell? ⟨gb144,3,none⟩=some (.int .i64 a0_3):=(blk_cell BK144.out 3).trans rfl;have hcz23_4:w22.cell? ⟨gb144,4,none⟩=some (.int .i64 a0_4):=(blk_cell BK144.out 4).trans rfl;have hcz23_5:w22.cell? ⟨gb144,5,none⟩=some (.int .i64 a0_5):=(blk_cell BK144.out 5).trans rfl;have hcz23_6:w22.cell? ⟨gb144,6,none⟩=some (.int .i64 a0_6):=(blk_cell BK144.out 6).trans rfl;have hcz23_7:w22.cell? ⟨gb144,7,none⟩=some (.int .i64 a0_7):=(blk_cell BK144.out 7).trans rfl;have hcz23_8:w22.cell? ⟨gb144,8,none⟩=some (.int .i64 a0_8):=(blk_cell BK144.out 8).trans rfl;have hcz23_9:w22.cell? ⟨gb144,9,none⟩=some (.string a0_9):=(blk_cell BK144.out 9).trans rfl;have hfz23_0:=blk_frozen BK144.out 0;have hfz23_1:=blk_frozen BK144.out 1;have hfz23_2:=blk_frozen BK144.out 2;have hfz23_3:=blk_frozen BK144.out 3;have hfz23_4:=blk_frozen BK144.out 4;have hfz23_5:=blk_frozen BK144.out 5;have hfz23_6:=blk_frozen BK144.out 6;have hfz23_7:=blk_frozen BK144.out 7;have hfz23_8:=blk_frozen BK144.out 8;have hfz23_9:=blk_frozen BK144.out 9)|((with_reducible refine gate_callee (f:=75) rfl ?_);refine goesA (some 5) rfl rfl Try.func75 #[.int .i64 a0_0,.int .i64 0,.int .i64 40] rfl ?_;(with_reducible refine(spec_l1In.calls a0_0 0 40 true _ A2.out).mono ?_);rintro e w' ⟨rfl,⟨nd,rfl⟩⟩;refine⟨_,rfl,?_⟩)|(go_at_call 75;(with_reducible refine(spec_l1In.calls a0_1 0 40 true _ A4.out).mono ?_);rintro e w' ⟨rfl,⟨nd,rfl⟩⟩)|(go_at_call 75;(with_reducible refine(spec_l1In.calls a0_3 0 1000000 true _ A6.out).mono ?_);rintro e w' ⟨rfl,⟨nd,rfl⟩⟩)|(go_at_call 75;(with_reducible refine(spec_l1In.calls a0_4 0 1000 true _ A8.out).mono ?_);rintro e w' ⟨rfl,⟨nd,rfl⟩⟩)|(go_at_call 75;(with_reducible refine(spec_l1In.calls a0_5 1 1000000 true _ A10.out).mono ?_);rintro e w' ⟨rfl,⟨nd,rfl⟩⟩)|(go_at_call 75;(with_reducible refine(spec_l1In.calls a0_6 0 30 true _ A12.out).mono ?_);rintro e w' ⟨rfl,⟨nd,rfl⟩⟩)|(go_at_call 75;(with_reducible refine(spec_l1In.calls a0_8 0 60 true _ A17.out).mono ?_);rintro e w' ⟨rfl,⟨nd,rfl⟩⟩)|(go_at_call 75;(with_reducible refine(spec_l1In.calls a0_7 0 a0_8 true _ A19.out).mono ?_);rintro e w' ⟨rfl,⟨nd,rfl⟩⟩))
           go_ret
           exact⟨bE,bS GE144.out⟩
          ·rw[if_neg c21] at H
           have c21b0:(a0_8 == 0)=false:=beq_eq_false_iff_ne.mpr c21
           have c21b1:(a0_8 != 0)=true:=bne_iff_ne.mpr c21
           by_cases c24:(a0_9.size:Int) > 0
           ·rw[if_pos c24] at H
            have c24b0:decide (0 < (a0_9.size:Int))=true:=decide_eq_true c24
            have c24b1:decide (0 < a0_9.size)=true:=decide_eq_true (by omega)
            clear c24
            obtain rfl:=Option.some.inj H
            go_enter Try.func157,Try.ntmps157
            go_wp2_with (first|((with_reducible refine gate_dst (N:=1) rfl ?_);(try (refine gate_guard (by rfl) ?_;dsimp only));refine box_event ?hg (N:=1) ?hd (cs:=#[.int .i64 a0_0,.int .i64 a0_1,.bool a0_2,.int .i64 a0_3,.int .i64 a0_4,.int .i64 a0_5,.int .i64 a0_6,.int .i64 a0_7,.int .i64 a0_8,.string a0_9]) (t:=86) ?hr ?_;(case hd=>rfl);(case hg=>rfl);(case hr=>first|(go_simp;done)|(go_simp;rfl));intro gb144 hg w25 hbox hb;have n0_:=Aside0.mk (below_step (bB) hb);have n1_:=Aside0.mk (hbox);have n2_:=Aside0.mk ((bG:w.heap.size≤gb144));have n3_:=Aside0.mk ((bG:w.heap.size≤gb144));clear HB;have HB:=n0_;have BK144:=n1_;have GW144:=n2_;have GE144:=n3_;clear n0_ n1_ n2_ n3_;clear hb hbox hg;have hcz26_0:w25.cell? ⟨gb144,0,none⟩=some (.int .i64 a0_0):=(blk_cell BK144.out 0).trans rfl;have hcz26_1:w25.cell? ⟨gb144,1,none⟩=some (.int .i64 a0_1):=(blk_cell BK144.out 1).trans rfl;have hcz26_2:w25.cell? ⟨gb144,2,none⟩=some (.bool a0_2):=(blk_cell BK144.out 2).trans rfl;have hcz26_3:w25.cell? ⟨gb144,3,none⟩=some (.int .i64 a0_3):=(blk_cell BK144.out 3).trans rfl;have hcz26_4:w25.cell? ⟨gb144,4,none⟩=some (.int .i64 a0_4):=(blk_cell BK144.out 4).trans rfl;have hcz26_5:w25.cell? ⟨gb144,5,none⟩=some (.int .i64 a0_5):=(blk_cell BK144.out 5).trans rfl;have hcz26_6:w25.cell? ⟨gb144,6,none⟩=some (.int .i64 a0_6):=(blk_cell BK144.out 6).trans rfl;have hcz26_7:w25.cell? ⟨gb144,7,none⟩=some (.int .i64 a0_7):=(blk_cell BK144.out 7).trans rfl;have hcz26_8:w25.cell? ⟨gb144,8,none⟩=some (.int .i64 a0_8):=(blk_cell BK144.out 8).trans rfl;have hcz26_9:w25.cell? ⟨gb144,9,none⟩=some (.string a0_9):=(blk_cell BK144.out 9).trans rfl;have hfz26_0:=blk_frozen BK144.out 0;have hfz26_1:=blk_frozen BK144.out 1;have hfz26_2:=blk_frozen BK144.out 2;have hfz26_3:=blk_frozen BK144.out 3;have hfz26_4:=blk_frozen BK144.out 4;have hfz26_5:=blk_frozen BK144.out 5;have hfz26_6:=blk_frozen BK144.out 6;have hfz26_7:=blk_frozen BK144.out 7;have hfz26_8:=blk_frozen BK144.out 8;have hfz26_9:=blk_frozen BK144.out 9)|((with_reducible refine gate_callee (f:=75) rfl ?_);refine goesA (some 5) rfl rfl Try.func75 #[.int .i64 a0_0,.int .i64 0,.int .i64 40] rfl ?_;(with_reducible refine(spec_l1In.calls a0_0 0 40 true _ A2.out).mono ?_);rintro e w' ⟨rfl,⟨nd,rfl⟩⟩;refine⟨_,rfl,?_⟩)|(go_at_call 75;(with_reducible refine(spec_l1In.calls a0_1 0 40 true _ A4.out).mono ?_);rintro e w' ⟨rfl,⟨nd,rfl⟩⟩)|(go_at_call 75;(with_reducible refine(spec_l1In.calls a0_3 0 1000000 true _ A6.out).mono ?_);rintro e w' ⟨rfl,⟨nd,rfl⟩⟩)|(go_at_call 75;(with_reducible refine(spec_l1In.calls a0_4 0 1000 true _ A8.out).mono ?_);rintro e w' ⟨rfl,⟨nd,rfl⟩⟩)|(go_at_call 75;(with_reducible refine(spec_l1In.calls a0_5 1 1000000 true _ A10.out).mono ?_);rintro e w' ⟨rfl,⟨nd,rfl⟩⟩)|(go_at_call 75;(with_reducible refine(spec_l1In.calls a0_6 0 30 true _ A12.out).mono ?_);rintro e w' ⟨rfl,⟨nd,rfl⟩⟩)|(go_at_call 75;(with_reducible refine(spec_l1In.calls a0_8 0 60 true _ A17.out).mono ?_);rintro e w' ⟨rfl,⟨nd,rfl⟩⟩)|(go_at_call 75;(with_reducible refine(spec_l1In.calls a0_7 0 a0_8 true _ A19.out).mono ?_);rintro e w' ⟨rfl,⟨nd,rfl⟩⟩))
            go_ret
            exact⟨bE,bS GE144.out⟩
           ·rw[if_neg c24] at H
            have c24b0:decide (0 < (a0_9.size:Int))=false:=decide_eq_false c24
            have c24b1:decide (0 < a0_9.size)=false:=decide_eq_false (by omega)
            clear c24
            obtain rfl:=Option.some.inj H
            go_enter Try.func157,Try.ntmps157
            go_wp2_with (first|((with_reducible refine gate_dst (N:=1) rfl ?_);(try (refine gate_guard (by rfl) ?_;dsimp only));refine box_event ?hg (N:=1) ?hd (cs:=#[.int .i64 a0_0,.int .i64 a0_1,.bool a0_2,.int .i64 a0_3,.int .i64 a0_4,.int .i64 a0_5,.int .i64 a0_6,.int .i64 a0_7,.int .i64 a0_8,.string a0_9]) (t:=86) ?hr ?_;(case hd=>rfl);(case hg=>rfl);(case hr=>first|(go_simp;done)|(go_simp;rfl));intro gb144 hg w27 hbox hb;have n0_:=Aside0.mk (below_step (bB) hb);have n1_:=Aside0.mk (hbox);have n2_:=Aside0.mk ((bG:w.heap.size≤gb144));have n3_:=Aside0.mk ((bG:w.heap.size≤gb144));clear HB;have HB:=n0_;have BK144:=n1_;have GW144:=n2_;have GE144:=n3_;clear n0_ n1_ n2_ n3_;clear hb hbox hg;have hcz28_0:w27.cell? ⟨gb144,0,none⟩=some (.int .i64 a0_0):=(blk_cell BK144.out 0).trans rfl;have hcz28_1:w27.cell? ⟨gb144,1,none⟩=some (.int .i64 a0_1):=(blk_cell BK144.out 1).trans rfl;have hcz28_2:w27.cell? ⟨gb144,2,none⟩=some (.bool a0_2):=(blk_cell BK144.out 2).trans rfl;have hcz28_3:w27.cell? ⟨gb144,3,none⟩=some (.int .i64 a0_3):=(blk_cell BK144.out 3).trans rfl;have hcz28_4:w27.cell? ⟨gb144,4,none⟩=some (.int .i64 a0_4):=(blk_cell BK144.out 4).trans rfl;have hcz28_5:w27.cell? ⟨gb144,5,none⟩=some (.int .i64 a0_5):=(blk_cell BK144.out 5).trans rfl;have hcz28_6:w27.cell? ⟨gb144,6,none⟩=some (.int .i64 a0_6):=(blk_cell BK144.out 6).trans rfl;have hcz28_7:w27.cell? ⟨gb144,7,none⟩=some (.int .i64 a0_7):=(blk_cell BK144.out 7).trans rfl;have hcz28_8:w27.cell? ⟨gb144,8,none⟩=some (.int .i64 a0_8):=(blk_cell BK144.out 8).trans rfl;have hcz28_9:w27.cell? ⟨gb144,9,none⟩=some (.string a0_9):=(blk_cell BK144.out 9).trans rfl;have hfz28_0:=blk_frozen BK144.out 0;have hfz28_1:=blk_frozen BK144.out 1;have hfz28_2:=blk_frozen BK144.out 2;have hfz28_3:=blk_frozen BK144.out 3;have hfz28_4:=blk_frozen BK144.out 4;have hfz28_5:=blk_frozen BK144.out 5;have hfz28_6:=blk_frozen BK144.out 6;have hfz28_7:=blk_frozen BK144.out 7;have hfz28_8:=blk_frozen BK144.out 8;have hfz28_9:=blk_frozen BK144.out 9)|((with_reducible refine gate_callee (f:=75) rfl ?_);refine goesA (some 5) rfl rfl Try.func75 #[.int .i64 a0_0,.int .i64 0,.int .i64 40] rfl ?_;(with_reducible refine(spec_l1In.calls a0_0 0 40 true _ A2.out).mono ?_);rintro e w' ⟨rfl,⟨nd,rfl⟩⟩;refine⟨_,rfl,?_⟩)|(go_at_call 75;(with_reducible refine(spec_l1In.calls a0_1 0 40 true _ A4.out).mono ?_);rintro e w' ⟨rfl,⟨nd,rfl⟩⟩)|(go_at_call 75;(with_reducible refine(spec_l1In.calls a0_3 0 1000000 true _ A6.out).mono ?_);rintro e w' ⟨rfl,⟨nd,rfl⟩⟩)|(go_at_call 75;(with_reducible refine(spec_l1In.calls a0_4 0 1000 true _ A8.out).mono ?_);rintro e w' ⟨rfl,⟨nd,rfl⟩⟩)|(go_at_call 75;(with_reducible refine(spec_l1In.calls a0_5 1 1000000 true _ A10.out).mono ?_);rintro e w' ⟨rfl,⟨nd,rfl⟩⟩)|(go_at_call 75;(with_reducible refine(spec_l1In.calls a0_6 0 30 true _ A12.out).mono ?_);rintro e w' ⟨rfl,⟨nd,rfl⟩⟩)|(go_at_call 75;(with_reducible refine(spec_l1In.calls a0_8 0 60 true _ A17.out).mono ?_);rintro e w' ⟨rfl,⟨nd,rfl⟩⟩)|(go_at_call 75;(with_reducible refine(spec_l1In.calls a0_7 0 a0_8 true _ A19.out).mono ?_);rintro e w' ⟨rfl,⟨nd,rfl⟩⟩))
            go_ret
            exact⟨bE,bS GE144.out⟩
         ·replace c20:=Bool.eq_false_iff.mpr c20
          subst c20
          have H1:(some false)=some r:=by rw[if_neg (show ¬ (false=true) by decide)] at H;exact H
          clear H
          have H:=H1
          clear H1
          obtain rfl:=Option.some.inj H
          go_enter Try.func157,Try.ntmps157
          go_wp2_with (first|((with_reducible refine gate_dst (N:=1) rfl ?_);(try (refine gate_guard (by rfl) ?_;dsimp only));refine box_event ?hg (N:=1) ?hd (cs:=#[.int .i64 a0_0,.int .i64 a0_1,.bool a0_2,.int .i64 a0_3,.int .i64 a0_4,.int .i64 a0_5,.int .i64 a0_6,.int .i64 a0_7,.int .i64 a0_8,.string a0_9]) (t:=86) ?hr ?_;(case hd=>rfl);(case hg=>rfl);(case hr=>first|(go_simp;done)|(go_simp;rfl));intro gb144 hg w29 hbox hb;have n0_:=Aside0.mk (below_step (bB) hb);have n1_:=Aside0.mk (hbox);have n2_:=Aside0.mk ((bG:w.heap.size≤gb144));have n3_:=Aside0.mk ((bG:w.heap.size≤gb144));clear HB;have HB:=n0_;have BK144:=n1_;have GW144:=n2_;have GE144:=n3_;clear n0_ n1_ n2_ n3_;clear hb hbox hg;have hcz30_0:w29.cell? ⟨gb144,0,none⟩=some (.int .i64 a0_0):=(blk_cell BK144.out 0).trans rfl;have hcz30_1:w29.cell? ⟨gb144,1,none⟩=some (.int .i64 a0_1):=(blk_cell BK144.out 1).trans rfl;have hcz30_2:w29.cell? ⟨gb144,2,none⟩=some (.bool a0_2):=(blk_cell BK144.out 2).trans rfl;have hcz30_3:w29.cell? ⟨gb144,3,none⟩=some (.int .i64 a0_3):=(blk_cell BK144.out 3).trans rfl;have hcz30_4:w29.cell? ⟨gb144,4,none⟩=some (.int .i64 a0_4):=(blk_cell BK144.out 4).trans rfl;have hcz30_5:w29.cell? ⟨gb144,5,none⟩=some (.int .i64 a0_5):=(blk_cell BK144.out 5).trans rfl;have hcz30_6:w29.cell? ⟨gb144,6,none⟩=some (.int .i64 a0_6):=(blk_cell BK144.out 6).trans rfl;have hcz30_7:w29.cell? ⟨gb144,7,none⟩=some (.int .i64 a0_7):=(blk_cell BK144.out 7).trans rfl;have hcz30_8:w29.cell? ⟨gb144,8,none⟩=some (.int .i64 a0_8):=(blk_cell BK144.out 8).trans rfl;have hcz30_9:w29.cell? ⟨gb144,9,none⟩=some (.string a0_9):=(blk_cell BK144.out 9).trans rfl;have hfz30_0:=blk_frozen BK144.out 0;have hfz30_1:=blk_frozen BK144.out 1;have hfz30_2:=blk_frozen BK144.out 2;have hfz30_3:=blk_frozen BK144.out 3;have hfz30_4:=blk_frozen BK144.out 4;have hfz30_5:=blk_frozen BK144.out 5;have hfz30_6:=blk_frozen BK144.out 6;have hfz30_7:=blk_frozen BK144.out 7;have hfz30_8:=blk_frozen BK144.out 8;have hfz30_9:=blk_frozen BK144.out 9)|((with_reducible refine gate_callee (f:=75) rfl ?_);refine goesA (some 5) rfl rfl Try.func75 #[.int .i64 a0_0,.int .i64 0,.int .i64 40] rfl ?_;(with_reducible refine(spec_l1In.calls a0_0 0 40 true _ A2.out).mono ?_);rintro e w' ⟨rfl,⟨nd,rfl⟩⟩;refine⟨_,rfl,?_⟩)|(go_at_call 75;(with_reducible refine(spec_l1In.calls a0_1 0 40 true _ A4.out).mono ?_);rintro e w' ⟨rfl,⟨nd,rfl⟩⟩)|(go_at_call 75;(with_reducible refine(spec_l1In.calls a0_3 0 1000000 true _ A6.out).mono ?_);rintro e w' ⟨rfl,⟨nd,rfl⟩⟩)|(go_at_call 75;(with_reducible refine(spec_l1In.calls a0_4 0 1000 true _ A8.out).mono ?_);rintro e w' ⟨rfl,⟨nd,rfl⟩⟩)|(go_at_call 75;(with_reducible refine(spec_l1In.calls a0_5 1 1000000 true _ A10.out).mono ?_);rintro e w' ⟨rfl,⟨nd,rfl⟩⟩)|(go_at_call 75;(with_reducible refine(spec_l1In.calls a0_6 0 30 true _ A12.out).mono ?_);rintro e w' ⟨rfl,⟨nd,rfl⟩⟩)|(go_at_call 75;(with_reducible refine(spec_l1In.calls a0_8 0 60 true _ A17.out).mono ?_);rintro e w' ⟨rfl,⟨nd,rfl⟩⟩)|(go_at_call 75;(with_reducible refine(spec_l1In.calls a0_7 0 a0_8 false _ A19.out).mono ?_);rintro e w' ⟨rfl,⟨nd,rfl⟩⟩))
          go_ret
          exact⟨bE,bS GE144.out⟩
        ·replace c18:=Bool.eq_false_iff.mpr c18
         subst c18
         have H1:(some false)=some r:=by rw[if_neg (show ¬ (false=true) by decide)] at H;exact H
         clear H
         have H:=H1
         clear H1
         obtain rfl:=Option.some.inj H
         go_enter Try.func157,Try.ntmps157
         go_wp2_with (first|((with_reducible refine gate_dst (N:=1) rfl ?_);(try (refine gate_guard (by rfl) ?_;dsimp only));refine box_event ?hg (N:=1) ?hd (cs:=#[.int .i64 a0_0,.int .i64 a0_1,.bool a0_2,.int .i64 a0_3,.int .i64 a0_4,.int .i64 a0_5,.int .i64 a0_6,.int .i64 a0_7,.int .i64 a0_8,.string a0_9]) (t:=86) ?hr ?_;(case hd=>rfl);(case hg=>rfl);(case hr=>first|(go_simp;done)|(go_simp;rfl));intro gb144 hg w31 hbox hb;have n0_:=Aside0.mk (below_step (bB) hb);have n1_:=Aside0.mk (hbox);have n2_:=Aside0.mk ((bG:w.heap.size≤gb144));have n3_:=Aside0.mk ((bG:w.heap.size≤gb144));clear HB;have HB:=n0_;have BK144:=n1_;have GW144:=n2_;have GE144:=n3_;clear n0_ n1_ n2_ n3_;clear hb hbox hg;have hcz32_0:w31.cell? ⟨gb144,0,none⟩=some (.int .i64 a0_0):=(blk_cell BK144.out 0).trans rfl;have hcz32_1:w31.cell? ⟨gb144,1,none⟩=some (.int .i64 a0_1):=(blk_cell BK144.out 1).trans rfl;have hcz32_2:w31.cell? ⟨gb144,2,none⟩=some (.bool a0_2):=(blk_cell BK144.out 2).trans rfl;have hcz32_3:w31.cell? ⟨gb144,3,none⟩=some (.int .i64 a0_3):=(blk_cell BK144.out 3).trans rfl;have hcz32_4:w31.cell? ⟨gb144,4,none⟩=some (.int .i64 a0_4):=(blk_cell BK144.out 4).trans rfl;have hcz32_5:w31.cell? ⟨gb144,5,none⟩=some (.int .i64 a0_5):=(blk_cell BK144.out 5).trans rfl;have hcz32_6:w31.cell? ⟨gb144,6,none⟩=some (.int .i64 a0_6):=(blk_cell BK144.out 6).trans rfl;have hcz32_7:w31.cell? ⟨gb144,7,none⟩=some (.int .i64 a0_7):=(blk_cell BK144.out 7).trans rfl;have hcz32_8:w31.cell? ⟨gb144,8,none⟩=some (.int .i64 a0_8):=(blk_cell BK144.out 8).trans rfl;have hcz32_9:w31.cell? ⟨gb144,9,none⟩=some (.string a0_9):=(blk_cell BK144.out 9).trans rfl;have hfz32_0:=blk_frozen BK144.out 0;have hfz32_1:=blk_frozen BK144.out 1;have hfz32_2:=blk_frozen BK144.out 2;have hfz32_3:=blk_frozen BK144.out 3;have hfz32_4:=blk_frozen BK144.out 4;have hfz32_5:=blk_frozen BK144.out 5;have hfz32_6:=blk_frozen BK144.out 6;have hfz32_7:=blk_frozen BK144.out 7;have hfz32_8:=blk_frozen BK144.out 8;have hfz32_9:=blk_frozen BK144.out 9)|((with_reducible refine gate_callee (f:=75) rfl ?_);refine goesA (some 5) rfl rfl Try.func75 #[.int .i64 a0_0,.int .i64 0,.int .i64 40] rfl ?_;(with_reducible refine(spec_l1In.calls a0_0 0 40 true _ A2.out).mono ?_);rintro e w' ⟨rfl,⟨nd,rfl⟩⟩;refine⟨_,rfl,?_⟩)|(go_at_call 75;(with_reducible refine(spec_l1In.calls a0_1 0 40 true _ A4.out).mono ?_);rintro e w' ⟨rfl,⟨nd,rfl⟩⟩)|(go_at_call 75;(with_reducible refine(spec_l1In.calls a0_3 0 1000000 true _ A6.out).mono ?_);rintro e w' ⟨rfl,⟨nd,rfl⟩⟩)|(go_at_call 75;(with_reducible refine(spec_l1In.calls a0_4 0 1000 true _ A8.out).mono ?_);rintro e w' ⟨rfl,⟨nd,rfl⟩⟩)|(go_at_call 75;(with_reducible refine(spec_l1In.calls a0_5 1 1000000 true _ A10.out).mono ?_);rintro e w' ⟨rfl,⟨nd,rfl⟩⟩)|(go_at_call 75;(with_reducible refine(spec_l1In.calls a0_6 0 30 true _ A12.out).mono ?_);rintro e w' ⟨rfl,⟨nd,rfl⟩⟩)|(go_at_call 75;(with_reducible refine(spec_l1In.calls a0_8 0 60 false _ A17.out).mono ?_);rintro e w' ⟨rfl,⟨nd,rfl⟩⟩))
         go_ret
         exact⟨bE,bS GE144.out⟩
      ·replace c13:=Bool.eq_false_iff.mpr c13
       subst c13
       have H1:(some false)=some r:=by rw[if_neg (show ¬ (false=true) by decide)] at H;exact H
       clear H
       have H:=H1
       clear H1
       obtain rfl:=Option.some.inj H
       go_enter Try.func157,Try.ntmps157
       go_wp2_with (first|((with_reducible refine gate_dst (N:=1) rfl ?_);(try (refine gate_guard (by rfl) ?_;dsimp only));refine box_event ?hg (N:=1) ?hd (cs:=#[.int .i64 a0_0,.int .i64 a0_1,.bool a0_2,.int .i64 a0_3,.int .i64 a0_4,.int .i64 a0_5,.int .i64 a0_6,.int .i64 a0_7,.int .i64 a0_8,.string a0_9]) (t:=86) ?hr ?_;(case hd=>rfl);(case hg=>rfl);(case hr=>first|(go_simp;done)|(go_simp;rfl));intro gb144 hg w33 hbox hb;have n0_:=Aside0.mk (below_step (bB) hb);have n1_:=Aside0.mk (hbox);have n2_:=Aside0.mk ((bG:w.heap.size≤gb144));have n3_:=Aside0.mk ((bG:w.heap.size≤gb144));clear HB;have HB:=n0_;have BK144:=n1_;have GW144:=n2_;have GE144:=n3_;clear n0_ n1_ n2_ n3_;clear hb hbox hg;have hcz34_0:w33.cell? ⟨gb144,0,none⟩=some (.int .i64 a0_0):=(blk_cell BK144.out 0).trans rfl;have hcz34_1:w33.cell? ⟨gb144,1,none⟩=some (.int .i64 a0_1):=(blk_cell BK144.out 1).trans rfl;have hcz34_2:w33.cell? ⟨gb144,2,none⟩=some (.bool a0_2):=(blk_cell BK144.out 2).trans rfl;have hcz34_3:w33.cell? ⟨gb144,3,none⟩=some (.int .i64 a0_3):=(blk_cell BK144.out 3).trans rfl;have hcz34_4:w33.cell? ⟨gb144,4,none⟩=some (.int .i64 a0_4):=(blk_cell BK144.out 4).trans rfl;have hcz34_5:w33.cell? ⟨gb144,5,none⟩=some (.int .i64 a0_5):=(blk_cell BK144.out 5).trans rfl;have hcz34_6:w33.cell? ⟨gb144,6,none⟩=some (.int .i64 a0_6):=(blk_cell BK144.out 6).trans rfl;have hcz34_7:w33.cell? ⟨gb144,7,none⟩=some (.int .i64 a0_7):=(blk_cell BK144.out 7).trans rfl;have hcz34_8:w33.cell? ⟨gb144,8,none⟩=some (.int .i64 a0_8):=(blk_cell BK144.out 8).trans rfl;have hcz34_9:w33.cell? ⟨gb144,9,none⟩=some (.string a0_9):=(blk_cell BK144.out 9).trans rfl;have hfz34_0:=blk_frozen BK144.out 0;have hfz34_1:=blk_frozen BK144.out 1;have hfz34_2:=blk_frozen BK144.out 2;have hfz34_3:=blk_frozen BK144.out 3;have hfz34_4:=blk_frozen BK144.out 4;have hfz34_5:=blk_frozen BK144.out 5;have hfz34_6:=blk_frozen BK144.out 6;have hfz34_7:=blk_frozen BK144.out 7;have hfz34_8:=blk_frozen BK144.out 8;have hfz34_9:=blk_frozen BK144.out 9)|((with_reducible refine gate_callee (f:=75) rfl ?_);refine goesA (some 5) rfl rfl Try.func75 #[.int .i64 a0_0,.int .i64 0,.int .i64 40] rfl ?_;(with_reducible refine(spec_l1In.calls a0_0 0 40 true _ A2.out).mono ?_);rintro e w' ⟨rfl,⟨nd,rfl⟩⟩;refine⟨_,rfl,?_⟩)|(go_at_call 75;(with_reducible refine(spec_l1In.calls a0_1 0 40 true _ A4.out).mono ?_);rintro e w' ⟨rfl,⟨nd,rfl⟩⟩)|(go_at_call 75;(with_reducible refine(spec_l1In.calls a0_3 0 1000000 true _ A6.out).mono ?_);rintro e w' ⟨rfl,⟨nd,rfl⟩⟩)|(go_at_call 75;(with_reducible refine(spec_l1In.calls a0_4 0 1000 true _ A8.out).mono ?_);rintro e w' ⟨rfl,⟨nd,rfl⟩⟩)|(go_at_call 75;(with_reducible refine(spec_l1In.calls a0_5 1 1000000 true _ A10.out).mono ?_);rintro e w' ⟨rfl,⟨nd,rfl⟩⟩)|(go_at_call 75;(with_reducible refine(spec_l1In.calls a0_6 0 30 false _ A12.out).mono ?_);rintro e w' ⟨rfl,⟨nd,rfl⟩⟩))
       go_ret
       exact⟨bE,bS GE144.out⟩
     ·replace c11:=Bool.eq_false_iff.mpr c11
      subst c11
      have H1:(some false)=some r:=by rw[if_neg (show ¬ (false=true) by decide)] at H;exact H
      clear H
      have H:=H1
      clear H1
      obtain rfl:=Option.some.inj H
      go_enter Try.func157,Try.ntmps157
      go_wp2_with (first|((with_reducible refine gate_dst (N:=1) rfl ?_);(try (refine gate_guard (by rfl) ?_;dsimp only));refine box_event ?hg (N:=1) ?hd (cs:=#[.int .i64 a0_0,.int .i64 a0_1,.bool a0_2,.int .i64 a0_3,.int .i64 a0_4,.int .i64 a0_5,.int .i64 a0_6,.int .i64 a0_7,.int .i64 a0_8,.string a0_9]) (t:=86) ?hr ?_;(case hd=>rfl);(case hg=>rfl);(case hr=>first|(go_simp;done)|(go_simp;rfl));intro gb144 hg w35 hbox hb;have n0_:=Aside0.mk (below_step (bB) hb);have n1_:=Aside0.mk (hbox);have n2_:=Aside0.mk ((bG:w.heap.size≤gb144));have n3_:=Aside0.mk ((bG:w.heap.size≤gb144));clear HB;have HB:=n0_;have BK144:=n1_;have GW144:=n2_;have GE144:=n3_;clear n0_ n1_ n2_ n3_;clear hb hbox hg;have hcz36_0:w35.cell? ⟨gb144,0,none⟩=some (.int .i64 a0_0):=(blk_cell BK144.out 0).trans rfl;have hcz36_1:w35.cell? ⟨gb144,1,none⟩=some (.int .i64 a0_1):=(blk_cell BK144.out 1).trans rfl;have hcz36_2:w35.cell? ⟨gb144,2,none⟩=some (.bool a0_2):=(blk_cell BK144.out 2).trans rfl;have hcz36_3:w35.cell? ⟨gb144,3,none⟩=some (.int .i64 a0_3):=(blk_cell BK144.out 3).trans rfl;have hcz36_4:w35.cell? ⟨gb144,4,none⟩=some (.int .i64 a0_4):=(blk_cell BK144.out 4).trans rfl;have hcz36_5:w35.cell? ⟨gb144,5,none⟩=some (.int .i64 a0_5):=(blk_cell BK144.out 5).trans rfl;have hcz36_6:w35.cell? ⟨gb144,6,none⟩=some (.int .i64 a0_6):=(blk_cell BK144.out 6).trans rfl;have hcz36_7:w35.cell? ⟨gb144,7,none⟩=some (.int .i64 a0_7):=(blk_cell BK144.out 7).trans rfl;have hcz36_8:w35.cell? ⟨gb144,8,none⟩=some (.int .i64 a0_8):=(blk_cell BK144.out 8).trans rfl;have hcz36_9:w35.cell? ⟨gb144,9,none⟩=some (.string a0_9):=(blk_cell BK144.out 9).trans rfl;have hfz36_0:=blk_frozen BK144.out 0;have hfz36_1:=blk_frozen BK144.out 1;have hfz36_2:=blk_frozen BK144.out 2;have hfz36_3:=blk_frozen BK144.out 3;have hfz36_4:=blk_frozen BK144.out 4;have hfz36_5:=blk_frozen BK144.out 5;have hfz36_6:=blk_frozen BK144.out 6;have hfz36_7:=blk_frozen BK144.out 7;have hfz36_8:=blk_frozen BK144.out 8;have hfz36_9:=blk_frozen BK144.out 9)|((with_reducible refine gate_callee (f:=75) rfl ?_);refine goesA (some 5) rfl rfl Try.func75 #[.int .i64 a0_0,.int .i64 0,.int .i64 40] rfl ?_;(with_reducible refine(spec_l1In.calls a0_0 0 40 true _ A2.out).mono ?_);rintro e w' ⟨rfl,⟨nd,rfl⟩⟩;refine⟨_,rfl,?_⟩)|(go_at_call 75;(with_reducible refine(spec_l1In.calls a0_1 0 40 true _ A4.out).mono ?_);rintro e w' ⟨rfl,⟨nd,rfl⟩⟩)|(go_at_call 75;(with_reducible refine(spec_l1In.calls a0_3 0 1000000 true _ A6.out).mono ?_);rintro e w' ⟨rfl,⟨nd,rfl⟩⟩)|(go_at_call 75;(with_reducible refine(spec_l1In.calls a0_4 0 1000 true _ A8.out).mono ?_);rintro e w' ⟨rfl,⟨nd,rfl⟩⟩)|(go_at_call 75;(with_reducible refine(spec_l1In.calls a0_5 1 1000000 false _ A10.out).mono ?_);rintro e w' ⟨rfl,⟨nd,rfl⟩⟩))
      go_ret
      exact⟨bE,bS GE144.out⟩
    ·replace c9:=Bool.eq_false_iff.mpr c9
     subst c9
     have H1:(some false)=some r:=by rw[if_neg (show ¬ (false=true) by decide)] at H;exact H
     clear H
     have H:=H1
     clear H1
     obtain rfl:=Option.some.inj H
     go_enter Try.func157,Try.ntmps157
     go_wp2_with (first|((with_reducible refine gate_dst (N:=1) rfl ?_);(try (refine gate_guard (by rfl) ?_;dsimp only));refine box_event ?hg (N:=1) ?hd (cs:=#[.int .i64 a0_0,.int .i64 a0_1,.bool a0_2,.int .i64 a0_3,.int .i64 a0_4,.int .i64 a0_5,.int .i64 a0_6,.int .i64 a0_7,.int .i64 a0_8,.string a0_9]) (t:=86) ?hr ?_;(case hd=>rfl);(case hg=>rfl);(case hr=>first|(go_simp;done)|(go_simp;rfl));intro gb144 hg w37 hbox hb;have n0_:=Aside0.mk (below_step (bB) hb);have n1_:=Aside0.mk (hbox);have n2_:=Aside0.mk ((bG:w.heap.size≤gb144));have n3_:=Aside0.mk ((bG:w.heap.size≤gb144));clear HB;have HB:=n0_;have BK144:=n1_;have GW144:=n2_;have GE144:=n3_;clear n0_ n1_ n2_ n3_;clear hb hbox hg;have hcz38_0:w37.cell? ⟨gb144,0,none⟩=some (.int .i64 a0_0):=(blk_cell BK144.out 0).trans rfl;have hcz38_1:w37.cell? ⟨gb144,1,none⟩=some (.int .i64 a0_1):=(blk_cell BK144.out 1).trans rfl;have hcz38_2:w37.cell? ⟨gb144,2,none⟩=some (.bool a0_2):=(blk_cell BK144.out 2).trans rfl;have hcz38_3:w37.cell? ⟨gb144,3,none⟩=some (.int .i64 a0_3):=(blk_cell BK144.out 3).trans rfl;have hcz38_4:w37.cell? ⟨gb144,4,none⟩=some (.int .i64 a0_4):=(blk_cell BK144.out 4).trans rfl;have hcz38_5:w37.cell? ⟨gb144,5,none⟩=some (.int .i64 a0_5):=(blk_cell BK144.out 5).trans rfl;have hcz38_6:w37.cell? ⟨gb144,6,none⟩=some (.int .i64 a0_6):=(blk_cell BK144.out 6).trans rfl;have hcz38_7:w37.cell? ⟨gb144,7,none⟩=some (.int .i64 a0_7):=(blk_cell BK144.out 7).trans rfl;have hcz38_8:w37.cell? ⟨gb144,8,none⟩=some (.int .i64 a0_8):=(blk_cell BK144.out 8).trans rfl;have hcz38_9:w37.cell? ⟨gb144,9,none⟩=some (.string a0_9):=(blk_cell BK144.out 9).trans rfl;have hfz38_0:=blk_frozen BK144.out 0;have hfz38_1:=blk_frozen BK144.out 1;have hfz38_2:=blk_frozen BK144.out 2;have hfz38_3:=blk_frozen BK144.out 3;have hfz38_4:=blk_frozen BK144.out 4;have hfz38_5:=blk_frozen BK144.out 5;have hfz38_6:=blk_frozen BK144.out 6;have hfz38_7:=blk_frozen BK144.out 7;have hfz38_8:=blk_frozen BK144.out 8;have hfz38_9:=blk_frozen BK144.out 9)|((with_reducible refine gate_callee (f:=75) rfl ?_);refine goesA (some 5) rfl rfl Try.func75 #[.int .i64 a0_0,.int .i64 0,.int .i64 40] rfl ?_;(with_reducible refine(spec_l1In.calls a0_0 0 40 true _ A2.out).mono ?_);rintro e w' ⟨rfl,⟨nd,rfl⟩⟩;refine⟨_,rfl,?_⟩)|(go_at_call 75;(with_reducible refine(spec_l1In.calls a0_1 0 40 true _ A4.out).mono ?_);rintro e w' ⟨rfl,⟨nd,rfl⟩⟩)|(go_at_call 75;(with_reducible refine(spec_l1In.calls a0_3 0 1000000 true _ A6.out).mono ?_);rintro e w' ⟨rfl,⟨nd,rfl⟩⟩)|(go_at_call 75;(with_reducible refine(spec_l1In.calls a0_4 0 1000 false _ A8.out).mono ?_);rintro e w' ⟨rfl,⟨nd,rfl⟩⟩))
     go_ret
     exact⟨bE,bS GE144.out⟩
   ·replace c7:=Bool.eq_false_iff.mpr c7
    subst c7
    have H1:(some false)=some r:=by rw[if_neg (show ¬ (false=true) by decide)] at H;exact H
    clear H
    have H:=H1
    clear H1
    obtain rfl:=Option.some.inj H
    go_enter Try.func157,Try.ntmps157
    go_wp2_with (first|((with_reducible refine gate_dst (N:=1) rfl ?_);(try (refine gate_guard (by rfl) ?_;dsimp only));refine box_event ?hg (N:=1) ?hd (cs:=#[.int .i64 a0_0,.int .i64 a0_1,.bool a0_2,.int .i64 a0_3,.int .i64 a0_4,.int .i64 a0_5,.int .i64 a0_6,.int .i64 a0_7,.int .i64 a0_8,.string a0_9]) (t:=86) ?hr ?_;(case hd=>rfl);(case hg=>rfl);(case hr=>first|(go_simp;done)|(go_simp;rfl));intro gb144 hg w39 hbox hb;have n0_:=Aside0.mk (below_step (bB) hb);have n1_:=Aside0.mk (hbox);have n2_:=Aside0.mk ((bG:w.heap.size≤gb144));have n3_:=Aside0.mk ((bG:w.heap.size≤gb144));clear HB;have HB:=n0_;have BK144:=n1_;have GW144:=n2_;have GE144:=n3_;clear n0_ n1_ n2_ n3_;clear hb hbox hg;have hcz40_0:w39.cell? ⟨gb144,0,none⟩=some (.int .i64 a0_0):=(blk_cell BK144.out 0).trans rfl;have hcz40_1:w39.cell? ⟨gb144,1,none⟩=some (.int .i64 a0_1):=(blk_cell BK144.out 1).trans rfl;have hcz40_2:w39.cell? ⟨gb144,2,none⟩=some (.bool a0_2):=(blk_cell BK144.out 2).trans rfl;have hcz40_3:w39.cell? ⟨gb144,3,none⟩=some (.int .i64 a0_3):=(blk_cell BK144.out 3).trans rfl;have hcz40_4:w39.cell? ⟨gb144,4,none⟩=some (.int .i64 a0_4):=(blk_cell BK144.out 4).trans rfl;have hcz40_5:w39.cell? ⟨gb144,5,none⟩=some (.int .i64 a0_5):=(blk_cell BK144.out 5).trans rfl;have hcz40_6:w39.cell? ⟨gb144,6,none⟩=some (.int .i64 a0_6):=(blk_cell BK144.out 6).trans rfl;have hcz40_7:w39.cell? ⟨gb144,7,none⟩=some (.int .i64 a0_7):=(blk_cell BK144.out 7).trans rfl;have hcz40_8:w39.cell? ⟨gb144,8,none⟩=some (.int .i64 a0_8):=(blk_cell BK144.out 8).trans rfl;have hcz40_9:w39.cell? ⟨gb144,9,none⟩=some (.string a0_9):=(blk_cell BK144.out 9).trans rfl;have hfz40_0:=blk_frozen BK144.out 0;have hfz40_1:=blk_frozen BK144.out 1;have hfz40_2:=blk_frozen BK144.out 2;have hfz40_3:=blk_frozen BK144.out 3;have hfz40_4:=blk_frozen BK144.out 4;have hfz40_5:=blk_frozen BK144.out 5;have hfz40_6:=blk_frozen BK144.out 6;have hfz40_7:=blk_frozen BK144.out 7;have hfz40_8:=blk_frozen BK144.out 8;have hfz40_9:=blk_frozen BK144.out 9)|((with_reducible refine gate_callee (f:=75) rfl ?_);refine goesA (some 5) rfl rfl Try.func75 #[.int .i64 a0_0,.int .i64 0,.int .i64 40] rfl ?_;(with_reducible refine(spec_l1In.calls a0_0 0 40 true _ A2.out).mono ?_);rintro e w' ⟨rfl,⟨nd,rfl⟩⟩;refine⟨_,rfl,?_⟩)|(go_at_call 75;(with_reducible refine(spec_l1In.calls a0_1 0 40 true _ A4.out).mono ?_);rintro e w' ⟨rfl,⟨nd,rfl⟩⟩)|(go_at_call 75;(with_reducible refine(spec_l1In.calls a0_3 0 1000000 false _ A6.out).mono ?_);rintro e w' ⟨rfl,⟨nd,rfl⟩⟩))
    go_ret
    exact⟨bE,bS GE144.out⟩
  ·replace c5:=Bool.eq_false_iff.mpr c5
   subst c5
   have H1:(some false)=some r:=by rw[if_neg (show ¬ (false=true) by decide)] at H;exact H
   clear H
   have H:=H1
   clear H1
   obtain rfl:=Option.some.inj H
   go_enter Try.func157,Try.ntmps157
   go_wp2_with (first|((with_reducible refine gate_dst (N:=1) rfl ?_);(try (refine gate_guard (by rfl) ?_;dsimp only));refine box_event ?hg (N:=1) ?hd (cs:=#[.int .i64 a0_0,.int .i64 a0_1,.bool a0_2,.int .i64 a0_3,.int .i64 a0_4,.int .i64 a0_5,.int .i64 a0_6,.int .i64 a0_7,.int .i64 a0_8,.string a0_9]) (t:=86) ?hr ?_;(case hd=>rfl);(case hg=>rfl);(case hr=>first|(go_simp;done)|(go_simp;rfl));intro gb144 hg w41 hbox hb;have n0_:=Aside0.mk (below_step (bB) hb);have n1_:=Aside0.mk (hbox);have n2_:=Aside0.mk ((bG:w.heap.size≤gb144));have n3_:=Aside0.mk ((bG:w.heap.size≤gb144));clear HB;have HB:=n0_;have BK144:=n1_;have GW144:=n2_;have GE144:=n3_;clear n0_ n1_ n2_ n3_;clear hb hbox hg;have hcz42_0:w41.cell? ⟨gb144,0,none⟩=some (.int .i64 a0_0):=(blk_cell BK144.out 0).trans rfl;have hcz42_1:w41.cell? ⟨gb144,1,none⟩=some (.int .i64 a0_1):=(blk_cell BK144.out 1).trans rfl;have hcz42_2:w41.cell? ⟨gb144,2,none⟩=some (.bool a0_2):=(blk_cell BK144.out 2).trans rfl;have hcz42_3:w41.cell? ⟨gb144,3,none⟩=some (.int .i64 a0_3):=(blk_cell BK144.out 3).trans rfl;have hcz42_4:w41.cell? ⟨gb144,4,none⟩=some (.int .i64 a0_4):=(blk_cell BK144.out 4).trans rfl;have hcz42_5:w41.cell? ⟨gb144,5,none⟩=some (.int .i64 a0_5):=(blk_cell BK144.out 5).trans rfl;have hcz42_6:w41.cell? ⟨gb144,6,none⟩=some (.int .i64 a0_6):=(blk_cell BK144.out 6).trans rfl;have hcz42_7:w41.cell? ⟨gb144,7,none⟩=some (.int .i64 a0_7):=(blk_cell BK144.out 7).trans rfl;have hcz42_8:w41.cell? ⟨gb144,8,none⟩=some (.int .i64 a0_8):=(blk_cell BK144.out 8).trans rfl;have hcz42_9:w41.cell? ⟨gb144,9,none⟩=some (.string a0_9):=(blk_cell BK144.out 9).trans rfl;have hfz42_0:=blk_frozen BK144.out 0;have hfz42_1:=blk_frozen BK144.out 1;have hfz42_2:=blk_frozen BK144.out 2;have hfz42_3:=blk_frozen BK144.out 3;have hfz42_4:=blk_frozen BK144.out 4;have hfz42_5:=blk_frozen BK144.out 5;have hfz42_6:=blk_frozen BK144.out 6;have hfz42_7:=blk_frozen BK144.out 7;have hfz42_8:=blk_frozen BK144.out 8;have hfz42_9:=blk_frozen BK144.out 9)|((with_reducible refine gate_callee (f:=75) rfl ?_);refine goesA (some 5) rfl rfl Try.func75 #[.int .i64 a0_0,.int .i64 0,.int .i64 40] rfl ?_;(with_reducible refine(spec_l1In.calls a0_0 0 40 true _ A2.out).mono ?_);rintro e w' ⟨rfl,⟨nd,rfl⟩⟩;refine⟨_,rfl,?_⟩)|(go_at_call 75;(with_reducible refine(spec_l1In.calls a0_1 0 40 false _ A4.out).mono ?_);rintro e w' ⟨rfl,⟨nd,rfl⟩⟩))
   go_ret
   exact⟨bE,bS GE144.out⟩
 ·replace c3:=Bool.eq_false_iff.mpr c3
  subst c3
  have H1:(some false)=some r:=by rw[if_neg (show ¬ (false=true) by decide)] at H;exact H
  clear H
  have H:=H1
  clear H1
  obtain rfl:=Option.some.inj H
  go_enter Try.func157,Try.ntmps157
  go_wp2_with (first|((with_reducible refine gate_dst (N:=1) rfl ?_);(try (refine gate_guard (by rfl) ?_;dsimp only));refine box_event ?hg (N:=1) ?hd (cs:=#[.int .i64 a0_0,.int .i64 a0_1,.bool a0_2,.int .i64 a0_3,.int .i64 a0_4,.int .i64 a0_5,.int .i64 a0_6,.int .i64 a0_7,.int .i64 a0_8,.string a0_9]) (t:=86) ?hr ?_;(case hd=>rfl);(case hg=>rfl);(case hr=>first|(go_simp;done)|(go_simp;rfl));intro gb144 hg w43 hbox hb;have n0_:=Aside0.mk (below_step (bB) hb);have n1_:=Aside0.mk (hbox);have n2_:=Aside0.mk ((bG:w.heap.size≤gb144));have n3_:=Aside0.mk ((bG:w.heap.size≤gb144));clear HB;have HB:=n0_;have BK144:=n1_;have GW144:=n2_;have GE144:=n3_;clear n0_ n1_ n2_ n3_;clear hb hbox hg;have hcz44_0:w43.cell? ⟨gb144,0,none⟩=some (.int .i64 a0_0):=(blk_cell BK144.out 0).trans rfl;have hcz44_1:w43.cell? ⟨gb144,1,none⟩=some (.int .i64 a0_1):=(blk_cell BK144.out 1).trans rfl;have hcz44_2:w43.cell? ⟨gb144,2,none⟩=some (.bool a0_2):=(blk_cell BK144.out 2).trans rfl;have hcz44_3:w43.cell? ⟨gb144,3,none⟩=some (.int .i64 a0_3):=(blk_cell BK144.out 3).trans rfl;have hcz44_4:w43.cell? ⟨gb144,4,none⟩=some (.int .i64 a0_4):=(blk_cell BK144.out 4).trans rfl;have hcz44_5:w43.cell? ⟨gb144,5,none⟩=some (.int .i64 a0_5):=(blk_cell BK144.out 5).trans rfl;have hcz44_6:w43.cell? ⟨gb144,6,none⟩=some (.int .i64 a0_6):=(blk_cell BK144.out 6).trans rfl;have hcz44_7:w43.cell? ⟨gb144,7,none⟩=some (.int .i64 a0_7):=(blk_cell BK144.out 7).trans rfl;have hcz44_8:w43.cell? ⟨gb144,8,none⟩=some (.int .i64 a0_8):=(blk_cell BK144.out 8).trans rfl;have hcz44_9:w43.cell? ⟨gb144,9,none⟩=some (.string a0_9):=(blk_cell BK144.out 9).trans rfl;have hfz44_0:=blk_frozen BK144.out 0;have hfz44_1:=blk_frozen BK144.out 1;have hfz44_2:=blk_frozen BK144.out 2;have hfz44_3:=blk_frozen BK144.out 3;have hfz44_4:=blk_frozen BK144.out 4;have hfz44_5:=blk_frozen BK144.out 5;have hfz44_6:=blk_frozen BK144.out 6;have hfz44_7:=blk_frozen BK144.out 7;have hfz44_8:=blk_frozen BK144.out 8;have hfz44_9:=blk_frozen BK144.out 9)|((with_reducible refine gate_callee (f:=75) rfl ?_);refine goesA (some 5) rfl rfl Try.func75 #[.int .i64 a0_0,.int .i64 0,.int .i64 40] rfl ?_;(with_reducible refine(spec_l1In.calls a0_0 0 40 false _ A2.out).mono ?_);rintro e w' ⟨rfl,⟨nd,rfl⟩⟩;refine⟨_,rfl,?_⟩))
  go_ret
  exact⟨bE,bS GE144.out⟩

/-! ### spec_l17Fits: function 118 -/
def spec_l17Fits.f (k:Nat) (l0:List (S104)) (a1_0:Int) (a1_1:Int) (a1_2:Bool) (a1_3:Int) (a1_4:Int) (a1_5:Int) (a1_6:Int) (a1_7:Int) (a1_8:Int) (a1_9:ByteArray):Option (Bool):=(spec_GoodPlan.f k l0).bind fun t154=>(if t154=true then ((spec_GoodBundle.f a1_0 a1_1 a1_2 a1_3 a1_4 a1_5 a1_6 a1_7 a1_8 a1_9).bind fun t155=>(if t155=true then (if a1_8=0 then ((spec_l6Node.f a1_0).bind fun t156=>(if t156=true then ((spec_l6When.f a1_3).bind fun t157=>(some t157)) else (some false))) else (some false)) else (some false))) else (some false))
theorem spec_l17Fits.mono : ∀ a0 a1 a2 a3 a4 a5 a6 a7 a8 a9 a10 k,LeO (spec_l17Fits.f k a0 a1 a2 a3 a4 a5 a6 a7 a8 a9 a10) (spec_l17Fits.f (k+1) a0 a1 a2 a3 a4 a5 a6 a7 a8 a9 a10):=by
 intro a0 a1 a2 a3 a4 a5 a6 a7 a8 a9 a10 k
 unfold spec_l17Fits.f
 repeat' first
  | (with_reducible exact spec_GoodPlan.mono _ _)
  | (with_reducible exact LeO.refl _)
  | (with_reducible exact LeO.none _)
  | (with_reducible refine LeO.ite ?_ ?_)
  | (with_reducible refine LeO.bind ?_ (fun _ => ?_))
  | exact spec_GoodPlan.mono _ _
  | exact LeO.none _
  | refine LeO.ite ?_ ?_
  | refine LeO.bind ?_ (fun _ => ?_)
set_option maxHeartbeats 8000000 in
set_option maxRecDepth 100000 in
theorem spec_l17Fits.calls (k:Nat) (A0:Option Addr) (c0:Nat) (l0:List (S104)) (a1_0:Int) (a1_1:Int) (a1_2:Bool) (a1_3:Int) (a1_4:Int) (a1_5:Int) (a1_6:Int) (a1_7:Int) (a1_8:Int) (a1_9:ByteArray) (r:Bool) (w:World) (hr0:Kd.C k104 w A0 l0.length l0) (hc0:l0.length≤c0) (h:spec_l17Fits.f k l0 a1_0 a1_1 a1_2 a1_3 a1_4 a1_5 a1_6 a1_7 a1_8 a1_9=some r) :
  Calls Try.prog 118 #[.slice A0 l0.length c0,.agg #[.int .i64 a1_0,.int .i64 a1_1,.bool a1_2,.int .i64 a1_3,.int .i64 a1_4,.int .i64 a1_5,.int .i64 a1_6,.int .i64 a1_7,.int .i64 a1_8,.string a1_9]] w fun e w'=>e=.returned (.bool r)∧Below w.heap.size w w':=by
 have hu86:=Try.underlying86
 have HR0:=Aside0.mk hr0
 have HC0:=Aside0.mk hc0
 clear hr0 hc0
 have HB:=Aside0.mk (Below.refl w.heap.size w)
 have H:((spec_GoodPlan.f k l0).bind fun t154=>(if t154=true then ((spec_GoodBundle.f a1_0 a1_1 a1_2 a1_3 a1_4 a1_5 a1_6 a1_7 a1_8 a1_9).bind fun t155=>(if t155=true then (if a1_8=0 then ((spec_l6Node.f a1_0).bind fun t156=>(if t156=true then ((spec_l6When.f a1_3).bind fun t157=>(some t157)) else (some false))) else (some false)) else (some false))) else (some false)))=some r:=h
 clear h
 replace H:=Option.bind_eq_some_iff.mp H
 obtain⟨t154,A30,H⟩:=H
 have A3:=Aside0.mk A30
 clear A30
 by_cases c4:t154=true
 ·subst c4
  have H1:((spec_GoodBundle.f a1_0 a1_1 a1_2 a1_3 a1_4 a1_5 a1_6 a1_7 a1_8 a1_9).bind fun t155=>(if t155=true then (if a1_8=0 then ((spec_l6Node.f a1_0).bind fun t156=>(if t156=true then ((spec_l6When.f a1_3).bind fun t157=>(some t157)) else (some false))) else (some false)) else (some false)))=some r:=by rw[if_pos rfl] at H;exact H
  clear H
  have H:=H1
  clear H1
  replace H:=Option.bind_eq_some_iff.mp H
  obtain⟨t155,A50,H⟩:=H
  have A5:=Aside0.mk A50
  clear A50
  by_cases c6:t155=true
  ·subst c6
   have H1:(if a1_8=0 then ((spec_l6Node.f a1_0).bind fun t156=>(if t156=true then ((spec_l6When.f a1_3).bind fun t157=>(some t157)) else (some false))) else (some false))=some r:=by rw[if_pos rfl] at H;exact H
   clear H
   have H:=H1
   clear H1
   by_cases c7:a1_8=0
   ·rw[if_pos c7] at H
    have c7b0:(a1_8 == 0)=true:=beq_iff_eq.mpr c7
    have c7b1:(a1_8 != 0)=false:=bne_eq_false_iff_eq.mpr c7
    clear c7
    replace H:=Option.bind_eq_some_iff.mp H
    obtain⟨t156,A80,H⟩:=H
    have A8:=Aside0.mk A80
    clear A80
    by_cases c9:t156=true
    ·subst c9
     have H1:((spec_l6When.f a1_3).bind fun t157=>(some t157))=some r:=by rw[if_pos rfl] at H;exact H
     clear H
     have H:=H1
     clear H1
     replace H:=Option.bind_eq_some_iff.mp H
     obtain⟨t157,A100,H⟩:=H
     have A10:=Aside0.mk A100
     clear A100
     obtain rfl:=Option.some.inj H
     go_enter Try.func118,Try.ntmps118
     go_wp2_with (first|((with_reducible refine gate_dst (N:=3) rfl ?_);refine box_event ?hg (N:=3) ?hd (cs:=#[.int .i64 a1_0,.int .i64 a1_1,.bool a1_2,.int .i64 a1_3,.int .i64 a1_4,.int .i64 a1_5,.int .i64 a1_6,.int .i64 a1_7,.int .i64 a1_8,.string a1_9]) (t:=86) ?hr ?_;(case hd=>rfl);(case hg=>rfl);(case hr=>first|(go_simp;done)|(go_simp;rfl));intro gb153 hg w11 hbox hb;have n0_:=Aside0.mk (below_step (bB) hb);have n1_:=Aside0.mk (hbox);have n2_:=Aside0.mk ((bG:w.heap.size≤gb153));have n3_:=Aside0.mk ((bG:w.heap.size≤gb153));clear HB;have HB:=n0_;have BK153:=n1_;have GW153:=n2_;have GE153:=n3_;clear n0_ n1_ n2_ n3_;clear hb hbox hg)|((with_reducible refine gate_callee (f:=84) rfl ?_);refine goesA (some 6) rfl rfl Try.func84 #[.slice A0 l0.length c0] rfl ?_;(with_reducible refine(spec_GoodPlan.calls k _ _ l0 true _ ?side1 ?side2 A3.out).mono ?_);(case side1=>exact bC HR0.out);(case side2=>exact HC0.out);rintro e w12 ⟨rfl,hb⟩;refine⟨_,rfl,?_⟩;have n0_:=Aside0.mk (blk_below (g:=gb153) (o:=.cells #[.int .i64 a1_0,.int .i64 a1_1,.bool a1_2,.int .i64 a1_3,.int .i64 a1_4,.int .i64 a1_5,.int .i64 a1_6,.int .i64 a1_7,.int .i64 a1_8,.string a1_9] 86 (0,0)) (bL BK153.out) hb);have n1_:=Aside0.mk (below_step (bS GE153.out) hb);clear BK153 HB;have BK153:=n0_;have HB:=n1_;clear n0_ n1_;(try clear hb);(try clear hb2);(try clear hk);(try clear hi);have hcz13_0:w12.cell? ⟨gb153,0,none⟩=some (.int .i64 a1_0):=(blk_cell BK153.out 0).trans rfl;have hcz13_1:w12.cell? ⟨gb153,1,none⟩=some (.int .i64 a1_1):=(blk_cell BK153.out 1).trans rfl;have hcz13_2:w12.cell? ⟨gb153,2,none⟩=some (.bool a1_2):=(blk_cell BK153.out 2).trans rfl;have hcz13_3:w12.cell? ⟨gb153,3,none⟩=some (.int .i64 a1_3):=(blk_cell BK153.out 3).trans rfl;have hcz13_4:w12.cell? ⟨gb153,4,none⟩=some (.int .i64 a1_4):=(blk_cell BK153.out 4).trans rfl;have hcz13_5:w12.cell? ⟨gb153,5,none⟩=some (.int .i64 a1_5):=(blk_cell BK153.out 5).trans rfl;have hcz13_6:w12.cell? ⟨gb153,6,none⟩=some (.int .i64 a1_6):=(blk_cell BK153.out 6).trans rfl;have hcz13_7:w12.cell? ⟨gb153,7,none⟩=some (.int .i64 a1_7):=(blk_cell BK153.out 7).trans rfl;have hcz13_8:w12.cell? ⟨gb153,8,none⟩=some (.int .i64 a1_8):=(blk_cell BK153.out 8).trans rfl;have hcz13_9:w12.cell? ⟨gb153,9,none⟩=some (.string a1_9):=(blk_cell BK153.out 9).trans rfl;have hfz13_0:=blk_frozen BK153.out 0;have hfz13_1:=blk_frozen BK153.out 1;have hfz13_2:=blk_frozen BK153.out 2;have hfz13_3:=blk_frozen BK153.out 3;have hfz13_4:=blk_frozen BK153.out 4;have hfz13_5:=blk_frozen BK153.out 5;have hfz13_6:=blk_frozen BK153.out 6;have hfz13_7:=blk_frozen BK153.out 7;have hfz13_8:=blk_frozen BK153.out 8;have hfz13_9:=blk_frozen BK153.out 9)|(go_at_call 157;(with_reducible refine(spec_GoodBundle.calls a1_0 a1_1 a1_2 a1_3 a1_4 a1_5 a1_6 a1_7 a1_8 a1_9 true _ A5.out).mono ?_);rintro e w14 ⟨rfl,hb⟩;have n0_:=Aside0.mk (blk_below (g:=gb153) (o:=.cells #[.int .i64 a1_0,.int .i64 a1_1,.bool a1_2,.int .i64 a1_3,.int .i64 a1_4,.int .i64 a1_5,.int .i64 a1_6,.int .i64 a1_7,.int .i64 a1_8,.string a1_9] 86 (0,0)) (bL BK153.out) hb);have n1_:=Aside0.mk (below_step (bS GE153.out) hb);clear BK153 HB;have BK153:=n0_;have HB:=n1_;clear n0_ n1_;(try clear hb);(try clear hb2);(try clear hk);(try clear hi);have hcz15_0:w14.cell? ⟨gb153,0,none⟩=some (.int .i64 a1_0):=(blk_cell BK153.out 0).trans rfl;have hcz15_1:w14.cell? ⟨gb153,1,none⟩=some (.int .i64 a1_1):=(blk_cell BK153.out 1).trans rfl;have hcz15_2:w14.cell? ⟨gb153,2,none⟩=some (.bool a1_2):=(blk_cell BK153.out 2).trans rfl;have hcz15_3:w14.cell? ⟨gb153,3,none⟩=some (.int .i64 a1_3):=(blk_cell BK153.out 3).trans rfl;have hcz15_4:w14.cell? ⟨gb153,4,none⟩=some (.int .i64 a1_4):=(blk_cell BK153.out 4).trans rfl;have hcz15_5:w14.cell? ⟨gb153,5,none⟩=some (.int .i64 a1_5):=(blk_cell BK153.out 5).trans rfl;have hcz15_6:w14.cell? ⟨gb153,6,none⟩=some (.int .i64 a1_6):=(blk_cell BK153.out 6).trans rfl;have hcz15_7:w14.cell? ⟨gb153,7,none⟩=some (.int .i64 a1_7):=(blk_cell BK153.out 7).trans rfl;have hcz15_8:w14.cell? ⟨gb153,8,none⟩=some (.int .i64 a1_8):=(blk_cell BK153.out 8).trans rfl;have hcz15_9:w14.cell? ⟨gb153,9,none⟩=some (.string a1_9):=(blk_cell BK153.out 9).trans rfl;have hfz15_0:=blk_frozen BK153.out 0;have hfz15_1:=blk_frozen BK153.out 1;have hfz15_2:=blk_frozen BK153.out 2;have hfz15_3:=blk_frozen BK153.out 3;have hfz15_4:=blk_frozen BK153.out 4;have hfz15_5:=blk_frozen BK153.out 5;have hfz15_6:=blk_frozen BK153.out 6;have hfz15_7:=blk_frozen BK153.out 7;have hfz15_8:=blk_frozen BK153.out 8;have hfz15_9:=blk_frozen BK153.out 9)|(go_at_call 85;(with_reducible refine(spec_l6Node.calls a1_0 true _ A8.out).mono ?_);rintro e w' ⟨rfl,⟨nd,rfl⟩⟩)|(go_at_call 86;(with_reducible refine(spec_l6When.calls a1_3 t157 _ A10.out).mono ?_);rintro e w' ⟨rfl,⟨nd,rfl⟩⟩))
     go_ret
     exact⟨bE,bS GE153.out⟩
    ·replace c9:=Bool.eq_false_iff.mpr c9
     subst c9
     have H1:(some false)=some r:=by rw[if_neg (show ¬ (false=true) by decide)] at H;exact H
     clear H
     have H:=H1
     clear H1
     obtain rfl:=Option.some.inj H
     go_enter Try.func118,Try.ntmps118
     go_wp2_with (first|((with_reducible refine gate_dst (N:=3) rfl ?_);refine box_event ?hg (N:=3) ?hd (cs:=#[.int .i64 a1_0,.int .i64 a1_1,.bool a1_2,.int .i64 a1_3,.int .i64 a1_4,.int .i64 a1_5,.int .i64 a1_6,.int .i64 a1_7,.int .i64 a1_8,.string a1_9]) (t:=86) ?hr ?_;(case hd=>rfl);(case hg=>rfl);(case hr=>first|(go_simp;done)|(go_simp;rfl));intro gb153 hg w16 hbox hb;have n0_:=Aside0.mk (below_step (bB) hb);have n1_:=Aside0.mk (hbox);have n2_:=Aside0.mk ((bG:w.heap.size≤gb153));have n3_:=Aside0.mk ((bG:w.heap.size≤gb153));clear HB;have HB:=n0_;have BK153:=n1_;have GW153:=n2_;have GE153:=n3_;clear n0_ n1_ n2_ n3_;clear hb hbox hg)|((with_reducible refine gate_callee (f:=84) rfl ?_);refine goesA (some 6) rfl rfl Try.func84 #[.slice A0 l0.length c0] rfl ?_;(with_reducible refine(spec_GoodPlan.calls k _ _ l0 true _ ?side1 ?side2 A3.out).mono ?_);(case side1=>exact bC HR0.out);(case side2=>exact HC0.out);rintro e w17 ⟨rfl,hb⟩;refine⟨_,rfl,?_⟩;have n0_:=Aside0.mk (blk_below (g:=gb153) (o:=.cells #[.int .i64 a1_0,.int .i64 a1_1,.bool a1_2,.int .i64 a1_3,.int .i64 a1_4,.int .i64 a1_5,.int .i64 a1_6,.int .i64 a1_7,.int .i64 a1_8,.string a1_9] 86 (0,0)) (bL BK153.out) hb);have n1_:=Aside0.mk (below_step (bS GE153.out) hb);clear BK153 HB;have BK153:=n0_;have HB:=n1_;clear n0_ n1_;(try clear hb);(try clear hb2);(try clear hk);(try clear hi);have hcz18_0:w17.cell? ⟨gb153,0,none⟩=some (.int .i64 a1_0):=(blk_cell BK153.out 0).trans rfl;have hcz18_1:w17.cell? ⟨gb153,1,none⟩=some (.int .i64 a1_1):=(blk_cell BK153.out 1).trans rfl;have hcz18_2:w17.cell? ⟨gb153,2,none⟩=some (.bool a1_2):=(blk_cell BK153.out 2).trans rfl;have hcz18_3:w17.cell? ⟨gb153,3,none⟩=some (.int .i64 a1_3):=(blk_cell BK153.out 3).trans rfl;have hcz18_4:w17.cell? ⟨gb153,4,none⟩=some (.int .i64 a1_4):=(blk_cell BK153.out 4).trans rfl;have hcz18_5:w17.cell? ⟨gb153,5,none⟩=some (.int .i64 a1_5):=(blk_cell BK153.out 5).trans rfl;have hcz18_6:w17.cell? ⟨gb153,6,none⟩=some (.int .i64 a1_6):=(blk_cell BK153.out 6).trans rfl;have hcz18_7:w17.cell? ⟨gb153,7,none⟩=some (.int .i64 a1_7):=(blk_cell BK153.out 7).trans rfl;have hcz18_8:w17.cell? ⟨gb153,8,none⟩=some (.int .i64 a1_8):=(blk_cell BK153.out 8).trans rfl;have hcz18_9:w17.cell? ⟨gb153,9,none⟩=some (.string a1_9):=(blk_cell BK153.out 9).trans rfl;have hfz18_0:=blk_frozen BK153.out 0;have hfz18_1:=blk_frozen BK153.out 1;have hfz18_2:=blk_frozen BK153.out 2;have hfz18_3:=blk_frozen BK153.out 3;have hfz18_4:=blk_frozen BK153.out 4;have hfz18_5:=blk_frozen BK153.out 5;have hfz18_6:=blk_frozen BK153.out 6;have hfz18_7:=blk_frozen BK153.out 7;have hfz18_8:=blk_frozen BK153.out 8;have hfz18_9:=blk_frozen BK153.out 9)|(go_at_call 157;(with_reducible refine(spec_GoodBundle.calls a1_0 a1_1 a1_2 a1_3 a1_4 a1_5 a1_6 a1_7 a1_8 a1_9 true _ A5.out).mono ?_);rintro e w19 ⟨rfl,hb⟩;have n0_:=Aside0.mk (blk_below (g:=gb153) (o:=.cells #[.int .i64 a1_0,.int .i64 a1_1,.bool a1_2,.int .i64 a1_3,.int .i64 a1_4,.int .i64 a1_5,.int .i64 a1_6,.int .i64 a1_7,.int .i64 a1_8,.string a1_9] 86 (0,0)) (bL BK153.out) hb);have n1_:=Aside0.mk (below_step (bS GE153.out) hb);clear BK153 HB;have BK153:=n0_;have HB:=n1_;clear n0_ n1_;(try clear hb);(try clear hb2);(try clear hk);(try clear hi);have hcz20_0:w19.cell? ⟨gb153,0,none⟩=some (.int .i64 a1_0):=(blk_cell BK153.out 0).trans rfl;have hcz20_1:w19.cell? ⟨gb153,1,none⟩=some (.int .i64 a1_1):=(blk_cell BK153.out 1).trans rfl;have hcz20_2:w19.cell? ⟨gb153,2,none⟩=some (.bool a1_2):=(blk_cell BK153.out 2).trans rfl;have hcz20_3:w19.cell? ⟨gb153,3,none⟩=some (.int .i64 a1_3):=(blk_cell BK153.out 3).trans rfl;have hcz20_4:w19.cell? ⟨gb153,4,none⟩=some (.int .i64 a1_4):=(blk_cell BK153.out 4).trans rfl;have hcz20_5:w19.cell? ⟨gb153,5,none⟩=some (.int .i64 a1_5):=(blk_cell BK153.out 5).trans rfl;have hcz20_6:w19.cell? ⟨gb153,6,none⟩=some (.int .i64 a1_6):=(blk_cell BK153.out 6).trans rfl;have hcz20_7:w19.cell? ⟨gb153,7,none⟩=some (.int .i64 a1_7):=(blk_cell BK153.out 7).trans rfl;have hcz20_8:w19.cell? ⟨gb153,8,none⟩=some (.int .i64 a1_8):=(blk_cell BK153.out 8).trans rfl;have hcz20_9:w19.cell? ⟨gb153,9,none⟩=some (.string a1_9):=(blk_cell BK153.out 9).trans rfl;have hfz20_0:=blk_frozen BK153.out 0;have hfz20_1:=blk_frozen BK153.out 1;have hfz20_2:=blk_frozen BK153.out 2;have hfz20_3:=blk_frozen BK153.out 3;have hfz20_4:=blk_frozen BK153.out 4;have hfz20_5:=blk_frozen BK153.out 5;have hfz20_6:=blk_frozen BK153.out 6;have hfz20_7:=blk_frozen BK153.out 7;have hfz20_8:=blk_frozen BK153.out 8;have hfz20_9:=blk_frozen BK153.out 9)|(go_at_call 85;(with_reducible refine(spec_l6Node.calls a1_0 false _ A8.out).mono ?_);rintro e w' ⟨rfl,⟨nd,rfl⟩⟩))
     go_ret
     exact⟨bE,bS GE153.out⟩
   ·rw[if_neg c7] at H
    have c7b0:(a1_8 == 0)=false:=beq_eq_false_iff_ne.mpr c7
    have c7b1:(a1_8 != 0)=true:=bne_iff_ne.mpr c7
    obtain rfl:=Option.some.inj H
    go_enter Try.func118,Try.ntmps118
    go_wp2_with (first|((with_reducible refine gate_dst (N:=3) rfl ?_);refine box_event ?hg (N:=3) ?hd (cs:=#[.int .i64 a1_0,.int .i64 a1_1,.bool a1_2,.int .i64 a1_3,.int .i64 a1_4,.int .i64 a1_5,.int .i64 a1_6,.int .i64 a1_7,.int .i64 a1_8,.string a1_9]) (t:=86) ?hr ?_;(case hd=>rfl);(case hg=>rfl);(case hr=>first|(go_simp;done)|(go_simp;rfl));intro gb153 hg w21 hbox hb;have n0_:=Aside0.mk (below_step (bB) hb);have n1_:=Aside0.mk (hbox);have n2_:=Aside0.mk ((bG:w.heap.size≤gb153));have n3_:=Aside0.mk ((bG:w.heap.size≤gb153));clear HB;have HB:=n0_;have BK153:=n1_;have GW153:=n2_;have GE153:=n3_;clear n0_ n1_ n2_ n3_;clear hb hbox hg)|((with_reducible refine gate_callee (f:=84) rfl ?_);refine goesA (some 6) rfl rfl Try.func84 #[.slice A0 l0.length c0] rfl ?_;(with_reducible refine(spec_GoodPlan.calls k _ _ l0 true _ ?side1 ?side2 A3.out).mono ?_);(case side1=>exact bC HR0.out);(case side2=>exact HC0.out);rintro e w22 ⟨rfl,hb⟩;refine⟨_,rfl,?_⟩;have n0_:=Aside0.mk (blk_below (g:=gb153) (o:=.cells #[.int .i64 a1_0,.int .i64 a1_1,.bool a1_2,.int .i64 a1_3,.int .i64 a1_4,.int .i64 a1_5,.int .i64 a1_6,.int .i64 a1_7,.int .i64 a1_8,.string a1_9] 86 (0,0)) (bL BK153.out) hb);have n1_:=Aside0.mk (below_step (bS GE153.out) hb);clear BK153 HB;have BK153:=n0_;have HB:=n1_;clear n0_ n1_;(try clear hb);(try clear hb2);(try clear hk);(try clear hi);have hcz23_0:w22.cell? ⟨gb153,0,none⟩=some (.int .i64 a1_0):=(blk_cell BK153.out 0).trans rfl;have hcz23_1:w22.cell? ⟨gb153,1,none⟩=some (.int .i64 a1_1):=(blk_cell BK153.out 1).trans rfl;have hcz23_2:w22.cell? ⟨gb153,2,none⟩=some (.bool a1_2):=(blk_cell BK153.out 2).trans rfl;have hcz23_3:w22.cell? ⟨gb153,3,none⟩=some (.int .i64 a1_3):=(blk_cell BK153.out 3).trans rfl;have hcz23_4:w22.cell? ⟨gb153,4,none⟩=some (.int .i64 a1_4):=(blk_cell BK153.out 4).trans rfl;have hcz23_5:w22.cell? ⟨gb153,5,none⟩=some (.int .i64 a1_5):=(blk_cell BK153.out 5).trans rfl;have hcz23_6:w22.cell? ⟨gb153,6,none⟩=some (.int .i64 a1_6):=(blk_cell BK153.out 6).trans rfl;have hcz23_7:w22.cell? ⟨gb153,7,none⟩=some (.int .i64 a1_7):=(blk_cell BK153.out 7).trans rfl;have hcz23_8:w22.cell? ⟨gb153,8,none⟩=some (.int .i64 a1_8):=(blk_cell BK153.out 8).trans rfl;have hcz23_9:w22.cell? ⟨gb153,9,none⟩=some (.string a1_9):=(blk_cell BK153.out 9).trans rfl;have hfz23_0:=blk_frozen BK153.out 0;have hfz23_1:=blk_frozen BK153.out 1;have hfz23_2:=blk_frozen BK153.out 2;have hfz23_3:=blk_frozen BK153.out 3;have hfz23_4:=blk_frozen BK153.out 4;have hfz23_5:=blk_frozen BK153.out 5;have hfz23_6:=blk_frozen BK153.out 6;have hfz23_7:=blk_frozen BK153.out 7;have hfz23_8:=blk_frozen BK153.out 8;have hfz23_9:=blk_frozen BK153.out 9)|(go_at_call 157;(with_reducible refine(spec_GoodBundle.calls a1_0 a1_1 a1_2 a1_3 a1_4 a1_5 a1_6 a1_7 a1_8 a1_9 true _ A5.out).mono ?_);rintro e w24 ⟨rfl,hb⟩;have n0_:=Aside0.mk (blk_below (g:=gb153) (o:=.cells #[.int .i64 a1_0,.int .i64 a1_1,.bool a1_2,.int .i64 a1_3,.int .i64 a1_4,.int .i64 a1_5,.int .i64 a1_6,.int .i64 a1_7,.int .i64 a1_8,.string a1_9] 86 (0,0)) (bL BK153.out) hb);have n1_:=Aside0.mk (below_step (bS GE153.out) hb);clear BK153 HB;have BK153:=n0_;have HB:=n1_;clear n0_ n1_;(try clear hb);(try clear hb2);(try clear hk);(try clear hi);have hcz25_0:w24.cell? ⟨gb153,0,none⟩=some (.int .i64 a1_0):=(blk_cell BK153.out 0).trans rfl;have hcz25_1:w24.cell? ⟨gb153,1,none⟩=some (.int .i64 a1_1):=(blk_cell BK153.out 1).trans rfl;have hcz25_2:w24.cell? ⟨gb153,2,none⟩=some (.bool a1_2):=(blk_cell BK153.out 2).trans rfl;have hcz25_3:w24.cell? ⟨gb153,3,none⟩=some (.int .i64 a1_3):=(blk_cell BK153.out 3).trans rfl;have hcz25_4:w24.cell? ⟨gb153,4,none⟩=some (.int .i64 a1_4):=(blk_cell BK153.out 4).trans rfl;have hcz25_5:w24.cell? ⟨gb153,5,none⟩=some (.int .i64 a1_5):=(blk_cell BK153.out 5).trans rfl;have hcz25_6:w24.cell? ⟨gb153,6,none⟩=some (.int .i64 a1_6):=(blk_cell BK153.out 6).trans rfl;have hcz25_7:w24.cell? ⟨gb153,7,none⟩=some (.int .i64 a1_7):=(blk_cell BK153.out 7).trans rfl;have hcz25_8:w24.cell? ⟨gb153,8,none⟩=some (.int .i64 a1_8):=(blk_cell BK153.out 8).trans rfl;have hcz25_9:w24.cell? ⟨gb153,9,none⟩=some (.string a1_9):=(blk_cell BK153.out 9).trans rfl;have hfz25_0:=blk_frozen BK153.out 0;have hfz25_1:=blk_frozen BK153.out 1;have hfz25_2:=blk_frozen BK153.out 2;have hfz25_3:=blk_frozen BK153.out 3;have hfz25_4:=blk_frozen BK153.out 4;have hfz25_5:=blk_frozen BK153.out 5;have hfz25_6:=blk_frozen BK153.out 6;have hfz25_7:=blk_frozen BK153.out 7;have hfz25_8:=blk_frozen BK153.out 8;have hfz25_9:=blk_frozen BK153.out 9))
    go_ret
    exact⟨bE,bS GE153.out⟩
  ·replace c6:=Bool.eq_false_iff.mpr c6
   subst c6
   have H1:(some false)=some r:=by rw[if_neg (show ¬ (false=true) by decide)] at H;exact H
   clear H
   have H:=H1
   clear H1
   obtain rfl:=Option.some.inj H
   go_enter Try.func118,Try.ntmps118
   go_wp2_with (first|((with_reducible refine gate_dst (N:=3) rfl ?_);refine box_event ?hg (N:=3) ?hd (cs:=#[.int .i64 a1_0,.int .i64 a1_1,.bool a1_2,.int .i64 a1_3,.int .i64 a1_4,.int .i64 a1_5,.int .i64 a1_6,.int .i64 a1_7,.int .i64 a1_8,.string a1_9]) (t:=86) ?hr ?_;(case hd=>rfl);(case hg=>rfl);(case hr=>first|(go_simp;done)|(go_simp;rfl));intro gb153 hg w26 hbox hb;have n0_:=Aside0.mk (below_step (bB) hb);have n1_:=Aside0.mk (hbox);have n2_:=Aside0.mk ((bG:w.heap.size≤gb153));have n3_:=Aside0.mk ((bG:w.heap.size≤gb153));clear HB;have HB:=n0_;have BK153:=n1_;have GW153:=n2_;have GE153:=n3_;clear n0_ n1_ n2_ n3_;clear hb hbox hg)|((with_reducible refine gate_callee (f:=84) rfl ?_);refine goesA (some 6) rfl rfl Try.func84 #[.slice A0 l0.length c0] rfl ?_;(with_reducible refine(spec_GoodPlan.calls k _ _ l0 true _ ?side1 ?side2 A3.out).mono ?_);(case side1=>exact bC HR0.out);(case side2=>exact HC0.out);rintro e w27 ⟨rfl,hb⟩;refine⟨_,rfl,?_⟩;have n0_:=Aside0.mk (blk_below (g:=gb153) (o:=.cells #[.int .i64 a1_0,.int .i64 a1_1,.bool a1_2,.int .i64 a1_3,.int .i64 a1_4,.int .i64 a1_5,.int .i64 a1_6,.int .i64 a1_7,.int .i64 a1_8,.string a1_9] 86 (0,0)) (bL BK153.out) hb);have n1_:=Aside0.mk (below_step (bS GE153.out) hb);clear BK153 HB;have BK153:=n0_;have HB:=n1_;clear n0_ n1_;(try clear hb);(try clear hb2);(try clear hk);(try clear hi);have hcz28_0:w27.cell? ⟨gb153,0,none⟩=some (.int .i64 a1_0):=(blk_cell BK153.out 0).trans rfl;have hcz28_1:w27.cell? ⟨gb153,1,none⟩=some (.int .i64 a1_1):=(blk_cell BK153.out 1).trans rfl;have hcz28_2:w27.cell? ⟨gb153,2,none⟩=some (.bool a1_2):=(blk_cell BK153.out 2).trans rfl;have hcz28_3:w27.cell? ⟨gb153,3,none⟩=some (.int .i64 a1_3):=(blk_cell BK153.out 3).trans rfl;have hcz28_4:w27.cell? ⟨gb153,4,none⟩=some (.int .i64 a1_4):=(blk_cell BK153.out 4).trans rfl;have hcz28_5:w27.cell? ⟨gb153,5,none⟩=some (.int .i64 a1_5):=(blk_cell BK153.out 5).trans rfl;have hcz28_6:w27.cell? ⟨gb153,6,none⟩=some (.int .i64 a1_6):=(blk_cell BK153.out 6).trans rfl;have hcz28_7:w27.cell? ⟨gb153,7,none⟩=some (.int .i64 a1_7):=(blk_cell BK153.out 7).trans rfl;have hcz28_8:w27.cell? ⟨gb153,8,none⟩=some (.int .i64 a1_8):=(blk_cell BK153.out 8).trans rfl;have hcz28_9:w27.cell? ⟨gb153,9,none⟩=some (.string a1_9):=(blk_cell BK153.out 9).trans rfl;have hfz28_0:=blk_frozen BK153.out 0;have hfz28_1:=blk_frozen BK153.out 1;have hfz28_2:=blk_frozen BK153.out 2;have hfz28_3:=blk_frozen BK153.out 3;have hfz28_4:=blk_frozen BK153.out 4;have hfz28_5:=blk_frozen BK153.out 5;have hfz28_6:=blk_frozen BK153.out 6;have hfz28_7:=blk_frozen BK153.out 7;have hfz28_8:=blk_frozen BK153.out 8;have hfz28_9:=blk_frozen BK153.out 9)|(go_at_call 157;(with_reducible refine(spec_GoodBundle.calls a1_0 a1_1 a1_2 a1_3 a1_4 a1_5 a1_6 a1_7 a1_8 a1_9 false _ A5.out).mono ?_);rintro e w29 ⟨rfl,hb⟩;have n0_:=Aside0.mk (blk_below (g:=gb153) (o:=.cells #[.int .i64 a1_0,.int .i64 a1_1,.bool a1_2,.int .i64 a1_3,.int .i64 a1_4,.int .i64 a1_5,.int .i64 a1_6,.int .i64 a1_7,.int .i64 a1_8,.string a1_9] 86 (0,0)) (bL BK153.out) hb);have n1_:=Aside0.mk (below_step (bS GE153.out) hb);clear BK153 HB;have BK153:=n0_;have HB:=n1_;clear n0_ n1_;(try clear hb);(try clear hb2);(try clear hk);(try clear hi)))
   go_ret
   exact⟨bE,bS GE153.out⟩
 ·replace c4:=Bool.eq_false_iff.mpr c4
  subst c4
  have H1:(some false)=some r:=by rw[if_neg (show ¬ (false=true) by decide)] at H;exact H
  clear H
  have H:=H1
  clear H1
  obtain rfl:=Option.some.inj H
  go_enter Try.func118,Try.ntmps118
  go_wp2_with (first|((with_reducible refine gate_dst (N:=3) rfl ?_);refine box_event ?hg (N:=3) ?hd (cs:=#[.int .i64 a1_0,.int .i64 a1_1,.bool a1_2,.int .i64 a1_3,.int .i64 a1_4,.int .i64 a1_5,.int .i64 a1_6,.int .i64 a1_7,.int .i64 a1_8,.string a1_9]) (t:=86) ?hr ?_;(case hd=>rfl);(case hg=>rfl);(case hr=>first|(go_simp;done)|(go_simp;rfl));intro gb153 hg w30 hbox hb;have n0_:=Aside0.mk (below_step (bB) hb);have n1_:=Aside0.mk (hbox);have n2_:=Aside0.mk ((bG:w.heap.size≤gb153));have n3_:=Aside0.mk ((bG:w.heap.size≤gb153));clear HB;have HB:=n0_;have BK153:=n1_;have GW153:=n2_;have GE153:=n3_;clear n0_ n1_ n2_ n3_;clear hb hbox hg)|((with_reducible refine gate_callee (f:=84) rfl ?_);refine goesA (some 6) rfl rfl Try.func84 #[.slice A0 l0.length c0] rfl ?_;(with_reducible refine(spec_GoodPlan.calls k _ _ l0 false _ ?side1 ?side2 A3.out).mono ?_);(case side1=>exact bC HR0.out);(case side2=>exact HC0.out);rintro e w31 ⟨rfl,hb⟩;refine⟨_,rfl,?_⟩;have n0_:=Aside0.mk (blk_below (g:=gb153) (o:=.cells #[.int .i64 a1_0,.int .i64 a1_1,.bool a1_2,.int .i64 a1_3,.int .i64 a1_4,.int .i64 a1_5,.int .i64 a1_6,.int .i64 a1_7,.int .i64 a1_8,.string a1_9] 86 (0,0)) (bL BK153.out) hb);have n1_:=Aside0.mk (below_step (bS GE153.out) hb);clear BK153 HB;have BK153:=n0_;have HB:=n1_;clear n0_ n1_;(try clear hb);(try clear hb2);(try clear hk);(try clear hi)))
  go_ret
  exact⟨bE,bS GE153.out⟩

/-! ### spec_l1Some: function 132 -/
def spec_l1Some.l0:Nat→List Int→Int→List Int→Int→Int→Option (Bool)
 | 0,_,_,_,_,_=>none
 | k+1,x0,x1,x7,x8,x9=>if x9 < x8 then (if 0≤x9 then (if x9 < (x7.length:Int) then (if (rd x7 x9) < 0 then (some false) else (if (rd x7 x9) ≥ x1 then (some false) else (if x9 > 0 then (if 0≤(wrap64 (x9 - 1)) then (if (wrap64 (x9 - 1)) < (x0.length:Int) then (if (rd x0 (wrap64 (x9 - 1))) ≥ (rd x7 x9) then (some false) else (spec_l1Some.l0 k x0 x1 x7 x8 (wrap64 (x9+1)))) else (none)) else (none)) else (spec_l1Some.l0 k x0 x1 x7 x8 (wrap64 (x9+1)))))) else (none)) else (none)) else (some true)
def spec_l1Some.f (k:Nat) (l0:List Int) (a1:Int):Option (Bool):=spec_l1Some.l0 k l0 a1 l0 (l0.length:Int) 0
theorem spec_l1Some.mono_l : ∀ k,(∀ y0 y1 y2 y3 y4,LeO (spec_l1Some.l0 k y0 y1 y2 y3 y4) (spec_l1Some.l0 (k+1) y0 y1 y2 y3 y4))
 | 0=>fun _ _ _ _ _ r h=>by simp[spec_l1Some.l0] at h
 | k+1=>by
  have ih0:=spec_l1Some.mono_l k
  ·intro y0 y1 y2 y3 y4
   unfold spec_l1Some.l0
   repeat' first
   | (with_reducible exact ih0 _ _ _ _ _)
   | (with_reducible exact LeO.refl _)
   | (with_reducible exact LeO.none _)
   | (with_reducible refine LeO.ite ?_ ?_)
   | (with_reducible refine LeO.bind ?_ (fun _ => ?_))
   | exact ih0 _ _ _ _ _
   | exact LeO.none _
   | refine LeO.ite ?_ ?_
   | refine LeO.bind ?_ (fun _ => ?_)
theorem spec_l1Some.mono : ∀ a0 a1 k,LeO (spec_l1Some.f k a0 a1) (spec_l1Some.f (k+1) a0 a1):=by
 intro a0 a1 k
 have ih0:=spec_l1Some.mono_l k
 unfold spec_l1Some.f
 repeat' first
  | (with_reducible exact ih0 _ _ _ _ _)
  | (with_reducible exact LeO.refl _)
  | (with_reducible exact LeO.none _)
  | (with_reducible refine LeO.ite ?_ ?_)
  | (with_reducible refine LeO.bind ?_ (fun _ => ?_))
  | exact ih0 _ _ _ _ _
  | exact LeO.none _
  | refine LeO.ite ?_ ?_
  | refine LeO.bind ?_ (fun _ => ?_)
set_option maxHeartbeats 8000000 in
set_option maxRecDepth 100000 in
theorem spec_l1Some.calls (k:Nat) (A0:Option Addr) (c0:Nat) (l0:List Int) (a1:Int) (r:Bool) (w:World) (hr0:Kd.C (Kd.int .i64) w A0 l0.length l0) (hc0:l0.length≤c0) (h:spec_l1Some.f k l0 a1=some r) :
  Calls Try.prog 132 #[.slice A0 l0.length c0,.int .i64 a1] w fun e w'=>e=.returned (.bool r)∧Drawn0 w w':=by
 have HR0:=Aside0.mk hr0
 have HC0:=Aside0.mk hc0
 clear hr0 hc0
 have H:(spec_l1Some.l0 k l0 a1 l0 (l0.length:Int) 0)=some r:=h
 clear h
 have H':=Aside0.mk H
 clear H
 go_enter Try.func132,Try.ntmps132
 go_wp2
 go_loopg [9] k (fun kq v9 w' => ∃ (x9_1:Int),v9=.int .i64 x9_1∧Aside0 (spec_l1Some.l0 kq l0 a1 l0 (l0.length:Int) x9_1=some r)∧Aside0 (kq≤k)∧Drawn0 w w')
 case atStart=>exact⟨(0),(bR),H',⟨Nat.le_refl _⟩,bW⟩
 case round =>
  clear H'
  try clear c1
  try clear p2
  obtain⟨x9_1,rfl,HA,HK1,⟨m1,rfl⟩⟩:=hrel
  cases gk with
  | zero=>exact absurd HA.out (by simp[spec_l1Some.l0])
  | succ k1 =>
   have H:=HA.out
   clear HA
   simp only[spec_l1Some.l0] at H
   by_cases c3:x9_1 < (l0.length:Int)
   ·rw[if_pos c3] at H
    have c3b0:decide (x9_1 < (l0.length:Int))=true:=decide_eq_true c3
    clear c3
    by_cases c4:0≤x9_1
    ·rw[if_pos c4] at H
     have c4b0:decide (0≤x9_1)=true:=decide_eq_true c4
     clear c4
     by_cases c5:x9_1 < (l0.length:Int)
     ·rw[if_pos c5] at H
      have c5b0:decide (x9_1 < (l0.length:Int))=true:=decide_eq_true c5
      clear c5
      by_cases c6:(rd l0 x9_1) < 0
      ·rw[if_pos c6] at H
       have c6b0:decide ((rd l0 x9_1) < 0)=true:=decide_eq_true c6
       clear c6
       obtain rfl:=Option.some.inj H
       have p158:0≤(x9_1:Int):=of_decide_eq_true (bD)
       have q158:x9_1 < (l0.length:Int):=of_decide_eq_true (bD)
       obtain⟨ad158,e158,hx158_0⟩:=Kd.at_int HR0.out x9_1 p158 q158
       cases e158
       replace p158:=eq_true p158
       replace q158:=eq_true q158
       go_wp2
       go_ret
       exact⟨bR,bW⟩
      ·rw[if_neg c6] at H
       have c6b0:decide ((rd l0 x9_1) < 0)=false:=decide_eq_false c6
       clear c6
       by_cases c7:(rd l0 x9_1) ≥ a1
       ·rw[if_pos c7] at H
        have c7b0:decide (a1≤(rd l0 x9_1))=true:=decide_eq_true c7
        clear c7
        obtain rfl:=Option.some.inj H
        have p158:0≤(x9_1:Int):=of_decide_eq_true (bD)
        have q158:x9_1 < (l0.length:Int):=of_decide_eq_true (bD)
        obtain⟨ad158,e158,hx158_0⟩:=Kd.at_int HR0.out x9_1 p158 q158
        cases e158
        replace p158:=eq_true p158
        replace q158:=eq_true q158
        go_wp2
        go_ret
        exact⟨bR,bW⟩
       ·rw[if_neg c7] at H
        have c7b0:decide (a1≤(rd l0 x9_1))=false:=decide_eq_false c7
        clear c7
        by_cases c8:x9_1 > 0
        ·rw[if_pos c8] at H
         have c8b0:decide (0 < x9_1)=true:=decide_eq_true c8
         clear c8
         obtain⟨ji9,hji9⟩ : ∃ j_:Int,(wrap64 (x9_1 - 1))=j_:=⟨_,rfl⟩
         replace H:(if 0≤(ji9) then (if (ji9) < (l0.length:Int) then (if (rd l0 (ji9)) ≥ (rd l0 x9_1) then (some false) else (spec_l1Some.l0 k1 l0 a1 l0 (l0.length:Int) (wrap64 (x9_1+1)))) else (none)) else (none))=some r:=by first|(rw[hji9] at H;exact H)|(simp only[hji9] at H ⊢;exact H)
         have hji9w:(IntKind.i64.wrap (x9_1 - 1))=ji9:=(i64_w _).trans hji9
         by_cases c10:0≤(ji9)
         ·rw[if_pos c10] at H
          have c10b0:decide (0≤(ji9))=true:=decide_eq_true c10
          clear c10
          by_cases c11:(ji9) < (l0.length:Int)
          ·rw[if_pos c11] at H
           have c11b0:decide ((ji9) < (l0.length:Int))=true:=decide_eq_true c11
           clear c11
           by_cases c12:(rd l0 (ji9)) ≥ (rd l0 x9_1)
           ·rw[if_pos c12] at H
            have c12b0:decide ((rd l0 x9_1)≤(rd l0 (ji9)))=true:=decide_eq_true c12
            clear c12
            obtain rfl:=Option.some.inj H
            have p158:0≤(x9_1:Int):=of_decide_eq_true (bD)
            have q158:x9_1 < (l0.length:Int):=of_decide_eq_true (bD)
            obtain⟨ad158,e158,hx158_0⟩:=Kd.at_int HR0.out x9_1 p158 q158
            cases e158
            replace p158:=eq_true p158
            replace q158:=eq_true q158
            have p159:0≤((ji9):Int):=of_decide_eq_true (bD)
            have q159:(ji9) < (l0.length:Int):=of_decide_eq_true (bD)
            obtain⟨ad159,e159,hx159_0⟩:=Kd.at_int HR0.out (ji9) p159 q159
            obtain rfl:ad158=ad159:=(by injection e159)
            replace p159:=eq_true p159
            replace q159:=eq_true q159
            go_wp2
            go_ret
            exact⟨by first|rfl|(simp;done)|(simp only[← hji9]<;>(first|rfl|simp))|(simp[*];done),bW⟩
           ·rw[if_neg c12] at H
            have c12b0:decide ((rd l0 x9_1)≤(rd l0 (ji9)))=false:=decide_eq_false c12
            clear c12
            have H':=Aside0.mk H
            clear H
            have p158:0≤(x9_1:Int):=of_decide_eq_true (bD)
            have q158:x9_1 < (l0.length:Int):=of_decide_eq_true (bD)
            obtain⟨ad158,e158,hx158_0⟩:=Kd.at_int HR0.out x9_1 p158 q158
            cases e158
            replace p158:=eq_true p158
            replace q158:=eq_true q158
            have p159:0≤((ji9):Int):=of_decide_eq_true (bD)
            have q159:(ji9) < (l0.length:Int):=of_decide_eq_true (bD)
            obtain⟨ad159,e159,hx159_0⟩:=Kd.at_int HR0.out (ji9) p159 q159
            obtain rfl:ad158=ad159:=(by injection e159)
            replace p159:=eq_true p159
            replace q159:=eq_true q159
            go_wp2
            go_roundg k1
            case measure=>have:=HK1.out;omega
            case rel=>exact⟨(wrap64 (x9_1+1)),(bR),H',⟨by have:=HK1.out;omega⟩,bW⟩
          ·rw[if_neg c11] at H
           exact absurd H (by simp)
         ·rw[if_neg c10] at H
          exact absurd H (by simp)
        ·rw[if_neg c8] at H
         have c8b0:decide (0 < x9_1)=false:=decide_eq_false c8
         clear c8
         have H':=Aside0.mk H
         clear H
         have p158:0≤(x9_1:Int):=of_decide_eq_true (bD)
         have q158:x9_1 < (l0.length:Int):=of_decide_eq_true (bD)
         obtain⟨ad158,e158,hx158_0⟩:=Kd.at_int HR0.out x9_1 p158 q158
         cases e158
         replace p158:=eq_true p158
         replace q158:=eq_true q158
         go_wp2
         go_roundg k1
         case measure=>have:=HK1.out;omega
         case rel=>exact⟨(wrap64 (x9_1+1)),(bR),H',⟨by have:=HK1.out;omega⟩,bW⟩
     ·rw[if_neg c5] at H
      exact absurd H (by simp)
    ·rw[if_neg c4] at H
     exact absurd H (by simp)
   ·rw[if_neg c3] at H
    have c3b0:decide (x9_1 < (l0.length:Int))=false:=decide_eq_false c3
    clear c3
    obtain rfl:=Option.some.inj H
    go_wp2
    go_ret
    exact⟨bR,bW⟩

/-! ### spec_l17Ask: function 123 -/
def spec_l17Ask.f (k:Nat) (l0:List (S104)) (a1_0:Int) (a1_1:Int) (a1_2:Bool) (a1_3:Int) (a1_4:Int) (a1_5:Int) (a1_6:Int) (a1_7:Int) (a1_8:Int) (a1_9:ByteArray) (l2:List Int):Option (Bool):=(spec_l17Fits.f k l0 a1_0 a1_1 a1_2 a1_3 a1_4 a1_5 a1_6 a1_7 a1_8 a1_9).bind fun t161=>(if t161=true then ((spec_l1Some.f k l2 8).bind fun t162=>(some t162)) else (some false))
theorem spec_l17Ask.mono : ∀ a0 a1 a2 a3 a4 a5 a6 a7 a8 a9 a10 a11 k,LeO (spec_l17Ask.f k a0 a1 a2 a3 a4 a5 a6 a7 a8 a9 a10 a11) (spec_l17Ask.f (k+1) a0 a1 a2 a3 a4 a5 a6 a7 a8 a9 a10 a11):=by
 intro a0 a1 a2 a3 a4 a5 a6 a7 a8 a9 a10 a11 k
 unfold spec_l17Ask.f
 repeat' first
  | (with_reducible exact spec_l17Fits.mono _ _ _ _ _ _ _ _ _ _ _ _)
  | (with_reducible exact spec_l1Some.mono _ _ _)
  | (with_reducible exact LeO.refl _)
  | (with_reducible exact LeO.none _)
  | (with_reducible refine LeO.ite ?_ ?_)
  | (with_reducible refine LeO.bind ?_ (fun _ => ?_))
  | exact spec_l17Fits.mono _ _ _ _ _ _ _ _ _ _ _ _
  | exact spec_l1Some.mono _ _ _
  | exact LeO.none _
  | refine LeO.ite ?_ ?_
  | refine LeO.bind ?_ (fun _ => ?_)
set_option maxHeartbeats 8000000 in
set_option maxRecDepth 100000 in
theorem spec_l17Ask.calls (k:Nat) (A0:Option Addr) (c0:Nat) (l0:List (S104)) (a1_0:Int) (a1_1:Int) (a1_2:Bool) (a1_3:Int) (a1_4:Int) (a1_5:Int) (a1_6:Int) (a1_7:Int) (a1_8:Int) (a1_9:ByteArray) (A2:Option Addr) (c2:Nat) (l2:List Int) (r:Bool) (w:World) (hr0:Kd.C k104 w A0 l0.length l0) (hc0:l0.length≤c0) (hr2:Kd.C (Kd.int .i64) w A2 l2.length l2) (hc2:l2.length≤c2) (h:spec_l17Ask.f k l0 a1_0 a1_1 a1_2 a1_3 a1_4 a1_5 a1_6 a1_7 a1_8 a1_9 l2=some r) :
  Calls Try.prog 123 #[.slice A0 l0.length c0,.agg #[.int .i64 a1_0,.int .i64 a1_1,.bool a1_2,.int .i64 a1_3,.int .i64 a1_4,.int .i64 a1_5,.int .i64 a1_6,.int .i64 a1_7,.int .i64 a1_8,.string a1_9],.slice A2 l2.length c2] w fun e w'=>e=.returned (.bool r)∧Below w.heap.size w w':=by
 have hu86:=Try.underlying86
 have HR0:=Aside0.mk hr0
 have HC0:=Aside0.mk hc0
 clear hr0 hc0
 have HR2:=Aside0.mk hr2
 have HC2:=Aside0.mk hc2
 clear hr2 hc2
 have HB:=Aside0.mk (Below.refl w.heap.size w)
 have H:((spec_l17Fits.f k l0 a1_0 a1_1 a1_2 a1_3 a1_4 a1_5 a1_6 a1_7 a1_8 a1_9).bind fun t161=>(if t161=true then ((spec_l1Some.f k l2 8).bind fun t162=>(some t162)) else (some false)))=some r:=h
 clear h
 replace H:=Option.bind_eq_some_iff.mp H
 obtain⟨t161,A40,H⟩:=H
 have A4:=Aside0.mk A40
 clear A40
 by_cases c5:t161=true
 ·subst c5
  have H1:((spec_l1Some.f k l2 8).bind fun t162=>(some t162))=some r:=by rw[if_pos rfl] at H;exact H
  clear H
  have H:=H1
  clear H1
  replace H:=Option.bind_eq_some_iff.mp H
  obtain⟨t162,A60,H⟩:=H
  have A6:=Aside0.mk A60
  clear A60
  obtain rfl:=Option.some.inj H
  go_enter Try.func123,Try.ntmps123
  go_wp2_with (first|((with_reducible refine gate_dst (N:=4) rfl ?_);refine box_event ?hg (N:=4) ?hd (cs:=#[.int .i64 a1_0,.int .i64 a1_1,.bool a1_2,.int .i64 a1_3,.int .i64 a1_4,.int .i64 a1_5,.int .i64 a1_6,.int .i64 a1_7,.int .i64 a1_8,.string a1_9]) (t:=86) ?hr ?_;(case hd=>rfl);(case hg=>rfl);(case hr=>first|(go_simp;done)|(go_simp;rfl));intro gb160 hg w7 hbox hb;have n0_:=Aside0.mk (below_step (bB) hb);have n1_:=Aside0.mk (hbox);have n2_:=Aside0.mk ((bG:w.heap.size≤gb160));have n3_:=Aside0.mk ((bG:w.heap.size≤gb160));clear HB;have HB:=n0_;have BK160:=n1_;have GW160:=n2_;have GE160:=n3_;clear n0_ n1_ n2_ n3_;clear hb hbox hg;have hcz8_0:w7.cell? ⟨gb160,0,none⟩=some (.int .i64 a1_0):=(blk_cell BK160.out 0).trans rfl;have hcz8_1:w7.cell? ⟨gb160,1,none⟩=some (.int .i64 a1_1):=(blk_cell BK160.out 1).trans rfl;have hcz8_2:w7.cell? ⟨gb160,2,none⟩=some (.bool a1_2):=(blk_cell BK160.out 2).trans rfl;have hcz8_3:w7.cell? ⟨gb160,3,none⟩=some (.int .i64 a1_3):=(blk_cell BK160.out 3).trans rfl;have hcz8_4:w7.cell? ⟨gb160,4,none⟩=some (.int .i64 a1_4):=(blk_cell BK160.out 4).trans rfl;have hcz8_5:w7.cell? ⟨gb160,5,none⟩=some (.int .i64 a1_5):=(blk_cell BK160.out 5).trans rfl;have hcz8_6:w7.cell? ⟨gb160,6,none⟩=some (.int .i64 a1_6):=(blk_cell BK160.out 6).trans rfl;have hcz8_7:w7.cell? ⟨gb160,7,none⟩=some (.int .i64 a1_7):=(blk_cell BK160.out 7).trans rfl;have hcz8_8:w7.cell? ⟨gb160,8,none⟩=some (.int .i64 a1_8):=(blk_cell BK160.out 8).trans rfl;have hcz8_9:w7.cell? ⟨gb160,9,none⟩=some (.string a1_9):=(blk_cell BK160.out 9).trans rfl;have hfz8_0:=blk_frozen BK160.out 0;have hfz8_1:=blk_frozen BK160.out 1;have hfz8_2:=blk_frozen BK160.out 2;have hfz8_3:=blk_frozen BK160.out 3;have hfz8_4:=blk_frozen BK160.out 4;have hfz8_5:=blk_frozen BK160.out 5;have hfz8_6:=blk_frozen BK160.out 6;have hfz8_7:=blk_frozen BK160.out 7;have hfz8_8:=blk_frozen BK160.out 8;have hfz8_9:=blk_frozen BK160.out 9)|((with_reducible refine gate_callee (f:=118) rfl ?_);refine goesA (some 9) rfl rfl Try.func118 #[.slice A0 l0.length c0,.agg #[.int .i64 a1_0,.int .i64 a1_1,.bool a1_2,.int .i64 a1_3,.int .i64 a1_4,.int .i64 a1_5,.int .i64 a1_6,.int .i64 a1_7,.int .i64 a1_8,.string a1_9]] rfl ?_;(with_reducible refine(spec_l17Fits.calls k _ _ l0 a1_0 a1_1 a1_2 a1_3 a1_4 a1_5 a1_6 a1_7 a1_8 a1_9 true _ ?side1 ?side2 A4.out).mono ?_);(case side1=>exact bC HR0.out);(case side2=>exact HC0.out);rintro e w9 ⟨rfl,hb⟩;refine⟨_,rfl,?_⟩;have n0_:=Aside0.mk (blk_below (g:=gb160) (o:=.cells #[.int .i64 a1_0,.int .i64 a1_1,.bool a1_2,.int .i64 a1_3,.int .i64 a1_4,.int .i64 a1_5,.int .i64 a1_6,.int .i64 a1_7,.int .i64 a1_8,.string a1_9] 86 (0,0)) (bL BK160.out) hb);have n1_:=Aside0.mk (below_step (bS GE160.out) hb);clear BK160 HB;have BK160:=n0_;have HB:=n1_;clear n0_ n1_;(try clear hb);(try clear hb2);(try clear hk);(try clear hi))|(go_at_call 132;(with_reducible refine(spec_l1Some.calls k _ _ l2 8 t162 _ ?side1 ?side2 A6.out).mono ?_);(case side1=>exact bC HR2.out);(case side2=>exact HC2.out);rintro e w' ⟨rfl,⟨nd,rfl⟩⟩))
  go_ret
  exact⟨bE,bS GE160.out⟩
 ·replace c5:=Bool.eq_false_iff.mpr c5
  subst c5
  have H1:(some false)=some r:=by rw[if_neg (show ¬ (false=true) by decide)] at H;exact H
  clear H
  have H:=H1
  clear H1
  obtain rfl:=Option.some.inj H
  go_enter Try.func123,Try.ntmps123
  go_wp2_with (first|((with_reducible refine gate_dst (N:=4) rfl ?_);refine box_event ?hg (N:=4) ?hd (cs:=#[.int .i64 a1_0,.int .i64 a1_1,.bool a1_2,.int .i64 a1_3,.int .i64 a1_4,.int .i64 a1_5,.int .i64 a1_6,.int .i64 a1_7,.int .i64 a1_8,.string a1_9]) (t:=86) ?hr ?_;(case hd=>rfl);(case hg=>rfl);(case hr=>first|(go_simp;done)|(go_simp;rfl));intro gb160 hg w10 hbox hb;have n0_:=Aside0.mk (below_step (bB) hb);have n1_:=Aside0.mk (hbox);have n2_:=Aside0.mk ((bG:w.heap.size≤gb160));have n3_:=Aside0.mk ((bG:w.heap.size≤gb160));clear HB;have HB:=n0_;have BK160:=n1_;have GW160:=n2_;have GE160:=n3_;clear n0_ n1_ n2_ n3_;clear hb hbox hg;have hcz11_0:w10.cell? ⟨gb160,0,none⟩=some (.int .i64 a1_0):=(blk_cell BK160.out 0).trans rfl;have hcz11_1:w10.cell? ⟨gb160,1,none⟩=some (.int .i64 a1_1):=(blk_cell BK160.out 1).trans rfl;have hcz11_2:w10.cell? ⟨gb160,2,none⟩=some (.bool a1_2):=(blk_cell BK160.out 2).trans rfl;have hcz11_3:w10.cell? ⟨gb160,3,none⟩=some (.int .i64 a1_3):=(blk_cell BK160.out 3).trans rfl;have hcz11_4:w10.cell? ⟨gb160,4,none⟩=some (.int .i64 a1_4):=(blk_cell BK160.out 4).trans rfl;have hcz11_5:w10.cell? ⟨gb160,5,none⟩=some (.int .i64 a1_5):=(blk_cell BK160.out 5).trans rfl;have hcz11_6:w10.cell? ⟨gb160,6,none⟩=some (.int .i64 a1_6):=(blk_cell BK160.out 6).trans rfl;have hcz11_7:w10.cell? ⟨gb160,7,none⟩=some (.int .i64 a1_7):=(blk_cell BK160.out 7).trans rfl;have hcz11_8:w10.cell? ⟨gb160,8,none⟩=some (.int .i64 a1_8):=(blk_cell BK160.out 8).trans rfl;have hcz11_9:w10.cell? ⟨gb160,9,none⟩=some (.string a1_9):=(blk_cell BK160.out 9).trans rfl;have hfz11_0:=blk_frozen BK160.out 0;have hfz11_1:=blk_frozen BK160.out 1;have hfz11_2:=blk_frozen BK160.out 2;have hfz11_3:=blk_frozen BK160.out 3;have hfz11_4:=blk_frozen BK160.out 4;have hfz11_5:=blk_frozen BK160.out 5;have hfz11_6:=blk_frozen BK160.out 6;have hfz11_7:=blk_frozen BK160.out 7;have hfz11_8:=blk_frozen BK160.out 8;have hfz11_9:=blk_frozen BK160.out 9)|((with_reducible refine gate_callee (f:=118) rfl ?_);refine goesA (some 9) rfl rfl Try.func118 #[.slice A0 l0.length c0,.agg #[.int .i64 a1_0,.int .i64 a1_1,.bool a1_2,.int .i64 a1_3,.int .i64 a1_4,.int .i64 a1_5,.int .i64 a1_6,.int .i64 a1_7,.int .i64 a1_8,.string a1_9]] rfl ?_;(with_reducible refine(spec_l17Fits.calls k _ _ l0 a1_0 a1_1 a1_2 a1_3 a1_4 a1_5 a1_6 a1_7 a1_8 a1_9 false _ ?side1 ?side2 A4.out).mono ?_);(case side1=>exact bC HR0.out);(case side2=>exact HC0.out);rintro e w12 ⟨rfl,hb⟩;refine⟨_,rfl,?_⟩;have n0_:=Aside0.mk (blk_below (g:=gb160) (o:=.cells #[.int .i64 a1_0,.int .i64 a1_1,.bool a1_2,.int .i64 a1_3,.int .i64 a1_4,.int .i64 a1_5,.int .i64 a1_6,.int .i64 a1_7,.int .i64 a1_8,.string a1_9] 86 (0,0)) (bL BK160.out) hb);have n1_:=Aside0.mk (below_step (bS GE160.out) hb);clear BK160 HB;have BK160:=n0_;have HB:=n1_;clear n0_ n1_;(try clear hb);(try clear hb2);(try clear hk);(try clear hi)))
  go_ret
  exact⟨bE,bS GE160.out⟩

end Go.Proofs.Yteneeohaoplpbaa.XFnExactDeliveredBy
