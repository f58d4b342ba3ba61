-- Written by this session's own program (wip/xprint.py) out of the translation; Lean checks it.
import Derived.Test.YteneeohaoplpbaaXFnExactRunRoundsx0
import Derived.Test.YteneeohaoplpbaaXFnExactRunRoundsx5
namespace Go.Proofs.Yteneeohaoplpbaa.XFnExactRunRounds
open Go.RowKit Go.Proofs.YteneeohaoplpbaaW.PrintWords Go.Proofs.YteneeohaoplpbaaW.PrintLast Go.Proofs.YteneeohaoplpbaaW.PrintMore
attribute [local go_sem] max2_int min2_int max_two min_two max_three min_three max_four min_four   -- for this text's walks alone
set_option linter.unusedVariables false
set_option linter.unusedSimpArgs false

/-! ### impl_GoodTurns: function 78 -/
mutual
def impl_GoodTurns.j0:Nat→Bool→Int→List (S116)→Int→Option (Bool)
 | 0,_,_,_,_=>none
 | k+1,x21,x252000,x252001,x252002=>if x21=true then (some false) else (impl_GoodTurns.l0 k x252001 (x252001.length:Int) 0)
def impl_GoodTurns.l0:Nat→List (S116)→Int→Int→Option (Bool)
 | 0,_,_,_=>none
 | k+1,x23,x24,x25=>if x25 < x24 then (if 0≤x25 then (if x25 < (x23.length:Int) then (if (((rd_T116 x23 x25).f0).length:Int) > 40 then (some false) else ((slices_ContainsFunc_int_int_impl_GoodTurns_lit1.f k ((rd_T116 x23 x25).f0)).bind fun t257=>(if t257=true then (some false) else ((impl_within.f ((rd_T116 x23 x25).f1) 0 100).bind fun t258=>(if t258=true then ((impl_isTime.f ((rd_T116 x23 x25).f2)).bind fun t259=>(if t259=true then (if (((rd_T116 x23 x25).f0).length:Int)=0 then (if ((rd_T116 x23 x25).f1)=0 then (impl_GoodTurns.l0 k x23 x24 (wrap64 (x25+1))) else (some false)) else (impl_GoodTurns.l0 k x23 x24 (wrap64 (x25+1)))) else (some false))) else (some false)))))) else (none)) else (none)) else (some true)
end
def impl_GoodTurns.f (k:Nat) (a0_0:Int) (l0_1:List (S116)) (a0_2:Int):Option (Bool):=(impl_within.f a0_0 1 50).bind fun t252=>(if t252=true then ((impl_within.f (l0_1.length:Int) 1 6).bind fun t253=>(if t253=true then ((impl_isTime.f a0_2).bind fun t254=>(impl_GoodTurns.j0 k (!t254) a0_0 l0_1 a0_2)) else (impl_GoodTurns.j0 k true a0_0 l0_1 a0_2))) else (impl_GoodTurns.j0 k true a0_0 l0_1 a0_2))
theorem impl_GoodTurns.mono_l : ∀ k,(∀ y0 y1 y2 y3,LeO (impl_GoodTurns.j0 k y0 y1 y2 y3) (impl_GoodTurns.j0 (k+1) y0 y1 y2 y3))∧(∀ y0 y1 y2,LeO (impl_GoodTurns.l0 k y0 y1 y2) (impl_GoodTurns.l0 (k+1) y0 y1 y2))
 | 0=>⟨fun _ _ _ _ r h=>by simp[impl_GoodTurns.j0] at h,fun _ _ _ r h=>by simp[impl_GoodTurns.l0] at h⟩
 | k+1=>by
  obtain⟨ih0,ih1⟩:=impl_GoodTurns.mono_l k
  refine⟨?_,?_⟩
  ·intro y0 y1 y2 y3
   unfold impl_GoodTurns.j0
   repeat' first
   | (with_reducible exact ih0 _ _ _ _)
   | (with_reducible exact ih1 _ _ _)
   | (with_reducible exact slices_ContainsFunc_int_int_impl_GoodTurns_lit1.mono _ _)
   | (with_reducible exact LeO.refl _)
   | (with_reducible exact LeO.none _)
   | (with_reducible refine LeO.ite ?_ ?_)
   | (with_reducible refine LeO.bind ?_ (fun _ => ?_))
   | exact ih0 _ _ _ _
   | exact ih1 _ _ _
   | exact slices_ContainsFunc_int_int_impl_GoodTurns_lit1.mono _ _
   | exact LeO.none _
   | refine LeO.ite ?_ ?_
   | refine LeO.bind ?_ (fun _ => ?_)
  ·intro y0 y1 y2
   unfold impl_GoodTurns.l0
   repeat' first
   | (with_reducible exact ih0 _ _ _ _)
   | (with_reducible exact ih1 _ _ _)
   | (with_reducible exact slices_ContainsFunc_int_int_impl_GoodTurns_lit1.mono _ _)
   | (with_reducible exact LeO.refl _)
   | (with_reducible exact LeO.none _)
   | (with_reducible refine LeO.ite ?_ ?_)
   | (with_reducible refine LeO.bind ?_ (fun _ => ?_))
   | exact ih0 _ _ _ _
   | exact ih1 _ _ _
   | exact slices_ContainsFunc_int_int_impl_GoodTurns_lit1.mono _ _
   | exact LeO.none _
   | refine LeO.ite ?_ ?_
   | refine LeO.bind ?_ (fun _ => ?_)
theorem impl_GoodTurns.mono : ∀ a0 a1 a2 k,LeO (impl_GoodTurns.f k a0 a1 a2) (impl_GoodTurns.f (k+1) a0 a1 a2):=by
 intro a0 a1 a2 k
 obtain⟨ih0,ih1⟩:=impl_GoodTurns.mono_l k
 unfold impl_GoodTurns.f
 repeat' first
  | (with_reducible exact ih0 _ _ _ _)
  | (with_reducible exact ih1 _ _ _)
  | (with_reducible exact slices_ContainsFunc_int_int_impl_GoodTurns_lit1.mono _ _)
  | (with_reducible exact LeO.refl _)
  | (with_reducible exact LeO.none _)
  | (with_reducible refine LeO.ite ?_ ?_)
  | (with_reducible refine LeO.bind ?_ (fun _ => ?_))
  | exact ih0 _ _ _ _
  | exact ih1 _ _ _
  | exact slices_ContainsFunc_int_int_impl_GoodTurns_lit1.mono _ _
  | exact LeO.none _
  | refine LeO.ite ?_ ?_
  | refine LeO.bind ?_ (fun _ => ?_)
set_option maxHeartbeats 8000000 in
set_option maxRecDepth 100000 in
theorem impl_GoodTurns.calls (k:Nat) (a0_0:Int) (A0_1:Option Addr) (c0_1:Nat) (l0_1:List (S116)) (a0_2:Int) (r:Bool) (w:World) (hr0_1:Kd.C k116 w A0_1 l0_1.length l0_1) (hc0_1:l0_1.length≤c0_1) (h:impl_GoodTurns.f k a0_0 l0_1 a0_2=some r) :
  Calls Try.prog 78 #[.agg #[.int .i64 a0_0,.slice A0_1 l0_1.length c0_1,.int .i64 a0_2]] w fun e w'=>e=.returned (.bool r)∧Below w.heap.size w w':=by
 have hu28:=Try.underlying28
 have hu116:=Try.underlying116
 have HR0_1:=Aside0.mk hr0_1
 have HC0_1:=Aside0.mk hc0_1
 clear hr0_1 hc0_1
 have HB:=Aside0.mk (Below.refl w.heap.size w)
 have H:((impl_within.f a0_0 1 50).bind fun t252=>(if t252=true then ((impl_within.f (l0_1.length:Int) 1 6).bind fun t253=>(if t253=true then ((impl_isTime.f a0_2).bind fun t254=>(impl_GoodTurns.j0 k (!t254) a0_0 l0_1 a0_2)) else (impl_GoodTurns.j0 k true a0_0 l0_1 a0_2))) else (impl_GoodTurns.j0 k true a0_0 l0_1 a0_2)))=some r:=h
 clear h
 have HC2:=Aside0.mk H
 clear H
 go_enter Try.func78,Try.ntmps78
 go_upto_region 1 with (first|((with_reducible refine gate_dst (N:=1) rfl ?_);(try (refine gate_guard (by rfl) ?_;dsimp only));refine box_event ?hg (N:=1) ?hd (cs:=#[.int .i64 a0_0,.slice A0_1 l0_1.length c0_1,.int .i64 a0_2]) (t:=28) ?hr ?_;(case hd=>rfl);(case hg=>rfl);(case hr=>first|(go_simp;done)|(go_simp;rfl));intro gb251 hg w3 hbox hb;have n0_:=Aside0.mk (below_step (bB) hb);have n1_:=Aside0.mk (hbox);have n2_:=Aside0.mk ((bG:w.heap.size≤gb251));have n3_:=Aside0.mk ((bG:w.heap.size≤gb251));clear HB;have HB:=n0_;have BK251:=n1_;have GW251:=n2_;have GE251:=n3_;clear n0_ n1_ n2_ n3_;clear hb hbox hg))
 (try simp only[Act.put,List.setIfInBounds_toArray,List.set_cons_zero,List.set_cons_succ])
 go_cut [21] (fun v21 wc => ∃ (kq:Nat) (x21_1:Bool),v21=.bool x21_1∧Aside0 (impl_GoodTurns.j0 kq x21_1 a0_0 l0_1 a0_2=some r)∧Aside0 (kq≤k)∧Aside0 (wc.heap[gb251]?=some (.cells #[.int .i64 a0_0,(.slice A0_1 l0_1.length c0_1),.int .i64 a0_2] 28 (0,0)))∧Aside0 (Below w.heap.size w wc))
 case first =>
  have H:=HC2.out
  clear HC2
  replace H:=Option.bind_eq_some_iff.mp H
  obtain⟨t252,A40,H⟩:=H
  have A4:=Aside0.mk A40
  clear A40
  by_cases c5:t252=true
  ·subst c5
   have H1:((impl_within.f (l0_1.length:Int) 1 6).bind fun t253=>(if t253=true then ((impl_isTime.f a0_2).bind fun t254=>(impl_GoodTurns.j0 k (!t254) a0_0 l0_1 a0_2)) else (impl_GoodTurns.j0 k true a0_0 l0_1 a0_2)))=some r:=by rw[if_pos rfl] at H;exact H
   clear H
   have H:=H1
   clear H1
   replace H:=Option.bind_eq_some_iff.mp H
   obtain⟨t253,A60,H⟩:=H
   have A6:=Aside0.mk A60
   clear A60
   by_cases c7:t253=true
   ·subst c7
    have H1:((impl_isTime.f a0_2).bind fun t254=>(impl_GoodTurns.j0 k (!t254) a0_0 l0_1 a0_2))=some r:=by rw[if_pos rfl] at H;exact H
    clear H
    have H:=H1
    clear H1
    replace H:=Option.bind_eq_some_iff.mp H
    obtain⟨t254,A80,H⟩:=H
    have A8:=Aside0.mk A80
    clear A80
    have H':=Aside0.mk H
    clear H
    obtain⟨hcz9_0,hcz9_1,hcz9_2⟩:=cC3 BK251.out
    obtain⟨hfz9_0,hfz9_1,hfz9_2⟩:=cF3 BK251.out
    go_wp2_with (first|((with_reducible refine gate_callee (f:=79) rfl ?_);refine goesA (some 7) rfl rfl Try.func79 #[.int .i64 a0_0,.int .i64 1,.int .i64 50] rfl ?_;(with_reducible refine(impl_within.calls a0_0 1 50 true _ A4.out).mono ?_);rintro e w' ⟨rfl,⟨nd,rfl⟩⟩;refine⟨_,rfl,?_⟩)|(go_at_call 79;(with_reducible refine(impl_within.calls (l0_1.length:Int) 1 6 true _ A6.out).mono ?_);rintro e w' ⟨rfl,⟨nd,rfl⟩⟩)|(go_at_call 140;(with_reducible refine(impl_isTime.calls a0_2 t254 _ A8.out).mono ?_);rintro e w' ⟨rfl,⟨nd,rfl⟩⟩))
    go_meet
    case rel=>exact⟨_,(!t254),(bR),H',⟨by first|omega|exact Nat.le_refl _⟩,⟨by(with_reducible repeat (first|refine blk_drewN ?_ _|refine blk_drew ?_|refine blk_alloc ?_ _));exact BK251.out⟩,⟨bS GE251.out⟩⟩
   ·replace c7:=Bool.eq_false_iff.mpr c7
    subst c7
    have H1:(impl_GoodTurns.j0 k true a0_0 l0_1 a0_2)=some r:=by rw[if_neg (show ¬ (false=true) by decide)] at H;exact H
    clear H
    have H:=H1
    clear H1
    have H':=Aside0.mk H
    clear H
    obtain⟨hcz10_0,hcz10_1,hcz10_2⟩:=cC3 BK251.out
    obtain⟨hfz10_0,hfz10_1,hfz10_2⟩:=cF3 BK251.out
    go_wp2_with (first|((with_reducible refine gate_callee (f:=79) rfl ?_);refine goesA (some 7) rfl rfl Try.func79 #[.int .i64 a0_0,.int .i64 1,.int .i64 50] rfl ?_;(with_reducible refine(impl_within.calls a0_0 1 50 true _ A4.out).mono ?_);rintro e w' ⟨rfl,⟨nd,rfl⟩⟩;refine⟨_,rfl,?_⟩)|(go_at_call 79;(with_reducible refine(impl_within.calls (l0_1.length:Int) 1 6 false _ A6.out).mono ?_);rintro e w' ⟨rfl,⟨nd,rfl⟩⟩))
    go_meet
    case rel=>exact⟨_,(true),(bR),H',⟨by first|omega|exact Nat.le_refl _⟩,⟨by(with_reducible repeat (first|refine blk_drewN ?_ _|refine blk_drew ?_|refine blk_alloc ?_ _));exact BK251.out⟩,⟨bS GE251.out⟩⟩
  ·replace c5:=Bool.eq_false_iff.mpr c5
   subst c5
   have H1:(impl_GoodTurns.j0 k true a0_0 l0_1 a0_2)=some r:=by rw[if_neg (show ¬ (false=true) by decide)] at H;exact H
   clear H
   have H:=H1
   clear H1
   have H':=Aside0.mk H
   clear H
   obtain⟨hcz11_0,hcz11_1,hcz11_2⟩:=cC3 BK251.out
   obtain⟨hfz11_0,hfz11_1,hfz11_2⟩:=cF3 BK251.out
   go_wp2_with (first|((with_reducible refine gate_callee (f:=79) rfl ?_);refine goesA (some 7) rfl rfl Try.func79 #[.int .i64 a0_0,.int .i64 1,.int .i64 50] rfl ?_;(with_reducible refine(impl_within.calls a0_0 1 50 false _ A4.out).mono ?_);rintro e w' ⟨rfl,⟨nd,rfl⟩⟩;refine⟨_,rfl,?_⟩))
   go_meet
   case rel=>exact⟨_,(true),(bR),H',⟨by first|omega|exact Nat.le_refl _⟩,⟨by(with_reducible repeat (first|refine blk_drewN ?_ _|refine blk_drew ?_|refine blk_alloc ?_ _));exact BK251.out⟩,⟨bS GE251.out⟩⟩
 case rest =>
  clear HC2
  try clear p2
  try clear c5
  try clear c7
  try clear hcz10_0 hcz10_1 hcz10_2
  try clear hcz11_0 hcz11_1 hcz11_2
  try clear hcz9_0 hcz9_1 hcz9_2
  try clear hfz10_0 hfz10_1 hfz10_2
  try clear hfz11_0 hfz11_1 hfz11_2
  try clear hfz9_0 hfz9_1 hfz9_2
  obtain⟨kq,x21_1,rfl,HA,HJ1,BK251,HB⟩:=hcut
  cases kq with
  | zero=>exact absurd HA.out (by simp[impl_GoodTurns.j0])
  | succ kj1 =>
   have H:=HA.out
   clear HA
   simp only[impl_GoodTurns.j0] at H
   by_cases c12:x21_1=true
   ·subst c12
    have H1:(some false)=some r:=by rw[if_pos rfl] at H;exact H
    clear H
    have H:=H1
    clear H1
    obtain rfl:=Option.some.inj H
    go_wp2
    go_ret
    exact⟨bE,bS GE251.out⟩
   ·replace c12:=Bool.eq_false_iff.mpr c12
    subst c12
    have H1:(impl_GoodTurns.l0 kj1 l0_1 (l0_1.length:Int) 0)=some r:=by rw[if_neg (show ¬ (false=true) by decide)] at H;exact H
    clear H
    have H:=H1
    clear H1
    have H':=Aside0.mk H
    clear H
    obtain⟨hcz13_0,hcz13_1,hcz13_2⟩:=cC3 BK251.out
    obtain⟨hfz13_0,hfz13_1,hfz13_2⟩:=cF3 BK251.out
    go_wp2
    go_loopg [25] kj1 (fun kq v25 w' => ∃ (x25_2:Int),v25=.int .i64 x25_2∧Aside0 (impl_GoodTurns.l0 kq l0_1 (l0_1.length:Int) x25_2=some r)∧Aside0 (kq≤kj1)∧Aside0 (w'.heap[gb251]?=some (.cells #[.int .i64 a0_0,(.slice A0_1 l0_1.length c0_1),.int .i64 a0_2] 28 (0,0)))∧Aside0 (Below w.heap.size w w'))
    case atStart=>exact⟨(0),(bR),H',⟨Nat.le_refl _⟩,⟨by(with_reducible repeat (first|refine blk_drewN ?_ _|refine blk_drew ?_|refine blk_alloc ?_ _));exact BK251.out⟩,⟨bS GE251.out⟩⟩
    case round =>
     clear H'
     try clear c1
     try clear p2
     try clear c5
     try clear c7
     try clear c12
     try clear hcz10_0 hcz10_1 hcz10_2
     try clear hcz11_0 hcz11_1 hcz11_2
     try clear hcz13_0 hcz13_1 hcz13_2
     try clear hcz9_0 hcz9_1 hcz9_2
     try clear hfz10_0 hfz10_1 hfz10_2
     try clear hfz11_0 hfz11_1 hfz11_2
     try clear hfz13_0 hfz13_1 hfz13_2
     try clear hfz9_0 hfz9_1 hfz9_2
     try clear p2
     obtain⟨x25_2,rfl,HA,HK2,BK251,HB⟩:=hrel
     cases gk with
     | zero=>exact absurd HA.out (by simp[impl_GoodTurns.l0])
     | succ k2 =>
      have H:=HA.out
      clear HA
      simp only[impl_GoodTurns.l0] at H
      by_cases c14:x25_2 < (l0_1.length:Int)
      ·rw[if_pos c14] at H
       have c14b0:decide (x25_2 < (l0_1.length:Int))=true:=decide_eq_true c14
       clear c14
       by_cases c15:0≤x25_2
       ·rw[if_pos c15] at H
        have c15b0:decide (0≤x25_2)=true:=decide_eq_true c15
        clear c15
        by_cases c16:x25_2 < (l0_1.length:Int)
        ·rw[if_pos c16] at H
         have c16b0:decide (x25_2 < (l0_1.length:Int))=true:=decide_eq_true c16
         clear c16
         by_cases c17:(((rd_T116 l0_1 x25_2).f0).length:Int) > 40
         ·rw[if_pos c17] at H
          have c17b0:decide (40 < (((rd_T116 l0_1 x25_2).f0).length:Int))=true:=decide_eq_true c17
          have c17b1:decide (40 < ((rd_T116 l0_1 x25_2).f0).length)=true:=decide_eq_true (by omega)
          clear c17
          obtain rfl:=Option.some.inj H
          have p255:0≤(x25_2:Int):=of_decide_eq_true (bD)
          have q255:x25_2 < (l0_1.length:Int):=of_decide_eq_true (bD)
          obtain⟨ad255,A255_0,c255_0,e255,hx255_0,hx255_1,hx255_2,hl255_0,hi255_0⟩:=at_T116 HR0_1.out x25_2 p255 q255
          cases e255
          replace hx255_0:=(HB.out.cell (World.block_lt_of_cell? w _ hx255_0)).trans hx255_0
          replace hx255_1:=(HB.out.cell (World.block_lt_of_cell? w _ hx255_1)).trans hx255_1
          replace hx255_2:=(HB.out.cell (World.block_lt_of_cell? w _ hx255_2)).trans hx255_2
          have HR255_0:=Aside0.mk hi255_0
          have HC255_0:=Aside0.mk hl255_0
          clear hi255_0 hl255_0
          replace p255:=eq_true p255
          replace q255:=eq_true q255
          go_wp2_with (first|((with_reducible refine gate_dst (N:=4) rfl ?_);(try (refine gate_guard (by rfl) ?_;dsimp only));refine box_event ?hg (N:=4) ?hd (cs:=#[.slice none 0 0,.int .i64 0,.int .i64 0]) (t:=116) ?hr ?_;(case hd=>rfl);(case hg=>rfl);(case hr=>first|(go_simp;done)|(go_simp;rfl));intro gb256 hg w18 hbox hb;have n0_:=Aside0.mk (bM BK251.out hb);have n1_:=Aside0.mk (below_step (bS GE251.out) hb);have n2_:=Aside0.mk (hbox);have n3_:=Aside0.mk ((by rw[hg];exact(below_size (bS GE251.out)):w.heap.size≤gb256));have n4_:=Aside0.mk ((by rw[hg];exact(below_size (bS GE251.out)):w.heap.size≤gb256));have n5_:=Aside0.mk ((bN BK251.out hg:gb251≠gb256));have n6_:=Aside0.mk ((bO BK251.out hg:gb256≠gb251));clear BK251 HB;have BK251:=n0_;have HB:=n1_;have BK256:=n2_;have GW256:=n3_;have GE256:=n4_;have NB251_256:=n5_;have NB256_251:=n6_;clear n0_ n1_ n2_ n3_ n4_ n5_ n6_;clear hb hbox hg;have hnb19:=NB256_251.out;have hnc19:=NB251_256.out;obtain⟨hcz20_0,hcz20_1,hcz20_2⟩:=cC3 BK256.out;obtain⟨hfz20_0,hfz20_1,hfz20_2⟩:=cF3 BK256.out))
          go_ret
          exact⟨bE,bS2 GE251.out GE256.out⟩
         ·rw[if_neg c17] at H
          have c17b0:decide (40 < (((rd_T116 l0_1 x25_2).f0).length:Int))=false:=decide_eq_false c17
          have c17b1:decide (40 < ((rd_T116 l0_1 x25_2).f0).length)=false:=decide_eq_false (by omega)
          clear c17
          replace H:=Option.bind_eq_some_iff.mp H
          obtain⟨t257,A210,H⟩:=H
          have A21:=Aside0.mk A210
          clear A210
          by_cases c22:t257=true
          ·subst c22
           have H1:(some false)=some r:=by rw[if_pos rfl] at H;exact H
           clear H
           have H:=H1
           clear H1
           obtain rfl:=Option.some.inj H
           have p255:0≤(x25_2:Int):=of_decide_eq_true (bD)
           have q255:x25_2 < (l0_1.length:Int):=of_decide_eq_true (bD)
           obtain⟨ad255,A255_0,c255_0,e255,hx255_0,hx255_1,hx255_2,hl255_0,hi255_0⟩:=at_T116 HR0_1.out x25_2 p255 q255
           cases e255
           replace hx255_0:=(HB.out.cell (World.block_lt_of_cell? w _ hx255_0)).trans hx255_0
           replace hx255_1:=(HB.out.cell (World.block_lt_of_cell? w _ hx255_1)).trans hx255_1
           replace hx255_2:=(HB.out.cell (World.block_lt_of_cell? w _ hx255_2)).trans hx255_2
           have HR255_0:=Aside0.mk hi255_0
           have HC255_0:=Aside0.mk hl255_0
           clear hi255_0 hl255_0
           replace p255:=eq_true p255
           replace q255:=eq_true q255
           go_wp2_with (first|((with_reducible refine gate_dst (N:=4) rfl ?_);(try (refine gate_guard (by rfl) ?_;dsimp only));refine box_event ?hg (N:=4) ?hd (cs:=#[.slice none 0 0,.int .i64 0,.int .i64 0]) (t:=116) ?hr ?_;(case hd=>rfl);(case hg=>rfl);(case hr=>first|(go_simp;done)|(go_simp;rfl));intro gb256 hg w23 hbox hb;have n0_:=Aside0.mk (bM BK251.out hb);have n1_:=Aside0.mk (below_step (bS GE251.out) hb);have n2_:=Aside0.mk (hbox);have n3_:=Aside0.mk ((by rw[hg];exact(below_size (bS GE251.out)):w.heap.size≤gb256));have n4_:=Aside0.mk ((by rw[hg];exact(below_size (bS GE251.out)):w.heap.size≤gb256));have n5_:=Aside0.mk ((bN BK251.out hg:gb251≠gb256));have n6_:=Aside0.mk ((bO BK251.out hg:gb256≠gb251));clear BK251 HB;have BK251:=n0_;have HB:=n1_;have BK256:=n2_;have GW256:=n3_;have GE256:=n4_;have NB251_256:=n5_;have NB256_251:=n6_;clear n0_ n1_ n2_ n3_ n4_ n5_ n6_;clear hb hbox hg;have hnb24:=NB256_251.out;have hnc24:=NB251_256.out;obtain⟨hcz25_0,hcz25_1,hcz25_2⟩:=cC3 BK256.out;obtain⟨hfz25_0,hfz25_1,hfz25_2⟩:=cF3 BK256.out)|(go_at_call 113;(with_reducible refine(slices_ContainsFunc_int_int_impl_GoodTurns_lit1.calls k2 _ _ ((rd_T116 l0_1 x25_2).f0)  true _ ?side1 ?side2 A21.out).mono ?_);(case side1=>exact Kd.C_below HR255_0.out (bS2 GE251.out GE256.out));(case side2=>exact HC255_0.out);rintro e w' ⟨rfl,⟨nd,rfl⟩⟩))
           go_ret
           exact⟨bE,bS2 GE251.out GE256.out⟩
          ·replace c22:=Bool.eq_false_iff.mpr c22
           subst c22
           have H1:((impl_within.f ((rd_T116 l0_1 x25_2).f1) 0 100).bind fun t258=>(if t258=true then ((impl_isTime.f ((rd_T116 l0_1 x25_2).f2)).bind fun t259=>(if t259=true then (if (((rd_T116 l0_1 x25_2).f0).length:Int)=0 then (if ((rd_T116 l0_1 x25_2).f1)=0 then (impl_GoodTurns.l0 k2 l0_1 (l0_1.length:Int) (wrap64 (x25_2+1))) else (some false)) else (impl_GoodTurns.l0 k2 l0_1 (l0_1.length:Int) (wrap64 (x25_2+1)))) else (some false))) else (some false)))=some r:=by rw[if_neg (show ¬ (false=true) by decide)] at H;exact H
           clear H
           have H:=H1
           clear H1
           replace H:=Option.bind_eq_some_iff.mp H
           obtain⟨t258,A260,H⟩:=H
           have A26:=Aside0.mk A260
           clear A260
           by_cases c27:t258=true
           ·subst c27
            have H1:((impl_isTime.f ((rd_T116 l0_1 x25_2).f2)).bind fun t259=>(if t259=true then (if (((rd_T116 l0_1 x25_2).f0).length:Int)=0 then (if ((rd_T116 l0_1 x25_2).f1)=0 then (impl_GoodTurns.l0 k2 l0_1 (l0_1.length:Int) (wrap64 (x25_2+1))) else (some false)) else (impl_GoodTurns.l0 k2 l0_1 (l0_1.length:Int) (wrap64 (x25_2+1)))) else (some false)))=some r:=by rw[if_pos rfl] at H;exact H
            clear H
            have H:=H1
            clear H1
            replace H:=Option.bind_eq_some_iff.mp H
            obtain⟨t259,A280,H⟩:=H
            have A28:=Aside0.mk A280
            clear A280
            by_cases c29:t259=true
            ·subst c29
             have H1:(if (((rd_T116 l0_1 x25_2).f0).length:Int)=0 then (if ((rd_T116 l0_1 x25_2).f1)=0 then (impl_GoodTurns.l0 k2 l0_1 (l0_1.length:Int) (wrap64 (x25_2+1))) else (some false)) else (impl_GoodTurns.l0 k2 l0_1 (l0_1.length:Int) (wrap64 (x25_2+1))))=some r:=by rw[if_pos rfl] at H;exact H
             clear H
             have H:=H1
             clear H1
             by_cases c30:(((rd_T116 l0_1 x25_2).f0).length:Int)=0
             ·rw[if_pos c30] at H
              have c30b0:((((rd_T116 l0_1 x25_2).f0).length:Int) == 0)=true:=beq_iff_eq.mpr c30
              have c30b1:((((rd_T116 l0_1 x25_2).f0).length:Int) != 0)=false:=bne_eq_false_iff_eq.mpr c30
              clear c30
              by_cases c31:((rd_T116 l0_1 x25_2).f1)=0
              ·rw[if_pos c31] at H
               have c31b0:(((rd_T116 l0_1 x25_2).f1) == 0)=true:=beq_iff_eq.mpr c31
               have c31b1:(((rd_T116 l0_1 x25_2).f1) != 0)=false:=bne_eq_false_iff_eq.mpr c31
               clear c31
               have H':=Aside0.mk H
               clear H
               have p255:0≤(x25_2:Int):=of_decide_eq_true (bD)
               have q255:x25_2 < (l0_1.length:Int):=of_decide_eq_true (bD)
               obtain⟨ad255,A255_0,c255_0,e255,hx255_0,hx255_1,hx255_2,hl255_0,hi255_0⟩:=at_T116 HR0_1.out x25_2 p255 q255
               cases e255
               replace hx255_0:=(HB.out.cell (World.block_lt_of_cell? w _ hx255_0)).trans hx255_0
               replace hx255_1:=(HB.out.cell (World.block_lt_of_cell? w _ hx255_1)).trans hx255_1
               replace hx255_2:=(HB.out.cell (World.block_lt_of_cell? w _ hx255_2)).trans hx255_2
               have HR255_0:=Aside0.mk hi255_0
               have HC255_0:=Aside0.mk hl255_0
               clear hi255_0 hl255_0
               replace p255:=eq_true p255
               replace q255:=eq_true q255
               go_wp2_with (first|((with_reducible refine gate_dst (N:=4) rfl ?_);(try (refine gate_guard (by rfl) ?_;dsimp only));refine box_event ?hg (N:=4) ?hd (cs:=#[.slice none 0 0,.int .i64 0,.int .i64 0]) (t:=116) ?hr ?_;(case hd=>rfl);(case hg=>rfl);(case hr=>first|(go_simp;done)|(go_simp;rfl));intro gb256 hg w32 hbox hb;have n0_:=Aside0.mk (bM BK251.out hb);have n1_:=Aside0.mk (below_step (bS GE251.out) hb);have n2_:=Aside0.mk (hbox);have n3_:=Aside0.mk ((by rw[hg];exact(below_size (bS GE251.out)):w.heap.size≤gb256));have n4_:=Aside0.mk ((by rw[hg];exact(below_size (bS GE251.out)):w.heap.size≤gb256));have n5_:=Aside0.mk ((bN BK251.out hg:gb251≠gb256));have n6_:=Aside0.mk ((bO BK251.out hg:gb256≠gb251));clear BK251 HB;have BK251:=n0_;have HB:=n1_;have BK256:=n2_;have GW256:=n3_;have GE256:=n4_;have NB251_256:=n5_;have NB256_251:=n6_;clear n0_ n1_ n2_ n3_ n4_ n5_ n6_;clear hb hbox hg;have hnb33:=NB256_251.out;have hnc33:=NB251_256.out;obtain⟨hcz34_0,hcz34_1,hcz34_2⟩:=cC3 BK256.out;obtain⟨hfz34_0,hfz34_1,hfz34_2⟩:=cF3 BK256.out)|(go_at_call 113;(with_reducible refine(slices_ContainsFunc_int_int_impl_GoodTurns_lit1.calls k2 _ _ ((rd_T116 l0_1 x25_2).f0)  false _ ?side1 ?side2 A21.out).mono ?_);(case side1=>exact Kd.C_below HR255_0.out (bS2 GE251.out GE256.out));(case side2=>exact HC255_0.out);rintro e w' ⟨rfl,⟨nd,rfl⟩⟩)|(go_at_call 79;(with_reducible refine(impl_within.calls ((rd_T116 l0_1 x25_2).f1) 0 100 true _ A26.out).mono ?_);rintro e w' ⟨rfl,⟨nd,rfl⟩⟩)|(go_at_call 140;(with_reducible refine(impl_isTime.calls ((rd_T116 l0_1 x25_2).f2) true _ A28.out).mono ?_);rintro e w' ⟨rfl,⟨nd,rfl⟩⟩))
               go_roundg k2
               case measure=>have:=HJ1.out;have:=HK2.out;omega
               case rel=>exact⟨(wrap64 (x25_2+1)),(bR),H',⟨by have:=HJ1.out;have:=HK2.out;omega⟩,⟨by(with_reducible repeat (first|refine blk_drewN ?_ _|refine blk_drew ?_|refine blk_alloc ?_ _));refine blk_far ?_ NB251_256.out _;(with_reducible repeat (first|refine blk_drewN ?_ _|refine blk_drew ?_|refine blk_alloc ?_ _));refine blk_far ?_ NB251_256.out _;(with_reducible repeat (first|refine blk_drewN ?_ _|refine blk_drew ?_|refine blk_alloc ?_ _));refine blk_far ?_ NB251_256.out _;(with_reducible repeat (first|refine blk_drewN ?_ _|refine blk_drew ?_|refine blk_alloc ?_ _));exact BK251.out⟩,⟨bS2 GE251.out GE256.out⟩⟩
              ·rw[if_neg c31] at H
               have c31b0:(((rd_T116 l0_1 x25_2).f1) == 0)=false:=beq_eq_false_iff_ne.mpr c31
               have c31b1:(((rd_T116 l0_1 x25_2).f1) != 0)=true:=bne_iff_ne.mpr c31
               obtain rfl:=Option.some.inj H
               have p255:0≤(x25_2:Int):=of_decide_eq_true (bD)
               have q255:x25_2 < (l0_1.length:Int):=of_decide_eq_true (bD)
               obtain⟨ad255,A255_0,c255_0,e255,hx255_0,hx255_1,hx255_2,hl255_0,hi255_0⟩:=at_T116 HR0_1.out x25_2 p255 q255
               cases e255
               replace hx255_0:=(HB.out.cell (World.block_lt_of_cell? w _ hx255_0)).trans hx255_0
               replace hx255_1:=(HB.out.cell (World.block_lt_of_cell? w _ hx255_1)).trans hx255_1
               replace hx255_2:=(HB.out.cell (World.block_lt_of_cell? w _ hx255_2)).trans hx255_2
               have HR255_0:=Aside0.mk hi255_0
               have HC255_0:=Aside0.mk hl255_0
               clear hi255_0 hl255_0
               replace p255:=eq_true p255
               replace q255:=eq_true q255
               go_wp2_with (first|((with_reducible refine gate_dst (N:=4) rfl ?_);(try (refine gate_guard (by rfl) ?_;dsimp only));refine box_event ?hg (N:=4) ?hd (cs:=#[.slice none 0 0,.int .i64 0,.int .i64 0]) (t:=116) ?hr ?_;(case hd=>rfl);(case hg=>rfl);(case hr=>first|(go_simp;done)|(go_simp;rfl));intro gb256 hg w35 hbox hb;have n0_:=Aside0.mk (bM BK251.out hb);have n1_:=Aside0.mk (below_step (bS GE251.out) hb);have n2_:=Aside0.mk (hbox);have n3_:=Aside0.mk ((by rw[hg];exact(below_size (bS GE251.out)):w.heap.size≤gb256));have n4_:=Aside0.mk ((by rw[hg];exact(below_size (bS GE251.out)):w.heap.size≤gb256));have n5_:=Aside0.mk ((bN BK251.out hg:gb251≠gb256));have n6_:=Aside0.mk ((bO BK251.out hg:gb256≠gb251));clear BK251 HB;have BK251:=n0_;have HB:=n1_;have BK256:=n2_;have GW256:=n3_;have GE256:=n4_;have NB251_256:=n5_;have NB256_251:=n6_;clear n0_ n1_ n2_ n3_ n4_ n5_ n6_;clear hb hbox hg;have hnb36:=NB256_251.out;have hnc36:=NB251_256.out;obtain⟨hcz37_0,hcz37_1,hcz37_2⟩:=cC3 BK256.out;obtain⟨hfz37_0,hfz37_1,hfz37_2⟩:=cF3 BK256.out)|(go_at_call 113;(with_reducible refine(slices_ContainsFunc_int_int_impl_GoodTurns_lit1.calls k2 _ _ ((rd_T116 l0_1 x25_2).f0)  false _ ?side1 ?side2 A21.out).mono ?_);(case side1=>exact Kd.C_below HR255_0.out (bS2 GE251.out GE256.out));(case side2=>exact HC255_0.out);rintro e w' ⟨rfl,⟨nd,rfl⟩⟩)|(go_at_call 79;(with_reducible refine(impl_within.calls ((rd_T116 l0_1 x25_2).f1) 0 100 true _ A26.out).mono ?_);rintro e w' ⟨rfl,⟨nd,rfl⟩⟩)|(go_at_call 140;(with_reducible refine(impl_isTime.calls ((rd_T116 l0_1 x25_2).f2) true _ A28.out).mono ?_);rintro e w' ⟨rfl,⟨nd,rfl⟩⟩))
               go_ret
               exact⟨bE,bS2 GE251.out GE256.out⟩
             ·rw[if_neg c30] at H
              have c30b0:((((rd_T116 l0_1 x25_2).f0).length:Int) == 0)=false:=beq_eq_false_iff_ne.mpr c30
              have c30b1:((((rd_T116 l0_1 x25_2).f0).length:Int) != 0)=true:=bne_iff_ne.mpr c30
              have c30b2 : ¬ (((rd_T116 l0_1 x25_2).f0)=[]):=fun h_=>c30 (by rw[h_];rfl)
              have H':=Aside0.mk H
              clear H
              have p255:0≤(x25_2:Int):=of_decide_eq_true (bD)
              have q255:x25_2 < (l0_1.length:Int):=of_decide_eq_true (bD)
              obtain⟨ad255,A255_0,c255_0,e255,hx255_0,hx255_1,hx255_2,hl255_0,hi255_0⟩:=at_T116 HR0_1.out x25_2 p255 q255
              cases e255
              replace hx255_0:=(HB.out.cell (World.block_lt_of_cell? w _ hx255_0)).trans hx255_0
              replace hx255_1:=(HB.out.cell (World.block_lt_of_cell? w _ hx255_1)).trans hx255_1
              replace hx255_2:=(HB.out.cell (World.block_lt_of_cell? w _ hx255_2)).trans hx255_2
              have HR255_0:=Aside0.mk hi255_0
              have HC255_0:=Aside0.mk hl255_0
              clear hi255_0 hl255_0
              replace p255:=eq_true p255
              replace q255:=eq_true q255
              go_wp2_with (first|((with_reducible refine gate_dst (N:=4) rfl ?_);(try (refine gate_guard (by rfl) ?_;dsimp only));refine box_event ?hg (N:=4) ?hd (cs:=#[.slice none 0 0,.int .i64 0,.int .i64 0]) (t:=116) ?hr ?_;(case hd=>rfl);(case hg=>rfl);(case hr=>first|(go_simp;done)|(go_simp;rfl));intro gb256 hg w38 hbox hb;have n0_:=Aside0.mk (bM BK251.out hb);have n1_:=Aside0.mk (below_step (bS GE251.out) hb);have n2_:=Aside0.mk (hbox);have n3_:=Aside0.mk ((by rw[hg];exact(below_size (bS GE251.out)):w.heap.size≤gb256));have n4_:=Aside0.mk ((by rw[hg];exact(below_size (bS GE251.out)):w.heap.size≤gb256));have n5_:=Aside0.mk ((bN BK251.out hg:gb251≠gb256));have n6_:=Aside0.mk ((bO BK251.out hg:gb256≠gb251));clear BK251 HB;have BK251:=n0_;have HB:=n1_;have BK256:=n2_;have GW256:=n3_;have GE256:=n4_;have NB251_256:=n5_;have NB256_251:=n6_;clear n0_ n1_ n2_ n3_ n4_ n5_ n6_;clear hb hbox hg;have hnb39:=NB256_251.out;have hnc39:=NB251_256.out;obtain⟨hcz40_0,hcz40_1,hcz40_2⟩:=cC3 BK256.out;obtain⟨hfz40_0,hfz40_1,hfz40_2⟩:=cF3 BK256.out)|(go_at_call 113;(with_reducible refine(slices_ContainsFunc_int_int_impl_GoodTurns_lit1.calls k2 _ _ ((rd_T116 l0_1 x25_2).f0)  false _ ?side1 ?side2 A21.out).mono ?_);(case side1=>exact Kd.C_below HR255_0.out (bS2 GE251.out GE256.out));(case side2=>exact HC255_0.out);rintro e w' ⟨rfl,⟨nd,rfl⟩⟩)|(go_at_call 79;(with_reducible refine(impl_within.calls ((rd_T116 l0_1 x25_2).f1) 0 100 true _ A26.out).mono ?_);rintro e w' ⟨rfl,⟨nd,rfl⟩⟩)|(go_at_call 140;(with_reducible refine(impl_isTime.calls ((rd_T116 l0_1 x25_2).f2) true _ A28.out).mono ?_);rintro e w' ⟨rfl,⟨nd,rfl⟩⟩))
              go_roundg k2
              case measure=>have:=HJ1.out;have:=HK2.out;omega
              case rel=>exact⟨(wrap64 (x25_2+1)),(bR),H',⟨by have:=HJ1.out;have:=HK2.out;omega⟩,⟨by(with_reducible repeat (first|refine blk_drewN ?_ _|refine blk_drew ?_|refine blk_alloc ?_ _));refine blk_far ?_ NB251_256.out _;(with_reducible repeat (first|refine blk_drewN ?_ _|refine blk_drew ?_|refine blk_alloc ?_ _));refine blk_far ?_ NB251_256.out _;(with_reducible repeat (first|refine blk_drewN ?_ _|refine blk_drew ?_|refine blk_alloc ?_ _));refine blk_far ?_ NB251_256.out _;(with_reducible repeat (first|refine blk_drewN ?_ _|refine blk_drew ?_|refine blk_alloc ?_ _));exact BK251.out⟩,⟨bS2 GE251.out GE256.out⟩⟩
            ·replace c29:=Bool.eq_false_iff.mpr c29
             subst c29
             have H1:(some false)=some r:=by rw[if_neg (show ¬ (false=true) by decide)] at H;exact H
             clear H
             have H:=H1
             clear H1
             obtain rfl:=Option.some.inj H
             have p255:0≤(x25_2:Int):=of_decide_eq_true (bD)
             have q255:x25_2 < (l0_1.length:Int):=of_decide_eq_true (bD)
             obtain⟨ad255,A255_0,c255_0,e255,hx255_0,hx255_1,hx255_2,hl255_0,hi255_0⟩:=at_T116 HR0_1.out x25_2 p255 q255
             cases e255
             replace hx255_0:=(HB.out.cell (World.block_lt_of_cell? w _ hx255_0)).trans hx255_0
             replace hx255_1:=(HB.out.cell (World.block_lt_of_cell? w _ hx255_1)).trans hx255_1
             replace hx255_2:=(HB.out.cell (World.block_lt_of_cell? w _ hx255_2)).trans hx255_2
             have HR255_0:=Aside0.mk hi255_0
             have HC255_0:=Aside0.mk hl255_0
             clear hi255_0 hl255_0
             replace p255:=eq_true p255
             replace q255:=eq_true q255
             go_wp2_with (first|((with_reducible refine gate_dst (N:=4) rfl ?_);(try (refine gate_guard (by rfl) ?_;dsimp only));refine box_event ?hg (N:=4) ?hd (cs:=#[.slice none 0 0,.int .i64 0,.int .i64 0]) (t:=116) ?hr ?_;(case hd=>rfl);(case hg=>rfl);(case hr=>first|(go_simp;done)|(go_simp;rfl));intro gb256 hg w41 hbox hb;have n0_:=Aside0.mk (bM BK251.out hb);have n1_:=Aside0.mk (below_step (bS GE251.out) hb);have n2_:=Aside0.mk (hbox);have n3_:=Aside0.mk ((by rw[hg];exact(below_size (bS GE251.out)):w.heap.size≤gb256));have n4_:=Aside0.mk ((by rw[hg];exact(below_size (bS GE251.out)):w.heap.size≤gb256));have n5_:=Aside0.mk ((bN BK251.out hg:gb251≠gb256));have n6_:=Aside0.mk ((bO BK251.out hg:gb256≠gb251));clear BK251 HB;have BK251:=n0_;have HB:=n1_;have BK256:=n2_;have GW256:=n3_;have GE256:=n4_;have NB251_256:=n5_;have NB256_251:=n6_;clear n0_ n1_ n2_ n3_ n4_ n5_ n6_;clear hb hbox hg;have hnb42:=NB256_251.out;have hnc42:=NB251_256.out;obtain⟨hcz43_0,hcz43_1,hcz43_2⟩:=cC3 BK256.out;obtain⟨hfz43_0,hfz43_1,hfz43_2⟩:=cF3 BK256.out)|(go_at_call 113;(with_reducible refine(slices_ContainsFunc_int_int_impl_GoodTurns_lit1.calls k2 _ _ ((rd_T116 l0_1 x25_2).f0)  false _ ?side1 ?side2 A21.out).mono ?_);(case side1=>exact Kd.C_below HR255_0.out (bS2 GE251.out GE256.out));(case side2=>exact HC255_0.out);rintro e w' ⟨rfl,⟨nd,rfl⟩⟩)|(go_at_call 79;(with_reducible refine(impl_within.calls ((rd_T116 l0_1 x25_2).f1) 0 100 true _ A26.out).mono ?_);rintro e w' ⟨rfl,⟨nd,rfl⟩⟩)|(go_at_call 140;(with_reducible refine(impl_isTime.calls ((rd_T116 l0_1 x25_2).f2) false _ A28.out).mono ?_);rintro e w' ⟨rfl,⟨nd,rfl⟩⟩))
             go_ret
             exact⟨bE,bS2 GE251.out GE256.out⟩
           ·replace c27:=Bool.eq_false_iff.mpr c27
            subst c27
            have H1:(some false)=some r:=by rw[if_neg (show ¬ (false=true) by decide)] at H;exact H
            clear H
            have H:=H1
            clear H1
            obtain rfl:=Option.some.inj H
            have p255:0≤(x25_2:Int):=of_decide_eq_true (bD)
            have q255:x25_2 < (l0_1.length:Int):=of_decide_eq_true (bD)
            obtain⟨ad255,A255_0,c255_0,e255,hx255_0,hx255_1,hx255_2,hl255_0,hi255_0⟩:=at_T116 HR0_1.out x25_2 p255 q255
            cases e255
            replace hx255_0:=(HB.out.cell (World.block_lt_of_cell? w _ hx255_0)).trans hx255_0
            replace hx255_1:=(HB.out.cell (World.block_lt_of_cell? w _ hx255_1)).trans hx255_1
            replace hx255_2:=(HB.out.cell (World.block_lt_of_cell? w _ hx255_2)).trans hx255_2
            have HR255_0:=Aside0.mk hi255_0
            have HC255_0:=Aside0.mk hl255_0
            clear hi255_0 hl255_0
            replace p255:=eq_true p255
            replace q255:=eq_true q255
            go_wp2_with (first|((with_reducible refine gate_dst (N:=4) rfl ?_);(try (refine gate_guard (by rfl) ?_;dsimp only));refine box_event ?hg (N:=4) ?hd (cs:=#[.slice none 0 0,.int .i64 0,.int .i64 0]) (t:=116) ?hr ?_;(case hd=>rfl);(case hg=>rfl);(case hr=>first|(go_simp;done)|(go_simp;rfl));intro gb256 hg w44 hbox hb;have n0_:=Aside0.mk (bM BK251.out hb);have n1_:=Aside0.mk (below_step (bS GE251.out) hb);have n2_:=Aside0.mk (hbox);have n3_:=Aside0.mk ((by rw[hg];exact(below_size (bS GE251.out)):w.heap.size≤gb256));have n4_:=Aside0.mk ((by rw[hg];exact(below_size (bS GE251.out)):w.heap.size≤gb256));have n5_:=Aside0.mk ((bN BK251.out hg:gb251≠gb256));have n6_:=Aside0.mk ((bO BK251.out hg:gb256≠gb251));clear BK251 HB;have BK251:=n0_;have HB:=n1_;have BK256:=n2_;have GW256:=n3_;have GE256:=n4_;have NB251_256:=n5_;have NB256_251:=n6_;clear n0_ n1_ n2_ n3_ n4_ n5_ n6_;clear hb hbox hg;have hnb45:=NB256_251.out;have hnc45:=NB251_256.out;obtain⟨hcz46_0,hcz46_1,hcz46_2⟩:=cC3 BK256.out;obtain⟨hfz46_0,hfz46_1,hfz46_2⟩:=cF3 BK256.out)|(go_at_call 113;(with_reducible refine(slices_ContainsFunc_int_int_impl_GoodTurns_lit1.calls k2 _ _ ((rd_T116 l0_1 x25_2).f0)  false _ ?side1 ?side2 A21.out).mono ?_);(case side1=>exact Kd.C_below HR255_0.out (bS2 GE251.out GE256.out));(case side2=>exact HC255_0.out);rintro e w' ⟨rfl,⟨nd,rfl⟩⟩)|(go_at_call 79;(with_reducible refine(impl_within.calls ((rd_T116 l0_1 x25_2).f1) 0 100 false _ A26.out).mono ?_);rintro e w' ⟨rfl,⟨nd,rfl⟩⟩))
            go_ret
            exact⟨bE,bS2 GE251.out GE256.out⟩
        ·rw[if_neg c16] at H
         exact absurd H (by simp)
       ·rw[if_neg c15] at H
        exact absurd H (by simp)
      ·rw[if_neg c14] at H
       have c14b0:decide (x25_2 < (l0_1.length:Int))=false:=decide_eq_false c14
       clear c14
       obtain rfl:=Option.some.inj H
       go_wp2
       go_ret
       exact⟨bE,bS GE251.out⟩

/-! ### slices_Clone_int_int: function 98 -/
def slices_Clone_int_int.f (l0:List Int):Option (List Int):=(some (([]:List Int):List Int)).bind fun y260=>(if y260.length+l0.length < 17592186044416 then (some (y260++l0)) else (none))
set_option maxHeartbeats 8000000 in
set_option maxRecDepth 100000 in
theorem slices_Clone_int_int.calls (A0:Option Addr) (c0:Nat) (l0:List Int) (r:List Int) (w:World) (hr0:Kd.C (Kd.int .i64) w A0 l0.length l0) (hc0:l0.length≤c0) (h:slices_Clone_int_int.f l0=some r) :
  Calls Try.prog 98 #[.slice A0 l0.length c0] w fun e w' => ∃ v0_:Value,e=.returned (v0_)∧Kd.R (Kd.int .i64) 3 w' w.heap.size (fun _=>True) v0_ r∧Below w.heap.size w w':=by
 have HR0:=Aside0.mk hr0
 have HC0:=Aside0.mk hc0
 clear hr0 hc0
 by_cases hA_:A0=none
 ·have h0_:l0=[]:=by
   have z_:=HR0.out
   rw[hA_] at z_
   cases l0 with
   | nil=>rfl
   | cons x_ xs_ =>
    obtain⟨ad_,e_,_⟩:=z_.2.2 (by simp)
    cases e_
  subst hA_
  subst h0_
  have hr_:r=[]:=by simpa [slices_Clone_int_int.f] using h.symm
  subst hr_
  have hq_ : ∀ (w:World) (n c:Nat),(binOp .eql 37 (.slice none n c) (.slice none 0 0)).run Try.prog w=.ok (.bool true) w:=fun w n c=>by
   rw[Lib.run_eql_slice_nil w _ _ _ _ _ _ _ Try.underlying37]
   rfl
  go_enter Try.func98,Try.ntmps98
  go_wp2
  go_ret
  exact⟨_,rfl,Kd.R_nil _ _ _ _ _,Below.refl _ _⟩
 have hq_ : ∀ w,(binOp .eql 37 (.slice A0 l0.length c0) (.slice none 0 0)).run Try.prog w=.ok (.bool false) w:=fun w=>by
  rw[Lib.run_eql_slice_nil w _ _ _ _ _ _ _ Try.underlying37]
  cases A0 with
  | none=>exact absurd rfl hA_
  | some _=>rfl
 have HB:=Aside0.mk (Below.refl w.heap.size w)
 have H:((some (([]:List Int):List Int)).bind fun y260=>(if y260.length+l0.length < 17592186044416 then (some (y260++l0)) else (none)))=some r:=h
 clear h
 obtain⟨y260,hy260⟩ : ∃ y_:List Int,y_=(([]:List Int)):=⟨_,rfl⟩
 replace H:(if y260.length+l0.length < 17592186044416 then (some (y260++l0)) else (none))=some r:=by first|(rw[hy260];with_reducible exact H)|(have H2_:=(Option.bind_some _ _).symm.trans H;rw[hy260];with_reducible exact H2_)|(have H2_:=(Option.bind_some _ _).symm.trans H;with_reducible exact H2_)|with_reducible exact H|(rw[hy260];exact H)|exact H
 have Ny260:=Aside0.mk hy260
 clear hy260
 by_cases c2:y260.length+l0.length < 17592186044416
 ·rw[if_pos c2] at H
  have LMc2:=Aside0.mk c2
  clear c2
  obtain⟨y263,hy263⟩ : ∃ y_:List Int,y_=(y260++l0):=⟨_,rfl⟩
  replace H:(some y263)=some r:=by first|(rw[hy263];with_reducible exact H)|(have H2_:=(Option.bind_some _ _).symm.trans H;rw[hy263];with_reducible exact H2_)|(have H2_:=(Option.bind_some _ _).symm.trans H;with_reducible exact H2_)|with_reducible exact H|(rw[hy263];exact H)|exact H
  have Ny263:=Aside0.mk hy263
  clear hy263
  obtain rfl:=Option.some.inj H
  go_enter Try.func98,Try.ntmps98
  go_wp2_with (first|((with_reducible refine gate_dst (N:=5) rfl ?_);refine Kd.R_lit (Kd.int .i64) _ 3 ?hg (N:=5) ?hd (xs:=([]:List Int)) (inner:=[]) (ok:=fun _=>True) (okp:=fun _=>True) ?hr ?hp (fun _ hk=>hk) trivial (Below.refl _ _) (Nat.le_refl _) (by simp) ?_;(case hd=>rfl);(case hg=>rfl);(case hr=>first|(go_simp;done)|(go_simp;rfl));(case hp=>exact(Reps.none _ _));intro v261 w3 ho4 hb hg_ hnew_;clear hg_ hnew_;(first|rw[← Ny260.out] at ho4|(simp only[Int.reduceToNat] at ho4;rw[← Ny260.out] at ho4));have n0_:=Aside0.mk (Kd.R_lower ho4 (below_size (bB)));have n1_:=Aside0.mk (below_step (bB) hb);clear HB;have HO262:=n0_;have HB:=n1_;clear n0_ n1_;clear hb ho4)|((with_reducible refine gate_builtin (b:=.append) (xs:=#[.tmp 5,.tmp 6]) rfl ?_);at_builtin;refine Kd.R_append_rows (Kd.int .i64) (w0:=w) w.heap.size rfl (.tmp 5) (.tmp 6) 37 3 (.int .i64 0) 8 rfl Try.underlying37 info3 rfl (by decide) (by omega) v261 y260 l0 _ _ _ (fun _=>True) (fun _=>False) rfl rfl ?aO ?aR (fun _ _ h=>h) (fun _ h=>h.elim) ?aF ?aB ?aS ?aL ?_;(case aR=>exact bC HR0.out);(case aB=>exact(bB));(case aF=>exact(fun _ _=>trivial));(case aO=>exact(bK HO262.out));(case aS=>exact(below_size (bB)));(case aL=>have:=LMc2.out;omega);intro v264 w5 ho hb hg hat;rw[← Ny263.out] at ho;have n0_:=Aside0.mk (hb);have n1_:=Aside0.mk (ho);clear HB HO262;have HB:=n0_;have HO265:=n1_;clear n0_ n1_;clear ho hb hg hat))
  go_ret
  exact⟨_,by first|rfl|(simp[errW_none,errW_some]<;>rfl)|(simp[*,errW_none,errW_some]<;>rfl),by(with_reducible repeat (first|apply Kd.R_alloc|apply Kd.R_drewN|apply Kd.R_drew));exact HO265.out,bB⟩
 ·rw[if_neg c2] at H
  exact absurd H (by simp)

-- NOT PRINTED: function 142 (impl_Queue)

end Go.Proofs.Yteneeohaoplpbaa.XFnExactRunRounds
