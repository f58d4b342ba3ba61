-- Written by this session's own program (wip/xprint.py) out of the translation; Lean checks it.
import Derived.Test.YteneeohaoplpbaaXFnExactRunRoundsx0
import Derived.Test.YteneeohaoplpbaaXFnExactRunRoundsx2
namespace Go.Proofs.Yteneeohaoplpbaa.XFnExactRunRounds
open Go.RowKit Go.Proofs.YteneeohaoplpbaaW.PrintWords Go.Proofs.YteneeohaoplpbaaW.PrintLast Go.Proofs.YteneeohaoplpbaaW.PrintMore
attribute [local go_sem] max2_int min2_int max_two min_two max_three min_three max_four min_four   -- for this text's walks alone
set_option linter.unusedVariables false
set_option linter.unusedSimpArgs false

/-! ### laws_heldQueueS: function 83 -/
def laws_heldQueueS.l0:Nat→List (S116)→Int→Int→Option (Int)
 | 0,_,_,_=>none
 | k+1,x0,x1,x5=>if x5 < (x0.length:Int) then (if 0≤x5 then ((laws_heldIntS.f k ((rd_T116 x0 x5).f0) x1).bind fun t148=>(if t148 < 0 then (some (-1)) else (if ((rd_T116 x0 x5).f1)=t148 then (if ((rd_T116 x0 x5).f2)=(wrap64 (t148+1)) then (laws_heldQueueS.l0 k x0 (wrap64 ((wrap64 (t148+1))+1)) (wrap64 (x5+1))) else (some (-1))) else (some (-1))))) else (none)) else (some x1)
def laws_heldQueueS.f (k:Nat) (l0:List (S116)) (a1:Int):Option (Int):=laws_heldQueueS.l0 k l0 a1 0
theorem laws_heldQueueS.mono_l : ∀ k,(∀ y0 y1 y2,LeO (laws_heldQueueS.l0 k y0 y1 y2) (laws_heldQueueS.l0 (k+1) y0 y1 y2))
 | 0=>fun _ _ _ r h=>by simp[laws_heldQueueS.l0] at h
 | k+1=>by
  have ih0:=laws_heldQueueS.mono_l k
  ·intro y0 y1 y2
   unfold laws_heldQueueS.l0
   repeat' first
   | (with_reducible exact ih0 _ _ _)
   | (with_reducible exact laws_heldIntS.mono _ _ _)
   | (with_reducible exact LeO.refl _)
   | (with_reducible exact LeO.none _)
   | (with_reducible refine LeO.ite ?_ ?_)
   | (with_reducible refine LeO.bind ?_ (fun _ => ?_))
   | exact ih0 _ _ _
   | exact laws_heldIntS.mono _ _ _
   | exact LeO.none _
   | refine LeO.ite ?_ ?_
   | refine LeO.bind ?_ (fun _ => ?_)
theorem laws_heldQueueS.mono : ∀ a0 a1 k,LeO (laws_heldQueueS.f k a0 a1) (laws_heldQueueS.f (k+1) a0 a1):=by
 intro a0 a1 k
 have ih0:=laws_heldQueueS.mono_l k
 unfold laws_heldQueueS.f
 repeat' first
  | (with_reducible exact ih0 _ _ _)
  | (with_reducible exact laws_heldIntS.mono _ _ _)
  | (with_reducible exact LeO.refl _)
  | (with_reducible exact LeO.none _)
  | (with_reducible refine LeO.ite ?_ ?_)
  | (with_reducible refine LeO.bind ?_ (fun _ => ?_))
  | exact ih0 _ _ _
  | exact laws_heldIntS.mono _ _ _
  | exact LeO.none _
  | refine LeO.ite ?_ ?_
  | refine LeO.bind ?_ (fun _ => ?_)
set_option maxHeartbeats 8000000 in
set_option maxRecDepth 100000 in
theorem laws_heldQueueS.calls (k:Nat) (A0:Option Addr) (c0:Nat) (l0:List (S116)) (a1:Int) (r:Int) (w:World) (hr0:Kd.C k116 w A0 l0.length l0) (hc0:l0.length≤c0) (h:laws_heldQueueS.f k l0 a1=some r) :
  Calls Try.prog 83 #[.slice A0 l0.length c0,.int .i64 a1] w fun e w'=>e=.returned (.int .i64 r)∧Drawn0 w w':=by
 have HR0:=Aside0.mk hr0
 have HC0:=Aside0.mk hc0
 clear hr0 hc0
 have H:(laws_heldQueueS.l0 k l0 a1 0)=some r:=h
 clear h
 have H':=Aside0.mk H
 clear H
 go_enter Try.func83,Try.ntmps83
 go_wp2
 go_loopg [1,5] k (fun kq v1 v5 w' => ∃ (x1_1:Int) (x5_1:Int),v1=.int .i64 x1_1∧v5=.int .i64 x5_1∧Aside0 (laws_heldQueueS.l0 kq l0 x1_1 x5_1=some r)∧Aside0 (kq≤k)∧Drawn0 w w')
 case atStart=>exact⟨(a1),(0),(bR),(bR),H',⟨Nat.le_refl _⟩,bW⟩
 case round =>
  clear H'
  try clear p2
  obtain⟨x1_1,x5_1,rfl,rfl,HA,HK1,⟨m1,rfl⟩⟩:=hrel
  cases gk with
  | zero=>exact absurd HA.out (by simp[laws_heldQueueS.l0])
  | succ k1 =>
   have H:=HA.out
   clear HA
   simp only[laws_heldQueueS.l0] at H
   by_cases c3:x5_1 < (l0.length:Int)
   ·rw[if_pos c3] at H
    have c3b0:decide (x5_1 < (l0.length:Int))=true:=decide_eq_true c3
    clear c3
    by_cases c4:0≤x5_1
    ·rw[if_pos c4] at H
     have c4b0:decide (0≤x5_1)=true:=decide_eq_true c4
     clear c4
     replace H:=Option.bind_eq_some_iff.mp H
     obtain⟨t148,A50,H⟩:=H
     have A5:=Aside0.mk A50
     clear A50
     by_cases c6:t148 < 0
     ·rw[if_pos c6] at H
      have c6b0:decide (t148 < 0)=true:=decide_eq_true c6
      clear c6
      obtain rfl:=Option.some.inj H
      have p147:0≤(x5_1:Int):=of_decide_eq_true (bD)
      have q147:x5_1 < (l0.length:Int):=of_decide_eq_true (bD)
      obtain⟨ad147,A147_0,c147_0,e147,hx147_0,hx147_1,hx147_2,hl147_0,hi147_0⟩:=at_T116 HR0.out x5_1 p147 q147
      cases e147
      have HR147_0:=Aside0.mk hi147_0
      have HC147_0:=Aside0.mk hl147_0
      clear hi147_0 hl147_0
      replace p147:=eq_true p147
      replace q147:=eq_true q147
      go_wp2_with (first|((with_reducible refine gate_callee (f:=30) rfl ?_);refine goesA (some 18) rfl rfl Try.func30 #[.slice A147_0 ((rd_T116 l0 x5_1).f0).length c147_0,.int .i64 x1_1] rfl ?_;(with_reducible refine(laws_heldIntS.calls k1 _ _ ((rd_T116 l0 x5_1).f0) x1_1 t148 _ ?side1 ?side2 A5.out).mono ?_);(case side1=>repeat (first|exact HR147_0.out|(with_reducible refine Kd.C_alloc ?_ _)|(with_reducible refine Kd.C_drewN ?_ _)|(with_reducible refine Kd.C_drew ?_)));(case side2=>exact HC147_0.out);rintro e w' ⟨rfl,⟨nd,rfl⟩⟩;refine⟨_,rfl,?_⟩))
      go_ret
      exact⟨bR,bW⟩
     ·rw[if_neg c6] at H
      have c6b0:decide (t148 < 0)=false:=decide_eq_false c6
      clear c6
      by_cases c7:((rd_T116 l0 x5_1).f1)=t148
      ·rw[if_pos c7] at H
       have c7b0:(((rd_T116 l0 x5_1).f1) == t148)=true:=beq_iff_eq.mpr c7
       have c7b1:(((rd_T116 l0 x5_1).f1) != t148)=false:=bne_eq_false_iff_eq.mpr c7
       clear c7
       by_cases c8:((rd_T116 l0 x5_1).f2)=(wrap64 (t148+1))
       ·rw[if_pos c8] at H
        have c8b0:(((rd_T116 l0 x5_1).f2) == (wrap64 (t148+1)))=true:=beq_iff_eq.mpr c8
        have c8b1:(((rd_T116 l0 x5_1).f2) != (wrap64 (t148+1)))=false:=bne_eq_false_iff_eq.mpr c8
        clear c8
        have H':=Aside0.mk H
        clear H
        have p147:0≤(x5_1:Int):=of_decide_eq_true (bD)
        have q147:x5_1 < (l0.length:Int):=of_decide_eq_true (bD)
        obtain⟨ad147,A147_0,c147_0,e147,hx147_0,hx147_1,hx147_2,hl147_0,hi147_0⟩:=at_T116 HR0.out x5_1 p147 q147
        cases e147
        have HR147_0:=Aside0.mk hi147_0
        have HC147_0:=Aside0.mk hl147_0
        clear hi147_0 hl147_0
        replace p147:=eq_true p147
        replace q147:=eq_true q147
        go_wp2_with (first|((with_reducible refine gate_callee (f:=30) rfl ?_);refine goesA (some 18) rfl rfl Try.func30 #[.slice A147_0 ((rd_T116 l0 x5_1).f0).length c147_0,.int .i64 x1_1] rfl ?_;(with_reducible refine(laws_heldIntS.calls k1 _ _ ((rd_T116 l0 x5_1).f0) x1_1 t148 _ ?side1 ?side2 A5.out).mono ?_);(case side1=>repeat (first|exact HR147_0.out|(with_reducible refine Kd.C_alloc ?_ _)|(with_reducible refine Kd.C_drewN ?_ _)|(with_reducible refine Kd.C_drew ?_)));(case side2=>exact HC147_0.out);rintro e w' ⟨rfl,⟨nd,rfl⟩⟩;refine⟨_,rfl,?_⟩;have p149:0≤(x5_1:Int):=of_decide_eq_true (bD);have q149:x5_1 < (l0.length:Int):=of_decide_eq_true (bD);obtain⟨ad149,A149_0,c149_0,e149,hx149_0,hx149_1,hx149_2,hl149_0,hi149_0⟩:=at_T116 HR0.out x5_1 p149 q149;obtain rfl:ad147=ad149:=(by injection e149);have HR149_0:=Aside0.mk hi149_0;have HC149_0:=Aside0.mk hl149_0;clear hi149_0 hl149_0;replace p149:=eq_true p149;replace q149:=eq_true q149;have ea_:=Option.some.inj (hx147_0.symm.trans hx149_0);injection ea_ with ea_ en_ ec_;subst ea_;subst ec_;clear en_;have p150:0≤(x5_1:Int):=of_decide_eq_true (bD);have q150:x5_1 < (l0.length:Int):=of_decide_eq_true (bD);obtain⟨ad150,A150_0,c150_0,e150,hx150_0,hx150_1,hx150_2,hl150_0,hi150_0⟩:=at_T116 HR0.out x5_1 p150 q150;obtain rfl:ad147=ad150:=(by injection e150);have HR150_0:=Aside0.mk hi150_0;have HC150_0:=Aside0.mk hl150_0;clear hi150_0 hl150_0;replace p150:=eq_true p150;replace q150:=eq_true q150;have ea_:=Option.some.inj (hx147_0.symm.trans hx150_0);injection ea_ with ea_ en_ ec_;subst ea_;subst ec_;clear en_))
        go_roundg k1
        case measure=>have:=HK1.out;omega
        case rel=>exact⟨(wrap64 ((wrap64 (t148+1))+1)),(wrap64 (x5_1+1)),(bR),(bR),H',⟨by have:=HK1.out;omega⟩,bW⟩
       ·rw[if_neg c8] at H
        have c8b0:(((rd_T116 l0 x5_1).f2) == (wrap64 (t148+1)))=false:=beq_eq_false_iff_ne.mpr c8
        have c8b1:(((rd_T116 l0 x5_1).f2) != (wrap64 (t148+1)))=true:=bne_iff_ne.mpr c8
        obtain rfl:=Option.some.inj H
        have p147:0≤(x5_1:Int):=of_decide_eq_true (bD)
        have q147:x5_1 < (l0.length:Int):=of_decide_eq_true (bD)
        obtain⟨ad147,A147_0,c147_0,e147,hx147_0,hx147_1,hx147_2,hl147_0,hi147_0⟩:=at_T116 HR0.out x5_1 p147 q147
        cases e147
        have HR147_0:=Aside0.mk hi147_0
        have HC147_0:=Aside0.mk hl147_0
        clear hi147_0 hl147_0
        replace p147:=eq_true p147
        replace q147:=eq_true q147
        go_wp2_with (first|((with_reducible refine gate_callee (f:=30) rfl ?_);refine goesA (some 18) rfl rfl Try.func30 #[.slice A147_0 ((rd_T116 l0 x5_1).f0).length c147_0,.int .i64 x1_1] rfl ?_;(with_reducible refine(laws_heldIntS.calls k1 _ _ ((rd_T116 l0 x5_1).f0) x1_1 t148 _ ?side1 ?side2 A5.out).mono ?_);(case side1=>repeat (first|exact HR147_0.out|(with_reducible refine Kd.C_alloc ?_ _)|(with_reducible refine Kd.C_drewN ?_ _)|(with_reducible refine Kd.C_drew ?_)));(case side2=>exact HC147_0.out);rintro e w' ⟨rfl,⟨nd,rfl⟩⟩;refine⟨_,rfl,?_⟩;have p149:0≤(x5_1:Int):=of_decide_eq_true (bD);have q149:x5_1 < (l0.length:Int):=of_decide_eq_true (bD);obtain⟨ad149,A149_0,c149_0,e149,hx149_0,hx149_1,hx149_2,hl149_0,hi149_0⟩:=at_T116 HR0.out x5_1 p149 q149;obtain rfl:ad147=ad149:=(by injection e149);have HR149_0:=Aside0.mk hi149_0;have HC149_0:=Aside0.mk hl149_0;clear hi149_0 hl149_0;replace p149:=eq_true p149;replace q149:=eq_true q149;have ea_:=Option.some.inj (hx147_0.symm.trans hx149_0);injection ea_ with ea_ en_ ec_;subst ea_;subst ec_;clear en_;have p150:0≤(x5_1:Int):=of_decide_eq_true (bD);have q150:x5_1 < (l0.length:Int):=of_decide_eq_true (bD);obtain⟨ad150,A150_0,c150_0,e150,hx150_0,hx150_1,hx150_2,hl150_0,hi150_0⟩:=at_T116 HR0.out x5_1 p150 q150;obtain rfl:ad147=ad150:=(by injection e150);have HR150_0:=Aside0.mk hi150_0;have HC150_0:=Aside0.mk hl150_0;clear hi150_0 hl150_0;replace p150:=eq_true p150;replace q150:=eq_true q150;have ea_:=Option.some.inj (hx147_0.symm.trans hx150_0);injection ea_ with ea_ en_ ec_;subst ea_;subst ec_;clear en_))
        go_ret
        exact⟨bR,bW⟩
      ·rw[if_neg c7] at H
       have c7b0:(((rd_T116 l0 x5_1).f1) == t148)=false:=beq_eq_false_iff_ne.mpr c7
       have c7b1:(((rd_T116 l0 x5_1).f1) != t148)=true:=bne_iff_ne.mpr c7
       obtain rfl:=Option.some.inj H
       have p147:0≤(x5_1:Int):=of_decide_eq_true (bD)
       have q147:x5_1 < (l0.length:Int):=of_decide_eq_true (bD)
       obtain⟨ad147,A147_0,c147_0,e147,hx147_0,hx147_1,hx147_2,hl147_0,hi147_0⟩:=at_T116 HR0.out x5_1 p147 q147
       cases e147
       have HR147_0:=Aside0.mk hi147_0
       have HC147_0:=Aside0.mk hl147_0
       clear hi147_0 hl147_0
       replace p147:=eq_true p147
       replace q147:=eq_true q147
       go_wp2_with (first|((with_reducible refine gate_callee (f:=30) rfl ?_);refine goesA (some 18) rfl rfl Try.func30 #[.slice A147_0 ((rd_T116 l0 x5_1).f0).length c147_0,.int .i64 x1_1] rfl ?_;(with_reducible refine(laws_heldIntS.calls k1 _ _ ((rd_T116 l0 x5_1).f0) x1_1 t148 _ ?side1 ?side2 A5.out).mono ?_);(case side1=>repeat (first|exact HR147_0.out|(with_reducible refine Kd.C_alloc ?_ _)|(with_reducible refine Kd.C_drewN ?_ _)|(with_reducible refine Kd.C_drew ?_)));(case side2=>exact HC147_0.out);rintro e w' ⟨rfl,⟨nd,rfl⟩⟩;refine⟨_,rfl,?_⟩;have p149:0≤(x5_1:Int):=of_decide_eq_true (bD);have q149:x5_1 < (l0.length:Int):=of_decide_eq_true (bD);obtain⟨ad149,A149_0,c149_0,e149,hx149_0,hx149_1,hx149_2,hl149_0,hi149_0⟩:=at_T116 HR0.out x5_1 p149 q149;obtain rfl:ad147=ad149:=(by injection e149);have HR149_0:=Aside0.mk hi149_0;have HC149_0:=Aside0.mk hl149_0;clear hi149_0 hl149_0;replace p149:=eq_true p149;replace q149:=eq_true q149;have ea_:=Option.some.inj (hx147_0.symm.trans hx149_0);injection ea_ with ea_ en_ ec_;subst ea_;subst ec_;clear en_))
       go_ret
       exact⟨bR,bW⟩
    ·rw[if_neg c4] at H
     exact absurd H (by simp)
   ·rw[if_neg c3] at H
    have c3b0:decide (x5_1 < (l0.length:Int))=false:=decide_eq_false c3
    clear c3
    obtain rfl:=Option.some.inj H
    go_wp2
    go_ret
    exact⟨bR,bW⟩

/-! ### laws_heldTurns: function 21 -/
def laws_heldTurns.f (k:Nat) (a0_0:Int) (l0_1:List (S116)) (a0_2:Int) (a1:Int):Option (Int):=(laws_heldQueueS.f k l0_1 a1).bind fun t152=>(if t152 < 0 then (some (-1)) else (some t152))
theorem laws_heldTurns.mono : ∀ a0 a1 a2 a3 k,LeO (laws_heldTurns.f k a0 a1 a2 a3) (laws_heldTurns.f (k+1) a0 a1 a2 a3):=by
 intro a0 a1 a2 a3 k
 unfold laws_heldTurns.f
 repeat' first
  | (with_reducible exact laws_heldQueueS.mono _ _ _)
  | (with_reducible exact LeO.refl _)
  | (with_reducible exact LeO.none _)
  | (with_reducible refine LeO.ite ?_ ?_)
  | (with_reducible refine LeO.bind ?_ (fun _ => ?_))
  | exact laws_heldQueueS.mono _ _ _
  | exact LeO.none _
  | refine LeO.ite ?_ ?_
  | refine LeO.bind ?_ (fun _ => ?_)
set_option maxHeartbeats 8000000 in
set_option maxRecDepth 100000 in
theorem laws_heldTurns.calls (k:Nat) (a0_0:Int) (A0_1:Option Addr) (c0_1:Nat) (l0_1:List (S116)) (a0_2:Int) (a1:Int) (r:Int) (w:World) (hr0_1:Kd.C k116 w A0_1 l0_1.length l0_1) (hc0_1:l0_1.length≤c0_1) (h:laws_heldTurns.f k a0_0 l0_1 a0_2 a1=some r) :
  Calls Try.prog 21 #[.agg #[.int .i64 a0_0,.slice A0_1 l0_1.length c0_1,.int .i64 a0_2],.int .i64 a1] w fun e w'=>e=.returned (.int .i64 r)∧Below w.heap.size w w':=by
 have hu28:=Try.underlying28
 have HR0_1:=Aside0.mk hr0_1
 have HC0_1:=Aside0.mk hc0_1
 clear hr0_1 hc0_1
 have HB:=Aside0.mk (Below.refl w.heap.size w)
 have H:((laws_heldQueueS.f k l0_1 a1).bind fun t152=>(if t152 < 0 then (some (-1)) else (some t152)))=some r:=h
 clear h
 replace H:=Option.bind_eq_some_iff.mp H
 obtain⟨t152,A30,H⟩:=H
 have A3:=Aside0.mk A30
 clear A30
 by_cases c4:t152 < 0
 ·rw[if_pos c4] at H
  have c4b0:decide (t152 < 0)=true:=decide_eq_true c4
  clear c4
  obtain rfl:=Option.some.inj H
  go_enter Try.func21,Try.ntmps21
  go_wp2_with (first|((with_reducible refine gate_dst (N:=2) rfl ?_);refine box_event ?hg (N:=2) ?hd (cs:=#[.int .i64 a0_0,.slice A0_1 l0_1.length c0_1,.int .i64 a0_2]) (t:=28) ?hr ?_;(case hd=>rfl);(case hg=>rfl);(case hr=>first|(go_simp;done)|(go_simp;rfl));intro gb151 hg w5 hbox hb;have n0_:=Aside0.mk (below_step (bB) hb);have n1_:=Aside0.mk (hbox);have n2_:=Aside0.mk ((bG:w.heap.size≤gb151));have n3_:=Aside0.mk ((bG:w.heap.size≤gb151));clear HB;have HB:=n0_;have BK151:=n1_;have GW151:=n2_;have GE151:=n3_;clear n0_ n1_ n2_ n3_;clear hb hbox hg;obtain⟨hcz6_0,hcz6_1,hcz6_2⟩:=cC3 BK151.out;obtain⟨hfz6_0,hfz6_1,hfz6_2⟩:=cF3 BK151.out)|((with_reducible refine gate_callee (f:=83) rfl ?_);refine goesA (some 8) rfl rfl Try.func83 #[.slice A0_1 l0_1.length c0_1,.int .i64 a1] rfl ?_;(with_reducible refine(laws_heldQueueS.calls k _ _ l0_1 a1 t152 _ ?side1 ?side2 A3.out).mono ?_);(case side1=>exact bC HR0_1.out);(case side2=>exact HC0_1.out);rintro e w' ⟨rfl,⟨nd,rfl⟩⟩;refine⟨_,rfl,?_⟩))
  go_ret
  exact⟨bE,bS GE151.out⟩
 ·rw[if_neg c4] at H
  have c4b0:decide (t152 < 0)=false:=decide_eq_false c4
  clear c4
  obtain rfl:=Option.some.inj H
  go_enter Try.func21,Try.ntmps21
  go_wp2_with (first|((with_reducible refine gate_dst (N:=2) rfl ?_);refine box_event ?hg (N:=2) ?hd (cs:=#[.int .i64 a0_0,.slice A0_1 l0_1.length c0_1,.int .i64 a0_2]) (t:=28) ?hr ?_;(case hd=>rfl);(case hg=>rfl);(case hr=>first|(go_simp;done)|(go_simp;rfl));intro gb151 hg w7 hbox hb;have n0_:=Aside0.mk (below_step (bB) hb);have n1_:=Aside0.mk (hbox);have n2_:=Aside0.mk ((bG:w.heap.size≤gb151));have n3_:=Aside0.mk ((bG:w.heap.size≤gb151));clear HB;have HB:=n0_;have BK151:=n1_;have GW151:=n2_;have GE151:=n3_;clear n0_ n1_ n2_ n3_;clear hb hbox hg;obtain⟨hcz8_0,hcz8_1,hcz8_2⟩:=cC3 BK151.out;obtain⟨hfz8_0,hfz8_1,hfz8_2⟩:=cF3 BK151.out)|((with_reducible refine gate_callee (f:=83) rfl ?_);refine goesA (some 8) rfl rfl Try.func83 #[.slice A0_1 l0_1.length c0_1,.int .i64 a1] rfl ?_;(with_reducible refine(laws_heldQueueS.calls k _ _ l0_1 a1 t152 _ ?side1 ?side2 A3.out).mono ?_);(case side1=>exact bC HR0_1.out);(case side2=>exact HC0_1.out);rintro e w' ⟨rfl,⟨nd,rfl⟩⟩;refine⟨_,rfl,?_⟩))
  go_ret
  exact⟨bE,bS GE151.out⟩

/-! ### spec_l1In: function 75 -/
def spec_l1In.f (a0:Int) (a1:Int) (a2:Int):Option (Bool):=if a0 ≥ a1 then (some (decide (a0≤a2))) else (some false)
set_option maxHeartbeats 8000000 in
set_option maxRecDepth 100000 in
theorem spec_l1In.calls (a0:Int) (a1:Int) (a2:Int) (r:Bool) (w:World) (h:spec_l1In.f a0 a1 a2=some r) :
  Calls Try.prog 75 #[.int .i64 a0,.int .i64 a1,.int .i64 a2] w fun e w'=>e=.returned (.bool r)∧Drawn0 w w':=by
 have H:(if a0 ≥ a1 then (some (decide (a0≤a2))) else (some false))=some r:=h
 clear h
 by_cases c4:a0 ≥ a1
 ·rw[if_pos c4] at H
  have c4b0:decide (a1≤a0)=true:=decide_eq_true c4
  clear c4
  obtain rfl:=Option.some.inj H
  go_enter Try.func75,Try.ntmps75
  go_wp2
  go_ret
  exact⟨bR,bW⟩
 ·rw[if_neg c4] at H
  have c4b0:decide (a1≤a0)=false:=decide_eq_false c4
  clear c4
  obtain rfl:=Option.some.inj H
  go_enter Try.func75,Try.ntmps75
  go_wp2
  go_ret
  exact⟨bR,bW⟩

/-! ### spec_l14Queue: function 138 -/
def spec_l14Queue.l0:Nat→List Int→Int→Int→List Int→Int→Int→Option (Bool)
 | 0,_,_,_,_,_,_=>none
 | k+1,x6,x7,x8,x154000,x154001,x154002=>if x8 < x7 then (if 0≤x8 then (if x8 < (x6.length:Int) then ((spec_l1In.f (rd x6 x8) 1 50).bind fun t155=>(if t155=true then (spec_l14Queue.l0 k x6 x7 (wrap64 (x8+1)) x154000 x154001 x154002) else (some false))) else (none)) else (none)) else (if (x154000.length:Int)≤40 then ((spec_l1In.f x154001 0 100).bind fun t156=>(if t156=true then ((spec_l1In.f x154002 0 1000000).bind fun t157=>(if t157=true then (if (x154000.length:Int) > 0 then (some true) else (some (x154001 == 0))) else (some false))) else (some false))) else (some false))
def spec_l14Queue.f (k:Nat) (l0_0:List Int) (a0_1:Int) (a0_2:Int):Option (Bool):=spec_l14Queue.l0 k l0_0 (l0_0.length:Int) 0 l0_0 a0_1 a0_2
theorem spec_l14Queue.mono_l : ∀ k,(∀ y0 y1 y2 y3 y4 y5,LeO (spec_l14Queue.l0 k y0 y1 y2 y3 y4 y5) (spec_l14Queue.l0 (k+1) y0 y1 y2 y3 y4 y5))
 | 0=>fun _ _ _ _ _ _ r h=>by simp[spec_l14Queue.l0] at h
 | k+1=>by
  have ih0:=spec_l14Queue.mono_l k
  ·intro y0 y1 y2 y3 y4 y5
   unfold spec_l14Queue.l0
   repeat' first
   | (with_reducible exact ih0 _ _ _ _ _ _)
   | (with_reducible exact LeO.refl _)
   | (with_reducible exact LeO.none _)
   | (with_reducible refine LeO.ite ?_ ?_)
   | (with_reducible refine LeO.bind ?_ (fun _ => ?_))
   | exact ih0 _ _ _ _ _ _
   | exact LeO.none _
   | refine LeO.ite ?_ ?_
   | refine LeO.bind ?_ (fun _ => ?_)
theorem spec_l14Queue.mono : ∀ a0 a1 a2 k,LeO (spec_l14Queue.f k a0 a1 a2) (spec_l14Queue.f (k+1) a0 a1 a2):=by
 intro a0 a1 a2 k
 have ih0:=spec_l14Queue.mono_l k
 unfold spec_l14Queue.f
 repeat' first
  | (with_reducible exact ih0 _ _ _ _ _ _)
  | (with_reducible exact LeO.refl _)
  | (with_reducible exact LeO.none _)
  | (with_reducible refine LeO.ite ?_ ?_)
  | (with_reducible refine LeO.bind ?_ (fun _ => ?_))
  | exact ih0 _ _ _ _ _ _
  | exact LeO.none _
  | refine LeO.ite ?_ ?_
  | refine LeO.bind ?_ (fun _ => ?_)
set_option maxHeartbeats 8000000 in
set_option maxRecDepth 100000 in
theorem spec_l14Queue.calls (k:Nat) (A0_0:Option Addr) (c0_0:Nat) (l0_0:List Int) (a0_1:Int) (a0_2:Int) (r:Bool) (w:World) (hr0_0:Kd.C (Kd.int .i64) w A0_0 l0_0.length l0_0) (hc0_0:l0_0.length≤c0_0) (h:spec_l14Queue.f k l0_0 a0_1 a0_2=some r) :
  Calls Try.prog 138 #[.agg #[.slice A0_0 l0_0.length c0_0,.int .i64 a0_1,.int .i64 a0_2]] w fun e w'=>e=.returned (.bool r)∧Below w.heap.size w w':=by
 have hu116:=Try.underlying116
 have HR0_0:=Aside0.mk hr0_0
 have HC0_0:=Aside0.mk hc0_0
 clear hr0_0 hc0_0
 have HB:=Aside0.mk (Below.refl w.heap.size w)
 have H:(spec_l14Queue.l0 k l0_0 (l0_0.length:Int) 0 l0_0 a0_1 a0_2)=some r:=h
 clear h
 have H':=Aside0.mk H
 clear H
 go_enter Try.func138,Try.ntmps138
 go_wp2_with (first|((with_reducible refine gate_dst (N:=1) rfl ?_);(try (refine gate_guard (by rfl) ?_;dsimp only));refine box_event ?hg (N:=1) ?hd (cs:=#[.slice A0_0 l0_0.length c0_0,.int .i64 a0_1,.int .i64 a0_2]) (t:=116) ?hr ?_;(case hd=>rfl);(case hg=>rfl);(case hr=>first|(go_simp;done)|(go_simp;rfl));intro gb153 hg w2 hbox hb;have n0_:=Aside0.mk (below_step (bB) hb);have n1_:=Aside0.mk (hbox);have n2_:=Aside0.mk ((bG:w.heap.size≤gb153));have n3_:=Aside0.mk ((bG:w.heap.size≤gb153));clear HB;have HB:=n0_;have BK153:=n1_;have GW153:=n2_;have GE153:=n3_;clear n0_ n1_ n2_ n3_;clear hb hbox hg;obtain⟨hcz3_0,hcz3_1,hcz3_2⟩:=cC3 BK153.out;obtain⟨hfz3_0,hfz3_1,hfz3_2⟩:=cF3 BK153.out))
 go_loopg [8] k (fun kq v8 w' => ∃ (x8_1:Int),v8=.int .i64 x8_1∧Aside0 (spec_l14Queue.l0 kq l0_0 (l0_0.length:Int) x8_1 l0_0 a0_1 a0_2=some r)∧Aside0 (kq≤k)∧Aside0 (w'.heap[gb153]?=some (.cells #[(.slice A0_0 l0_0.length c0_0),.int .i64 a0_1,.int .i64 a0_2] 116 (0,0)))∧Aside0 (Below w.heap.size w w'))
 case atStart=>exact⟨(0),(bR),H',⟨Nat.le_refl _⟩,⟨by(with_reducible repeat (first|refine blk_drewN ?_ _|refine blk_drew ?_|refine blk_alloc ?_ _));exact BK153.out⟩,⟨bS GE153.out⟩⟩
 case round =>
  clear H'
  try clear c1
  try clear p2
  try clear hcz3_0 hcz3_1 hcz3_2
  try clear hfz3_0 hfz3_1 hfz3_2
  obtain⟨x8_1,rfl,HA,HK1,BK153,HB⟩:=hrel
  cases gk with
  | zero=>exact absurd HA.out (by simp[spec_l14Queue.l0])
  | succ k1 =>
   have H:=HA.out
   clear HA
   simp only[spec_l14Queue.l0] at H
   by_cases c4:x8_1 < (l0_0.length:Int)
   ·rw[if_pos c4] at H
    have c4b0:decide (x8_1 < (l0_0.length:Int))=true:=decide_eq_true c4
    clear c4
    by_cases c5:0≤x8_1
    ·rw[if_pos c5] at H
     have c5b0:decide (0≤x8_1)=true:=decide_eq_true c5
     clear c5
     by_cases c6:x8_1 < (l0_0.length:Int)
     ·rw[if_pos c6] at H
      have c6b0:decide (x8_1 < (l0_0.length:Int))=true:=decide_eq_true c6
      clear c6
      replace H:=Option.bind_eq_some_iff.mp H
      obtain⟨t155,A70,H⟩:=H
      have A7:=Aside0.mk A70
      clear A70
      by_cases c8:t155=true
      ·subst c8
       have H1:(spec_l14Queue.l0 k1 l0_0 (l0_0.length:Int) (wrap64 (x8_1+1)) l0_0 a0_1 a0_2)=some r:=by rw[if_pos rfl] at H;exact H
       clear H
       have H:=H1
       clear H1
       have H':=Aside0.mk H
       clear H
       have p154:0≤(x8_1:Int):=of_decide_eq_true (bD)
       have q154:x8_1 < (l0_0.length:Int):=of_decide_eq_true (bD)
       obtain⟨ad154,e154,hx154_0⟩:=Kd.at_int HR0_0.out x8_1 p154 q154
       cases e154
       replace hx154_0:=(HB.out.cell (World.block_lt_of_cell? w _ hx154_0)).trans hx154_0
       replace p154:=eq_true p154
       replace q154:=eq_true q154
       go_wp2_with (first|((with_reducible refine gate_callee (f:=75) rfl ?_);refine goesA (some 13) rfl rfl Try.func75 #[.int .i64 (rd l0_0 x8_1),.int .i64 1,.int .i64 50] rfl ?_;(with_reducible refine(spec_l1In.calls (rd l0_0 x8_1) 1 50 true _ A7.out).mono ?_);rintro e w' ⟨rfl,⟨nd,rfl⟩⟩;refine⟨_,rfl,?_⟩))
       go_roundg k1
       case measure=>have:=HK1.out;omega
       case rel=>exact⟨(wrap64 (x8_1+1)),(bR),H',⟨by have:=HK1.out;omega⟩,⟨by(with_reducible repeat (first|refine blk_drewN ?_ _|refine blk_drew ?_|refine blk_alloc ?_ _));exact BK153.out⟩,⟨bS GE153.out⟩⟩
      ·replace c8:=Bool.eq_false_iff.mpr c8
       subst c8
       have H1:(some false)=some r:=by rw[if_neg (show ¬ (false=true) by decide)] at H;exact H
       clear H
       have H:=H1
       clear H1
       obtain rfl:=Option.some.inj H
       have p154:0≤(x8_1:Int):=of_decide_eq_true (bD)
       have q154:x8_1 < (l0_0.length:Int):=of_decide_eq_true (bD)
       obtain⟨ad154,e154,hx154_0⟩:=Kd.at_int HR0_0.out x8_1 p154 q154
       cases e154
       replace hx154_0:=(HB.out.cell (World.block_lt_of_cell? w _ hx154_0)).trans hx154_0
       replace p154:=eq_true p154
       replace q154:=eq_true q154
       go_wp2_with (first|((with_reducible refine gate_callee (f:=75) rfl ?_);refine goesA (some 13) rfl rfl Try.func75 #[.int .i64 (rd l0_0 x8_1),.int .i64 1,.int .i64 50] rfl ?_;(with_reducible refine(spec_l1In.calls (rd l0_0 x8_1) 1 50 false _ A7.out).mono ?_);rintro e w' ⟨rfl,⟨nd,rfl⟩⟩;refine⟨_,rfl,?_⟩))
       go_ret
       exact⟨bE,bS GE153.out⟩
     ·rw[if_neg c6] at H
      exact absurd H (by simp)
    ·rw[if_neg c5] at H
     exact absurd H (by simp)
   ·rw[if_neg c4] at H
    have c4b0:decide (x8_1 < (l0_0.length:Int))=false:=decide_eq_false c4
    clear c4
    by_cases c9:(l0_0.length:Int)≤40
    ·rw[if_pos c9] at H
     have c9b0:decide ((l0_0.length:Int)≤40)=true:=decide_eq_true c9
     have c9b1:decide (l0_0.length≤40)=true:=decide_eq_true (by omega)
     clear c9
     replace H:=Option.bind_eq_some_iff.mp H
     obtain⟨t156,A100,H⟩:=H
     have A10:=Aside0.mk A100
     clear A100
     by_cases c11:t156=true
     ·subst c11
      have H1:((spec_l1In.f a0_2 0 1000000).bind fun t157=>(if t157=true then (if (l0_0.length:Int) > 0 then (some true) else (some (a0_1 == 0))) else (some false)))=some r:=by rw[if_pos rfl] at H;exact H
      clear H
      have H:=H1
      clear H1
      replace H:=Option.bind_eq_some_iff.mp H
      obtain⟨t157,A120,H⟩:=H
      have A12:=Aside0.mk A120
      clear A120
      by_cases c13:t157=true
      ·subst c13
       have H1:(if (l0_0.length:Int) > 0 then (some true) else (some (a0_1 == 0)))=some r:=by rw[if_pos rfl] at H;exact H
       clear H
       have H:=H1
       clear H1
       by_cases c14:(l0_0.length:Int) > 0
       ·rw[if_pos c14] at H
        have c14b0:decide (0 < (l0_0.length:Int))=true:=decide_eq_true c14
        have c14b1:decide (0 < l0_0.length)=true:=decide_eq_true (by omega)
        clear c14
        obtain rfl:=Option.some.inj H
        obtain⟨hcz15_0,hcz15_1,hcz15_2⟩:=cC3 BK153.out
        obtain⟨hfz15_0,hfz15_1,hfz15_2⟩:=cF3 BK153.out
        go_wp2_with (first|(go_at_call 75;(with_reducible refine(spec_l1In.calls a0_1 0 100 true _ A10.out).mono ?_);rintro e w' ⟨rfl,⟨nd,rfl⟩⟩)|(go_at_call 75;(with_reducible refine(spec_l1In.calls a0_2 0 1000000 true _ A12.out).mono ?_);rintro e w' ⟨rfl,⟨nd,rfl⟩⟩))
        go_ret
        exact⟨bE,bS GE153.out⟩
       ·rw[if_neg c14] at H
        have c14b0:decide (0 < (l0_0.length:Int))=false:=decide_eq_false c14
        have c14b1:decide (0 < l0_0.length)=false:=decide_eq_false (by omega)
        clear c14
        obtain rfl:=Option.some.inj H
        obtain⟨hcz16_0,hcz16_1,hcz16_2⟩:=cC3 BK153.out
        obtain⟨hfz16_0,hfz16_1,hfz16_2⟩:=cF3 BK153.out
        go_wp2_with (first|(go_at_call 75;(with_reducible refine(spec_l1In.calls a0_1 0 100 true _ A10.out).mono ?_);rintro e w' ⟨rfl,⟨nd,rfl⟩⟩)|(go_at_call 75;(with_reducible refine(spec_l1In.calls a0_2 0 1000000 true _ A12.out).mono ?_);rintro e w' ⟨rfl,⟨nd,rfl⟩⟩))
        go_ret
        exact⟨bE,bS GE153.out⟩
      ·replace c13:=Bool.eq_false_iff.mpr c13
       subst c13
       have H1:(some false)=some r:=by rw[if_neg (show ¬ (false=true) by decide)] at H;exact H
       clear H
       have H:=H1
       clear H1
       obtain rfl:=Option.some.inj H
       obtain⟨hcz17_0,hcz17_1,hcz17_2⟩:=cC3 BK153.out
       obtain⟨hfz17_0,hfz17_1,hfz17_2⟩:=cF3 BK153.out
       go_wp2_with (first|(go_at_call 75;(with_reducible refine(spec_l1In.calls a0_1 0 100 true _ A10.out).mono ?_);rintro e w' ⟨rfl,⟨nd,rfl⟩⟩)|(go_at_call 75;(with_reducible refine(spec_l1In.calls a0_2 0 1000000 false _ A12.out).mono ?_);rintro e w' ⟨rfl,⟨nd,rfl⟩⟩))
       go_ret
       exact⟨bE,bS GE153.out⟩
     ·replace c11:=Bool.eq_false_iff.mpr c11
      subst c11
      have H1:(some false)=some r:=by rw[if_neg (show ¬ (false=true) by decide)] at H;exact H
      clear H
      have H:=H1
      clear H1
      obtain rfl:=Option.some.inj H
      obtain⟨hcz18_0,hcz18_1,hcz18_2⟩:=cC3 BK153.out
      obtain⟨hfz18_0,hfz18_1,hfz18_2⟩:=cF3 BK153.out
      go_wp2_with (first|(go_at_call 75;(with_reducible refine(spec_l1In.calls a0_1 0 100 false _ A10.out).mono ?_);rintro e w' ⟨rfl,⟨nd,rfl⟩⟩))
      go_ret
      exact⟨bE,bS GE153.out⟩
    ·rw[if_neg c9] at H
     have c9b0:decide ((l0_0.length:Int)≤40)=false:=decide_eq_false c9
     have c9b1:decide (l0_0.length≤40)=false:=decide_eq_false (by omega)
     clear c9
     obtain rfl:=Option.some.inj H
     obtain⟨hcz19_0,hcz19_1,hcz19_2⟩:=cC3 BK153.out
     obtain⟨hfz19_0,hfz19_1,hfz19_2⟩:=cF3 BK153.out
     go_wp2
     go_ret
     exact⟨bE,bS GE153.out⟩

/-! ### spec_GoodTurns: function 74 -/
def spec_GoodTurns.l0:Nat→List (S116)→Int→Int→Int→List (S116)→Int→Option (Bool)
 | 0,_,_,_,_,_,_=>none
 | k+1,x6,x7,x8,x159000,x159001,x159002=>if x8 < x7 then (if 0≤x8 then (if x8 < (x6.length:Int) then ((spec_l14Queue.f k ((rd_T116 x6 x8).f0) ((rd_T116 x6 x8).f1) ((rd_T116 x6 x8).f2)).bind fun t161=>(if t161=true then (spec_GoodTurns.l0 k x6 x7 (wrap64 (x8+1)) x159000 x159001 x159002) else (some false))) else (none)) else (none)) else ((spec_l1In.f x159000 1 50).bind fun t162=>(if t162=true then ((spec_l1In.f (x159001.length:Int) 1 6).bind fun t163=>(if t163=true then ((spec_l1In.f x159002 0 1000000).bind fun t164=>(some t164)) else (some false))) else (some false)))
def spec_GoodTurns.f (k:Nat) (a0_0:Int) (l0_1:List (S116)) (a0_2:Int):Option (Bool):=spec_GoodTurns.l0 k l0_1 (l0_1.length:Int) 0 a0_0 l0_1 a0_2
theorem spec_GoodTurns.mono_l : ∀ k,(∀ y0 y1 y2 y3 y4 y5,LeO (spec_GoodTurns.l0 k y0 y1 y2 y3 y4 y5) (spec_GoodTurns.l0 (k+1) y0 y1 y2 y3 y4 y5))
 | 0=>fun _ _ _ _ _ _ r h=>by simp[spec_GoodTurns.l0] at h
 | k+1=>by
  have ih0:=spec_GoodTurns.mono_l k
  ·intro y0 y1 y2 y3 y4 y5
   unfold spec_GoodTurns.l0
   repeat' first
   | (with_reducible exact ih0 _ _ _ _ _ _)
   | (with_reducible exact spec_l14Queue.mono _ _ _ _)
   | (with_reducible exact LeO.refl _)
   | (with_reducible exact LeO.none _)
   | (with_reducible refine LeO.ite ?_ ?_)
   | (with_reducible refine LeO.bind ?_ (fun _ => ?_))
   | exact ih0 _ _ _ _ _ _
   | exact spec_l14Queue.mono _ _ _ _
   | exact LeO.none _
   | refine LeO.ite ?_ ?_
   | refine LeO.bind ?_ (fun _ => ?_)
theorem spec_GoodTurns.mono : ∀ a0 a1 a2 k,LeO (spec_GoodTurns.f k a0 a1 a2) (spec_GoodTurns.f (k+1) a0 a1 a2):=by
 intro a0 a1 a2 k
 have ih0:=spec_GoodTurns.mono_l k
 unfold spec_GoodTurns.f
 repeat' first
  | (with_reducible exact ih0 _ _ _ _ _ _)
  | (with_reducible exact spec_l14Queue.mono _ _ _ _)
  | (with_reducible exact LeO.refl _)
  | (with_reducible exact LeO.none _)
  | (with_reducible refine LeO.ite ?_ ?_)
  | (with_reducible refine LeO.bind ?_ (fun _ => ?_))
  | exact ih0 _ _ _ _ _ _
  | exact spec_l14Queue.mono _ _ _ _
  | exact LeO.none _
  | refine LeO.ite ?_ ?_
  | refine LeO.bind ?_ (fun _ => ?_)
set_option maxHeartbeats 8000000 in
set_option maxRecDepth 100000 in
theorem spec_GoodTurns.calls (k:Nat) (a0_0:Int) (A0_1:Option Addr) (c0_1:Nat) (l0_1:List (S116)) (a0_2:Int) (r:Bool) (w:World) (hr0_1:Kd.C k116 w A0_1 l0_1.length l0_1) (hc0_1:l0_1.length≤c0_1) (h:spec_GoodTurns.f k a0_0 l0_1 a0_2=some r) :
  Calls Try.prog 74 #[.agg #[.int .i64 a0_0,.slice A0_1 l0_1.length c0_1,.int .i64 a0_2]] w fun e w'=>e=.returned (.bool r)∧Below w.heap.size w w':=by
 have hu28:=Try.underlying28
 have hu116:=Try.underlying116
 have HR0_1:=Aside0.mk hr0_1
 have HC0_1:=Aside0.mk hc0_1
 clear hr0_1 hc0_1
 have HB:=Aside0.mk (Below.refl w.heap.size w)
 have H:(spec_GoodTurns.l0 k l0_1 (l0_1.length:Int) 0 a0_0 l0_1 a0_2)=some r:=h
 clear h
 have H':=Aside0.mk H
 clear H
 go_enter Try.func74,Try.ntmps74
 go_wp2_with (first|((with_reducible refine gate_dst (N:=1) rfl ?_);(try (refine gate_guard (by rfl) ?_;dsimp only));refine box_event ?hg (N:=1) ?hd (cs:=#[.int .i64 a0_0,.slice A0_1 l0_1.length c0_1,.int .i64 a0_2]) (t:=28) ?hr ?_;(case hd=>rfl);(case hg=>rfl);(case hr=>first|(go_simp;done)|(go_simp;rfl));intro gb158 hg w2 hbox hb;have n0_:=Aside0.mk (below_step (bB) hb);have n1_:=Aside0.mk (hbox);have n2_:=Aside0.mk ((bG:w.heap.size≤gb158));have n3_:=Aside0.mk ((bG:w.heap.size≤gb158));clear HB;have HB:=n0_;have BK158:=n1_;have GW158:=n2_;have GE158:=n3_;clear n0_ n1_ n2_ n3_;clear hb hbox hg;obtain⟨hcz3_0,hcz3_1,hcz3_2⟩:=cC3 BK158.out;obtain⟨hfz3_0,hfz3_1,hfz3_2⟩:=cF3 BK158.out))
 go_loopg [8] k (fun kq v8 w' => ∃ (x8_1:Int),v8=.int .i64 x8_1∧Aside0 (spec_GoodTurns.l0 kq l0_1 (l0_1.length:Int) x8_1 a0_0 l0_1 a0_2=some r)∧Aside0 (kq≤k)∧Aside0 (w'.heap[gb158]?=some (.cells #[.int .i64 a0_0,(.slice A0_1 l0_1.length c0_1),.int .i64 a0_2] 28 (0,0)))∧Aside0 (Below w.heap.size w w'))
 case atStart=>exact⟨(0),(bR),H',⟨Nat.le_refl _⟩,⟨by(with_reducible repeat (first|refine blk_drewN ?_ _|refine blk_drew ?_|refine blk_alloc ?_ _));exact BK158.out⟩,⟨bS GE158.out⟩⟩
 case round =>
  clear H'
  try clear p2
  try clear hcz3_0 hcz3_1 hcz3_2
  try clear hfz3_0 hfz3_1 hfz3_2
  obtain⟨x8_1,rfl,HA,HK1,BK158,HB⟩:=hrel
  cases gk with
  | zero=>exact absurd HA.out (by simp[spec_GoodTurns.l0])
  | succ k1 =>
   have H:=HA.out
   clear HA
   simp only[spec_GoodTurns.l0] at H
   by_cases c4:x8_1 < (l0_1.length:Int)
   ·rw[if_pos c4] at H
    have c4b0:decide (x8_1 < (l0_1.length:Int))=true:=decide_eq_true c4
    clear c4
    by_cases c5:0≤x8_1
    ·rw[if_pos c5] at H
     have c5b0:decide (0≤x8_1)=true:=decide_eq_true c5
     clear c5
     by_cases c6:x8_1 < (l0_1.length:Int)
     ·rw[if_pos c6] at H
      have c6b0:decide (x8_1 < (l0_1.length:Int))=true:=decide_eq_true c6
      clear c6
      replace H:=Option.bind_eq_some_iff.mp H
      obtain⟨t161,A70,H⟩:=H
      have A7:=Aside0.mk A70
      clear A70
      by_cases c8:t161=true
      ·subst c8
       have H1:(spec_GoodTurns.l0 k1 l0_1 (l0_1.length:Int) (wrap64 (x8_1+1)) a0_0 l0_1 a0_2)=some r:=by rw[if_pos rfl] at H;exact H
       clear H
       have H:=H1
       clear H1
       have H':=Aside0.mk H
       clear H
       have p159:0≤(x8_1:Int):=of_decide_eq_true (bD)
       have q159:x8_1 < (l0_1.length:Int):=of_decide_eq_true (bD)
       obtain⟨ad159,A159_0,c159_0,e159,hx159_0,hx159_1,hx159_2,hl159_0,hi159_0⟩:=at_T116 HR0_1.out x8_1 p159 q159
       cases e159
       replace hx159_0:=(HB.out.cell (World.block_lt_of_cell? w _ hx159_0)).trans hx159_0
       replace hx159_1:=(HB.out.cell (World.block_lt_of_cell? w _ hx159_1)).trans hx159_1
       replace hx159_2:=(HB.out.cell (World.block_lt_of_cell? w _ hx159_2)).trans hx159_2
       have HR159_0:=Aside0.mk hi159_0
       have HC159_0:=Aside0.mk hl159_0
       clear hi159_0 hl159_0
       replace p159:=eq_true p159
       replace q159:=eq_true q159
       go_wp2_with (first|((with_reducible refine gate_dst (N:=4) rfl ?_);(try (refine gate_guard (by rfl) ?_;dsimp only));refine box_event ?hg (N:=4) ?hd (cs:=#[.slice none 0 0,.int .i64 0,.int .i64 0]) (t:=116) ?hr ?_;(case hd=>rfl);(case hg=>rfl);(case hr=>first|(go_simp;done)|(go_simp;rfl));intro gb160 hg w9 hbox hb;have n0_:=Aside0.mk (bM BK158.out hb);have n1_:=Aside0.mk (below_step (bS GE158.out) hb);have n2_:=Aside0.mk (hbox);have n3_:=Aside0.mk ((by rw[hg];exact(below_size (bS GE158.out)):w.heap.size≤gb160));have n4_:=Aside0.mk ((by rw[hg];exact(below_size (bS GE158.out)):w.heap.size≤gb160));have n5_:=Aside0.mk ((bN BK158.out hg:gb158≠gb160));have n6_:=Aside0.mk ((bO BK158.out hg:gb160≠gb158));clear BK158 HB;have BK158:=n0_;have HB:=n1_;have BK160:=n2_;have GW160:=n3_;have GE160:=n4_;have NB158_160:=n5_;have NB160_158:=n6_;clear n0_ n1_ n2_ n3_ n4_ n5_ n6_;clear hb hbox hg;have hnb10:=NB160_158.out;have hnc10:=NB158_160.out;obtain⟨hcz11_0,hcz11_1,hcz11_2⟩:=cC3 BK160.out;obtain⟨hfz11_0,hfz11_1,hfz11_2⟩:=cF3 BK160.out)|((with_reducible refine gate_callee (f:=138) rfl ?_);refine goesA (some 13) rfl rfl Try.func138 #[.agg #[.slice A159_0 ((rd_T116 l0_1 x8_1).f0).length c159_0,.int .i64 ((rd_T116 l0_1 x8_1).f1),.int .i64 ((rd_T116 l0_1 x8_1).f2)]] rfl ?_;(with_reducible refine(spec_l14Queue.calls k1 _ _ ((rd_T116 l0_1 x8_1).f0) ((rd_T116 l0_1 x8_1).f1) ((rd_T116 l0_1 x8_1).f2) true _ ?side1 ?side2 A7.out).mono ?_);(case side1=>exact Kd.C_below HR159_0.out (bS2 GE158.out GE160.out));(case side2=>exact HC159_0.out);rintro e w12 ⟨rfl,hb⟩;refine⟨_,rfl,?_⟩;have n0_:=Aside0.mk (blk_below (g:=gb158) (o:=.cells #[.int .i64 a0_0,.slice (some ad159) l0_1.length c0_1,.int .i64 a0_2] 28 (0,0)) (by(with_reducible repeat (first|refine blk_drewN ?_ _|refine blk_drew ?_|refine blk_alloc ?_ _));refine blk_far ?_ NB158_160.out _;(with_reducible repeat (first|refine blk_drewN ?_ _|refine blk_drew ?_|refine blk_alloc ?_ _));refine blk_far ?_ NB158_160.out _;(with_reducible repeat (first|refine blk_drewN ?_ _|refine blk_drew ?_|refine blk_alloc ?_ _));refine blk_far ?_ NB158_160.out _;(with_reducible repeat (first|refine blk_drewN ?_ _|refine blk_drew ?_|refine blk_alloc ?_ _));exact BK158.out) hb);have n1_:=Aside0.mk (blk_below (g:=gb160) (o:=.cells #[.slice A159_0 ((rd_T116 l0_1 x8_1).f0).length c159_0,.int .i64 ((rd_T116 l0_1 x8_1).f1),.int .i64 ((rd_T116 l0_1 x8_1).f2)] 116 (0,0)) (by(with_reducible repeat (first|refine blk_drewN ?_ _|refine blk_drew ?_|refine blk_alloc ?_ _));refine blk_put (cs:=#[.slice A159_0 ((rd_T116 l0_1 x8_1).f0).length c159_0,.int .i64 ((rd_T116 l0_1 x8_1).f1),.int .i64 0]) ?_ 2 _ rfl;(with_reducible repeat (first|refine blk_drewN ?_ _|refine blk_drew ?_|refine blk_alloc ?_ _));refine blk_put (cs:=#[.slice A159_0 ((rd_T116 l0_1 x8_1).f0).length c159_0,.int .i64 0,.int .i64 0]) ?_ 1 _ rfl;(with_reducible repeat (first|refine blk_drewN ?_ _|refine blk_drew ?_|refine blk_alloc ?_ _));refine blk_put (cs:=#[.slice none 0 0,.int .i64 0,.int .i64 0]) ?_ 0 _ rfl;(with_reducible repeat (first|refine blk_drewN ?_ _|refine blk_drew ?_|refine blk_alloc ?_ _));exact BK160.out) hb);have n2_:=Aside0.mk (below_step (bS2 GE158.out GE160.out) hb);clear BK158 BK160 HB;have BK158:=n0_;have BK160:=n1_;have HB:=n2_;clear n0_ n1_ n2_;(try clear hb);(try clear hb2);(try clear hk);(try clear hi)))
       go_roundg k1
       case measure=>have:=HK1.out;omega
       case rel=>exact⟨(wrap64 (x8_1+1)),(bR),H',⟨by have:=HK1.out;omega⟩,⟨by(with_reducible repeat (first|refine blk_drewN ?_ _|refine blk_drew ?_|refine blk_alloc ?_ _));exact BK158.out⟩,⟨bS2 GE158.out GE160.out⟩⟩
      ·replace c8:=Bool.eq_false_iff.mpr c8
       subst c8
       have H1:(some false)=some r:=by rw[if_neg (show ¬ (false=true) by decide)] at H;exact H
       clear H
       have H:=H1
       clear H1
       obtain rfl:=Option.some.inj H
       have p159:0≤(x8_1:Int):=of_decide_eq_true (bD)
       have q159:x8_1 < (l0_1.length:Int):=of_decide_eq_true (bD)
       obtain⟨ad159,A159_0,c159_0,e159,hx159_0,hx159_1,hx159_2,hl159_0,hi159_0⟩:=at_T116 HR0_1.out x8_1 p159 q159
       cases e159
       replace hx159_0:=(HB.out.cell (World.block_lt_of_cell? w _ hx159_0)).trans hx159_0
       replace hx159_1:=(HB.out.cell (World.block_lt_of_cell? w _ hx159_1)).trans hx159_1
       replace hx159_2:=(HB.out.cell (World.block_lt_of_cell? w _ hx159_2)).trans hx159_2
       have HR159_0:=Aside0.mk hi159_0
       have HC159_0:=Aside0.mk hl159_0
       clear hi159_0 hl159_0
       replace p159:=eq_true p159
       replace q159:=eq_true q159
       go_wp2_with (first|((with_reducible refine gate_dst (N:=4) rfl ?_);(try (refine gate_guard (by rfl) ?_;dsimp only));refine box_event ?hg (N:=4) ?hd (cs:=#[.slice none 0 0,.int .i64 0,.int .i64 0]) (t:=116) ?hr ?_;(case hd=>rfl);(case hg=>rfl);(case hr=>first|(go_simp;done)|(go_simp;rfl));intro gb160 hg w13 hbox hb;have n0_:=Aside0.mk (bM BK158.out hb);have n1_:=Aside0.mk (below_step (bS GE158.out) hb);have n2_:=Aside0.mk (hbox);have n3_:=Aside0.mk ((by rw[hg];exact(below_size (bS GE158.out)):w.heap.size≤gb160));have n4_:=Aside0.mk ((by rw[hg];exact(below_size (bS GE158.out)):w.heap.size≤gb160));have n5_:=Aside0.mk ((bN BK158.out hg:gb158≠gb160));have n6_:=Aside0.mk ((bO BK158.out hg:gb160≠gb158));clear BK158 HB;have BK158:=n0_;have HB:=n1_;have BK160:=n2_;have GW160:=n3_;have GE160:=n4_;have NB158_160:=n5_;have NB160_158:=n6_;clear n0_ n1_ n2_ n3_ n4_ n5_ n6_;clear hb hbox hg;have hnb14:=NB160_158.out;have hnc14:=NB158_160.out;obtain⟨hcz15_0,hcz15_1,hcz15_2⟩:=cC3 BK160.out;obtain⟨hfz15_0,hfz15_1,hfz15_2⟩:=cF3 BK160.out)|((with_reducible refine gate_callee (f:=138) rfl ?_);refine goesA (some 13) rfl rfl Try.func138 #[.agg #[.slice A159_0 ((rd_T116 l0_1 x8_1).f0).length c159_0,.int .i64 ((rd_T116 l0_1 x8_1).f1),.int .i64 ((rd_T116 l0_1 x8_1).f2)]] rfl ?_;(with_reducible refine(spec_l14Queue.calls k1 _ _ ((rd_T116 l0_1 x8_1).f0) ((rd_T116 l0_1 x8_1).f1) ((rd_T116 l0_1 x8_1).f2) false _ ?side1 ?side2 A7.out).mono ?_);(case side1=>exact Kd.C_below HR159_0.out (bS2 GE158.out GE160.out));(case side2=>exact HC159_0.out);rintro e w16 ⟨rfl,hb⟩;refine⟨_,rfl,?_⟩;have n0_:=Aside0.mk (blk_below (g:=gb158) (o:=.cells #[.int .i64 a0_0,.slice (some ad159) l0_1.length c0_1,.int .i64 a0_2] 28 (0,0)) (by(with_reducible repeat (first|refine blk_drewN ?_ _|refine blk_drew ?_|refine blk_alloc ?_ _));refine blk_far ?_ NB158_160.out _;(with_reducible repeat (first|refine blk_drewN ?_ _|refine blk_drew ?_|refine blk_alloc ?_ _));refine blk_far ?_ NB158_160.out _;(with_reducible repeat (first|refine blk_drewN ?_ _|refine blk_drew ?_|refine blk_alloc ?_ _));refine blk_far ?_ NB158_160.out _;(with_reducible repeat (first|refine blk_drewN ?_ _|refine blk_drew ?_|refine blk_alloc ?_ _));exact BK158.out) hb);have n1_:=Aside0.mk (blk_below (g:=gb160) (o:=.cells #[.slice A159_0 ((rd_T116 l0_1 x8_1).f0).length c159_0,.int .i64 ((rd_T116 l0_1 x8_1).f1),.int .i64 ((rd_T116 l0_1 x8_1).f2)] 116 (0,0)) (by(with_reducible repeat (first|refine blk_drewN ?_ _|refine blk_drew ?_|refine blk_alloc ?_ _));refine blk_put (cs:=#[.slice A159_0 ((rd_T116 l0_1 x8_1).f0).length c159_0,.int .i64 ((rd_T116 l0_1 x8_1).f1),.int .i64 0]) ?_ 2 _ rfl;(with_reducible repeat (first|refine blk_drewN ?_ _|refine blk_drew ?_|refine blk_alloc ?_ _));refine blk_put (cs:=#[.slice A159_0 ((rd_T116 l0_1 x8_1).f0).length c159_0,.int .i64 0,.int .i64 0]) ?_ 1 _ rfl;(with_reducible repeat (first|refine blk_drewN ?_ _|refine blk_drew ?_|refine blk_alloc ?_ _));refine blk_put (cs:=#[.slice none 0 0,.int .i64 0,.int .i64 0]) ?_ 0 _ rfl;(with_reducible repeat (first|refine blk_drewN ?_ _|refine blk_drew ?_|refine blk_alloc ?_ _));exact BK160.out) hb);have n2_:=Aside0.mk (below_step (bS2 GE158.out GE160.out) hb);clear BK158 BK160 HB;have BK158:=n0_;have BK160:=n1_;have HB:=n2_;clear n0_ n1_ n2_;(try clear hb);(try clear hb2);(try clear hk);(try clear hi)))
       go_ret
       exact⟨bE,bS2 GE158.out GE160.out⟩
     ·rw[if_neg c6] at H
      exact absurd H (by simp)
    ·rw[if_neg c5] at H
     exact absurd H (by simp)
   ·rw[if_neg c4] at H
    have c4b0:decide (x8_1 < (l0_1.length:Int))=false:=decide_eq_false c4
    clear c4
    replace H:=Option.bind_eq_some_iff.mp H
    obtain⟨t162,A170,H⟩:=H
    have A17:=Aside0.mk A170
    clear A170
    by_cases c18:t162=true
    ·subst c18
     have H1:((spec_l1In.f (l0_1.length:Int) 1 6).bind fun t163=>(if t163=true then ((spec_l1In.f a0_2 0 1000000).bind fun t164=>(some t164)) else (some false)))=some r:=by rw[if_pos rfl] at H;exact H
     clear H
     have H:=H1
     clear H1
     replace H:=Option.bind_eq_some_iff.mp H
     obtain⟨t163,A190,H⟩:=H
     have A19:=Aside0.mk A190
     clear A190
     by_cases c20:t163=true
     ·subst c20
      have H1:((spec_l1In.f a0_2 0 1000000).bind fun t164=>(some t164))=some r:=by rw[if_pos rfl] at H;exact H
      clear H
      have H:=H1
      clear H1
      replace H:=Option.bind_eq_some_iff.mp H
      obtain⟨t164,A210,H⟩:=H
      have A21:=Aside0.mk A210
      clear A210
      obtain rfl:=Option.some.inj H
      obtain⟨hcz22_0,hcz22_1,hcz22_2⟩:=cC3 BK158.out
      obtain⟨hfz22_0,hfz22_1,hfz22_2⟩:=cF3 BK158.out
      go_wp2_with (first|((with_reducible refine gate_callee (f:=75) rfl ?_);refine goesA (some 18) rfl rfl Try.func75 #[.int .i64 a0_0,.int .i64 1,.int .i64 50] rfl ?_;(with_reducible refine(spec_l1In.calls a0_0 1 50 true _ A17.out).mono ?_);rintro e w' ⟨rfl,⟨nd,rfl⟩⟩;refine⟨_,rfl,?_⟩)|(go_at_call 75;(with_reducible refine(spec_l1In.calls (l0_1.length:Int) 1 6 true _ A19.out).mono ?_);rintro e w' ⟨rfl,⟨nd,rfl⟩⟩)|(go_at_call 75;(with_reducible refine(spec_l1In.calls a0_2 0 1000000 t164 _ A21.out).mono ?_);rintro e w' ⟨rfl,⟨nd,rfl⟩⟩))
      go_ret
      exact⟨bE,bS GE158.out⟩
     ·replace c20:=Bool.eq_false_iff.mpr c20
      subst c20
      have H1:(some false)=some r:=by rw[if_neg (show ¬ (false=true) by decide)] at H;exact H
      clear H
      have H:=H1
      clear H1
      obtain rfl:=Option.some.inj H
      obtain⟨hcz23_0,hcz23_1,hcz23_2⟩:=cC3 BK158.out
      obtain⟨hfz23_0,hfz23_1,hfz23_2⟩:=cF3 BK158.out
      go_wp2_with (first|((with_reducible refine gate_callee (f:=75) rfl ?_);refine goesA (some 18) rfl rfl Try.func75 #[.int .i64 a0_0,.int .i64 1,.int .i64 50] rfl ?_;(with_reducible refine(spec_l1In.calls a0_0 1 50 true _ A17.out).mono ?_);rintro e w' ⟨rfl,⟨nd,rfl⟩⟩;refine⟨_,rfl,?_⟩)|(go_at_call 75;(with_reducible refine(spec_l1In.calls (l0_1.length:Int) 1 6 false _ A19.out).mono ?_);rintro e w' ⟨rfl,⟨nd,rfl⟩⟩))
      go_ret
      exact⟨bE,bS GE158.out⟩
    ·replace c18:=Bool.eq_false_iff.mpr c18
     subst c18
     have H1:(some false)=some r:=by rw[if_neg (show ¬ (false=true) by decide)] at H;exact H
     clear H
     have H:=H1
     clear H1
     obtain rfl:=Option.some.inj H
     obtain⟨hcz24_0,hcz24_1,hcz24_2⟩:=cC3 BK158.out
     obtain⟨hfz24_0,hfz24_1,hfz24_2⟩:=cF3 BK158.out
     go_wp2_with (first|((with_reducible refine gate_callee (f:=75) rfl ?_);refine goesA (some 18) rfl rfl Try.func75 #[.int .i64 a0_0,.int .i64 1,.int .i64 50] rfl ?_;(with_reducible refine(spec_l1In.calls a0_0 1 50 false _ A17.out).mono ?_);rintro e w' ⟨rfl,⟨nd,rfl⟩⟩;refine⟨_,rfl,?_⟩))
     go_ret
     exact⟨bE,bS GE158.out⟩

/-! ### spec_l14Own: function 76 -/
def spec_l14Own.l0:Nat→List (S116)→List (S116)→Int→Int→Int→List (S116)→Int→Option (Int × (List (S116)) × Int)
 | 0,_,_,_,_,_,_,_=>none
 | k+1,x3,x7,x8,x9,x166000,x166001,x166002=>if x9 < x8 then (if 0≤x9 then (if x9 < (x7.length:Int) then ((some (([]:List Int):List Int)).bind fun y169=>(if y169.length+((rd_T116 x7 x9).f0).length < 17592186044416 then (if x3.length < 3518437208883 then (spec_l14Own.l0 k (x3++[(⟨(y169++((rd_T116 x7 x9).f0)),(rd_T116 x7 x9).f1,(rd_T116 x7 x9).f2⟩:S116)]) x7 x8 (wrap64 (x9+1)) x166000 x166001 x166002) else (none)) else (none))) else (none)) else (none)) else (some (x166000,x3,x166002))
def spec_l14Own.f (k:Nat) (a0_0:Int) (l0_1:List (S116)) (a0_2:Int):Option (Int × (List (S116)) × Int):=spec_l14Own.l0 k ([]:List (S116)) l0_1 (l0_1.length:Int) 0 a0_0 l0_1 a0_2
theorem spec_l14Own.mono_l : ∀ k,(∀ y0 y1 y2 y3 y4 y5 y6,LeO (spec_l14Own.l0 k y0 y1 y2 y3 y4 y5 y6) (spec_l14Own.l0 (k+1) y0 y1 y2 y3 y4 y5 y6))
 | 0=>fun _ _ _ _ _ _ _ r h=>by simp[spec_l14Own.l0] at h
 | k+1=>by
  have ih0:=spec_l14Own.mono_l k
  ·intro y0 y1 y2 y3 y4 y5 y6
   unfold spec_l14Own.l0
   repeat' first
   | (with_reducible exact ih0 _ _ _ _ _ _ _)
   | (with_reducible exact LeO.refl _)
   | (with_reducible exact LeO.none _)
   | (with_reducible refine LeO.ite ?_ ?_)
   | (with_reducible refine LeO.bind ?_ (fun _ => ?_))
   | exact ih0 _ _ _ _ _ _ _
   | exact LeO.none _
   | refine LeO.ite ?_ ?_
   | refine LeO.bind ?_ (fun _ => ?_)
theorem spec_l14Own.mono : ∀ a0 a1 a2 k,LeO (spec_l14Own.f k a0 a1 a2) (spec_l14Own.f (k+1) a0 a1 a2):=by
 intro a0 a1 a2 k
 have ih0:=spec_l14Own.mono_l k
 unfold spec_l14Own.f
 repeat' first
  | (with_reducible exact ih0 _ _ _ _ _ _ _)
  | (with_reducible exact LeO.refl _)
  | (with_reducible exact LeO.none _)
  | (with_reducible refine LeO.ite ?_ ?_)
  | (with_reducible refine LeO.bind ?_ (fun _ => ?_))
  | exact ih0 _ _ _ _ _ _ _
  | exact LeO.none _
  | refine LeO.ite ?_ ?_
  | refine LeO.bind ?_ (fun _ => ?_)
set_option maxHeartbeats 8000000 in
set_option maxRecDepth 100000 in
theorem spec_l14Own.calls (k:Nat) (a0_0:Int) (A0_1:Option Addr) (c0_1:Nat) (l0_1:List (S116)) (a0_2:Int) (r1:Int) (r2:List (S116)) (r3:Int) (w:World) (hr0_1:Kd.C k116 w A0_1 l0_1.length l0_1) (hc0_1:l0_1.length≤c0_1) (h:spec_l14Own.f k a0_0 l0_1 a0_2=some (r1,r2,r3)) :
  Calls Try.prog 76 #[.agg #[.int .i64 a0_0,.slice A0_1 l0_1.length c0_1,.int .i64 a0_2]] w fun e w' => ∃ v1_:Value,e=.returned (.agg #[.int .i64 r1,v1_,.int .i64 r3])∧Kd.S k116 116 w' w.heap.size (fun _=>True) v1_ r2∧Below w.heap.size w w':=by
 have hu28:=Try.underlying28
 have hu116:=Try.underlying116
 have HR0_1:=Aside0.mk hr0_1
 have HC0_1:=Aside0.mk hc0_1
 clear hr0_1 hc0_1
 have HB:=Aside0.mk (Below.refl w.heap.size w)
 have H:(spec_l14Own.l0 k ([]:List (S116)) l0_1 (l0_1.length:Int) 0 a0_0 l0_1 a0_2)=some (r1,r2,r3):=h
 clear h
 have H':=Aside0.mk H
 clear H
 go_enter Try.func76,Try.ntmps76
 go_wp2_with (first|((with_reducible refine gate_dst (N:=1) rfl ?_);refine box_event ?hg (N:=1) ?hd (cs:=#[.int .i64 a0_0,.slice A0_1 l0_1.length c0_1,.int .i64 a0_2]) (t:=28) ?hr ?_;(case hd=>rfl);(case hg=>rfl);(case hr=>first|(go_simp;done)|(go_simp;rfl));intro gb165 hg w2 hbox hb;have n0_:=Aside0.mk (below_step (bB) hb);have n1_:=Aside0.mk (hbox);have n2_:=Aside0.mk ((bG:w.heap.size≤gb165));have n3_:=Aside0.mk ((bG:w.heap.size≤gb165));clear HB;have HB:=n0_;have BK165:=n1_;have GW165:=n2_;have GE165:=n3_;clear n0_ n1_ n2_ n3_;clear hb hbox hg)|((with_reducible refine gate_dst (N:=2) rfl ?_);refine box_event ?hg (N:=2) ?hd (cs:=#[.int .i64 0,.slice none 0 0,.int .i64 0]) (t:=28) ?hr ?_;(case hd=>rfl);(case hg=>rfl);(case hr=>first|(go_simp;done)|(go_simp;rfl));intro gb166 hg w3 hbox hb;have n0_:=Aside0.mk (bM BK165.out hb);have n1_:=Aside0.mk (below_step (bS GE165.out) hb);have n2_:=Aside0.mk (hbox);have n3_:=Aside0.mk ((by rw[hg];exact(below_size (bS GE165.out)):w.heap.size≤gb166));have n4_:=Aside0.mk ((by rw[hg];exact(below_size (bS GE165.out)):w.heap.size≤gb166));have n5_:=Aside0.mk ((bN BK165.out hg:gb165≠gb166));have n6_:=Aside0.mk ((bO BK165.out hg:gb166≠gb165));clear BK165 HB;have BK165:=n0_;have HB:=n1_;have BK166:=n2_;have GW166:=n3_;have GE166:=n4_;have NB165_166:=n5_;have NB166_165:=n6_;clear n0_ n1_ n2_ n3_ n4_ n5_ n6_;clear hb hbox hg;have hnb4:=NB165_166.out;have hnc4:=NB166_165.out;obtain⟨hcz5_0,hcz5_1,hcz5_2⟩:=cC3 BK165.out;obtain⟨hfz5_0,hfz5_1,hfz5_2⟩:=cF3 BK165.out))
 go_loopg [3,9] k (fun kq v3 v9 w' => ∃ (x3_1:List (S116)) (x9_1:Int),v9=.int .i64 x9_1∧Aside0 (spec_l14Own.l0 kq x3_1 l0_1 (l0_1.length:Int) x9_1 a0_0 l0_1 a0_2=some (r1,r2,r3))∧Aside0 (kq≤k)∧Aside0 (Kd.S k116 116 w' w.heap.size (fun _=>True) v3 x3_1)∧Aside0 (w'.heap[gb165]?=some (.cells #[.int .i64 a0_0,(.slice A0_1 l0_1.length c0_1),.int .i64 a0_2] 28 (0,0)))∧Aside0 (w'.heap[gb166]?=some (.cells #[.int .i64 0,(.slice none 0 0),.int .i64 0] 28 (0,0)))∧Aside0 (Below w.heap.size w w'))
 case atStart=>exact⟨(([]:List (S116))),(0),(bR),H',⟨Nat.le_refl _⟩,⟨by first|exact Kd.S_nil _ _ _ _ _|exact Kd.N_nil _ _ _ _ _|exact Kd.V_nil _ _ _ _ _|exact Kd.Q_nil _ _ _ _ _|exact Kd.R_nil _ _ _ _ _⟩,⟨by(with_reducible repeat (first|refine blk_drewN ?_ _|refine blk_drew ?_|refine blk_alloc ?_ _));exact BK165.out⟩,⟨by(with_reducible repeat (first|refine blk_drewN ?_ _|refine blk_drew ?_|refine blk_alloc ?_ _));exact BK166.out⟩,⟨bS2 GE165.out GE166.out⟩⟩
 case round =>
  clear H'
  try clear p2
  try clear c4
  try clear hcz5_0 hcz5_1 hcz5_2
  try clear hfz5_0 hfz5_1 hfz5_2
  obtain⟨x3_1,x9_1,rfl,HA,HK1,HO_3,BK165,BK166,HB⟩:=hrel
  cases gk with
  | zero=>exact absurd HA.out (by simp[spec_l14Own.l0])
  | succ k1 =>
   have H:=HA.out
   clear HA
   simp only[spec_l14Own.l0] at H
   by_cases c6:x9_1 < (l0_1.length:Int)
   ·rw[if_pos c6] at H
    have c6b0:decide (x9_1 < (l0_1.length:Int))=true:=decide_eq_true c6
    clear c6
    by_cases c7:0≤x9_1
    ·rw[if_pos c7] at H
     have c7b0:decide (0≤x9_1)=true:=decide_eq_true c7
     clear c7
     by_cases c8:x9_1 < (l0_1.length:Int)
     ·rw[if_pos c8] at H
      have c8b0:decide (x9_1 < (l0_1.length:Int))=true:=decide_eq_true c8
      clear c8
      obtain⟨y169,hy169⟩ : ∃ y_:List Int,y_=(([]:List Int)):=⟨_,rfl⟩
      replace H:(if y169.length+((rd_T116 l0_1 x9_1).f0).length < 17592186044416 then (if x3_1.length < 3518437208883 then (spec_l14Own.l0 k1 (x3_1++[(⟨(y169++((rd_T116 l0_1 x9_1).f0)),(rd_T116 l0_1 x9_1).f1,(rd_T116 l0_1 x9_1).f2⟩:S116)]) l0_1 (l0_1.length:Int) (wrap64 (x9_1+1)) a0_0 l0_1 a0_2) else (none)) else (none))=some (r1,r2,r3):=by first|(rw[hy169];with_reducible exact H)|(have H2_:=(Option.bind_some _ _).symm.trans H;rw[hy169];with_reducible exact H2_)|(have H2_:=(Option.bind_some _ _).symm.trans H;with_reducible exact H2_)|with_reducible exact H|(rw[hy169];exact H)|exact H
      have Ny169:=Aside0.mk hy169
      clear hy169
      by_cases c9:y169.length+((rd_T116 l0_1 x9_1).f0).length < 17592186044416
      ·rw[if_pos c9] at H
       have LMc9:=Aside0.mk c9
       clear c9
       obtain⟨y172,hy172⟩ : ∃ y_:List Int,y_=(y169++((rd_T116 l0_1 x9_1).f0)):=⟨_,rfl⟩
       replace H:(if x3_1.length < 3518437208883 then (spec_l14Own.l0 k1 (x3_1++[(⟨y172,(rd_T116 l0_1 x9_1).f1,(rd_T116 l0_1 x9_1).f2⟩:S116)]) l0_1 (l0_1.length:Int) (wrap64 (x9_1+1)) a0_0 l0_1 a0_2) else (none))=some (r1,r2,r3):=by first|(rw[hy172];with_reducible exact H)|(have H2_:=(Option.bind_some _ _).symm.trans H;rw[hy172];with_reducible exact H2_)|(have H2_:=(Option.bind_some _ _).symm.trans H;with_reducible exact H2_)|with_reducible exact H|(rw[hy172];exact H)|exact H
       have Ny172:=Aside0.mk hy172
       clear hy172
       by_cases c10:x3_1.length < 3518437208883
       ·rw[if_pos c10] at H
        have LMc10:=Aside0.mk c10
        clear c10
        obtain⟨y175,hy175⟩ : ∃ y_:List (S116),y_=(x3_1++[(⟨y172,(rd_T116 l0_1 x9_1).f1,(rd_T116 l0_1 x9_1).f2⟩:S116)]):=⟨_,rfl⟩
        replace H:(spec_l14Own.l0 k1 y175 l0_1 (l0_1.length:Int) (wrap64 (x9_1+1)) a0_0 l0_1 a0_2)=some (r1,r2,r3):=by first|(rw[hy175];with_reducible exact H)|(have H2_:=(Option.bind_some _ _).symm.trans H;rw[hy175];with_reducible exact H2_)|(have H2_:=(Option.bind_some _ _).symm.trans H;with_reducible exact H2_)|with_reducible exact H|(rw[hy175];exact H)|exact H
        have Ny175:=Aside0.mk hy175
        clear hy175
        have H':=Aside0.mk H
        clear H
        have p167:0≤(x9_1:Int):=of_decide_eq_true (bD)
        have q167:x9_1 < (l0_1.length:Int):=of_decide_eq_true (bD)
        obtain⟨ad167,A167_0,c167_0,e167,hx167_0,hx167_1,hx167_2,hl167_0,hi167_0⟩:=at_T116 HR0_1.out x9_1 p167 q167
        cases e167
        replace hx167_0:=(HB.out.cell (World.block_lt_of_cell? w _ hx167_0)).trans hx167_0
        replace hx167_1:=(HB.out.cell (World.block_lt_of_cell? w _ hx167_1)).trans hx167_1
        replace hx167_2:=(HB.out.cell (World.block_lt_of_cell? w _ hx167_2)).trans hx167_2
        have HR167_0:=Aside0.mk hi167_0
        have HC167_0:=Aside0.mk hl167_0
        clear hi167_0 hl167_0
        replace p167:=eq_true p167
        replace q167:=eq_true q167
        go_wp2_with (first|((with_reducible refine gate_dst (N:=5) rfl ?_);refine box_event ?hg (N:=5) ?hd (cs:=#[.slice none 0 0,.int .i64 0,.int .i64 0]) (t:=116) ?hr ?_;(case hd=>rfl);(case hg=>rfl);(case hr=>first|(go_simp;done)|(go_simp;rfl));intro gb168 hg w11 hbox hb;have n0_:=Aside0.mk (Kd.S_below (Kd.S_elderB (by(with_reducible repeat (first|apply Kd.S_alloc|apply Kd.S_drewN|apply Kd.S_drew));exact HO_3.out) gb168 (Nat.le_of_eq hg.symm)) hb);have n1_:=Aside0.mk (bM BK165.out hb);have n2_:=Aside0.mk (bM BK166.out hb);have n3_:=Aside0.mk (below_step (bS2 GE165.out GE166.out) hb);have n4_:=Aside0.mk (hbox);have n5_:=Aside0.mk ((by rw[hg];exact(below_size (bS2 GE165.out GE166.out)):w.heap.size≤gb168));have n6_:=Aside0.mk ((by rw[hg];exact(below_size (bS2 GE165.out GE166.out)):w.heap.size≤gb168));have n7_:=Aside0.mk ((bN BK165.out hg:gb165≠gb168));have n8_:=Aside0.mk ((bO BK165.out hg:gb168≠gb165));have n9_:=Aside0.mk ((bN BK166.out hg:gb166≠gb168));have n10_:=Aside0.mk ((bO BK166.out hg:gb168≠gb166));clear HO_3 BK165 BK166 HB;have HO_3:=n0_;have BK165:=n1_;have BK166:=n2_;have HB:=n3_;have BK168:=n4_;have GW168:=n5_;have GE168:=n6_;have NB165_168:=n7_;have NB168_165:=n8_;have NB166_168:=n9_;have NB168_166:=n10_;clear n0_ n1_ n2_ n3_ n4_ n5_ n6_ n7_ n8_ n9_ n10_;clear hb hbox hg;have hnb12:=NB168_165.out;have hnc12:=NB165_168.out;have hnb13:=NB168_166.out;have hnc13:=NB166_168.out;obtain⟨hcz14_0,hcz14_1,hcz14_2⟩:=cC3 BK168.out;obtain⟨hfz14_0,hfz14_1,hfz14_2⟩:=cF3 BK168.out)|((with_reducible refine gate_dst (N:=13) rfl ?_);refine Kd.R_lit (Kd.int .i64) _ 3 ?hg (N:=13) ?hd (xs:=([]:List Int)) (inner:=[]) (ok:=fun _=>True) (okp:=fun _=>True) ?hr ?hp (fun _ hk=>hk) trivial (Below.refl _ _) (Nat.le_refl _) (by simp) ?_;(case hd=>rfl);(case hg=>rfl);(case hr=>first|(go_simp;done)|(go_simp;rfl));(case hp=>exact(Reps.none _ _));intro v170 w15 ho16 hb hg_ hnew_;clear hg_ hnew_;(first|rw[← Ny169.out] at ho16|(simp only[Int.reduceToNat] at ho16;rw[← Ny169.out] at ho16));have n0_:=Aside0.mk (Kd.S_elder' (by(with_reducible repeat (first|apply Kd.S_alloc|apply Kd.S_drewN|apply Kd.S_drew));exact(Kd.S_mono (Kd.S_far (p:=⟨gb168,2,none⟩) (Kd.S_far (p:=⟨gb168,1,none⟩) (Kd.S_far (p:=⟨gb168,0,none⟩) (Kd.S_mono HO_3.out (fun k_ hk=>(⟨hk,hk.2⟩:_∧k_≠gb168))) (fun _ hk=>hk.2) (.slice A167_0 ((rd_T116 l0_1 x9_1).f0).length c167_0)) (fun _ hk=>hk.2) (.int .i64 ((rd_T116 l0_1 x9_1).f1))) (fun _ hk=>hk.2) (.int .i64 ((rd_T116 l0_1 x9_1).f2))) (fun _ h_=>h_.1))) (Kd.R_base ho16) hb);have n1_:=Aside0.mk (Kd.R_lower ho16 (below_size (bS3 GE165.out GE166.out GE168.out)));have n2_:=Aside0.mk (blk_below (g:=gb165) (o:=.cells #[.int .i64 a0_0,.slice (some ad167) l0_1.length c0_1,.int .i64 a0_2] 28 (0,0)) (by(with_reducible repeat (first|refine blk_drewN ?_ _|refine blk_drew ?_|refine blk_alloc ?_ _));refine blk_far ?_ NB165_168.out _;(with_reducible repeat (first|refine blk_drewN ?_ _|refine blk_drew ?_|refine blk_alloc ?_ _));refine blk_far ?_ NB165_168.out _;(with_reducible repeat (first|refine blk_drewN ?_ _|refine blk_drew ?_|refine blk_alloc ?_ _));refine blk_far ?_ NB165_168.out _;(with_reducible repeat (first|refine blk_drewN ?_ _|refine blk_drew ?_|refine blk_alloc ?_ _));exact BK165.out) hb);have n3_:=Aside0.mk (blk_below (g:=gb166) (o:=.cells #[.int .i64 0,.slice none 0 0,.int .i64 0] 28 (0,0)) (by(with_reducible repeat (first|refine blk_drewN ?_ _|refine blk_drew ?_|refine blk_alloc ?_ _));refine blk_far ?_ NB166_168.out _;(with_reducible repeat (first|refine blk_drewN ?_ _|refine blk_drew ?_|refine blk_alloc ?_ _));refine blk_far ?_ NB166_168.out _;(with_reducible repeat (first|refine blk_drewN ?_ _|refine blk_drew ?_|refine blk_alloc ?_ _));refine blk_far ?_ NB166_168.out _;(with_reducible repeat (first|refine blk_drewN ?_ _|refine blk_drew ?_|refine blk_alloc ?_ _));exact BK166.out) hb);have n4_:=Aside0.mk (blk_below (g:=gb168) (o:=.cells #[.slice A167_0 ((rd_T116 l0_1 x9_1).f0).length c167_0,.int .i64 ((rd_T116 l0_1 x9_1).f1),.int .i64 ((rd_T116 l0_1 x9_1).f2)] 116 (0,0)) (by(with_reducible repeat (first|refine blk_drewN ?_ _|refine blk_drew ?_|refine blk_alloc ?_ _));refine blk_put (cs:=#[.slice A167_0 ((rd_T116 l0_1 x9_1).f0).length c167_0,.int .i64 ((rd_T116 l0_1 x9_1).f1),.int .i64 0]) ?_ 2 _ rfl;(with_reducible repeat (first|refine blk_drewN ?_ _|refine blk_drew ?_|refine blk_alloc ?_ _));refine blk_put (cs:=#[.slice A167_0 ((rd_T116 l0_1 x9_1).f0).length c167_0,.int .i64 0,.int .i64 0]) ?_ 1 _ rfl;(with_reducible repeat (first|refine blk_drewN ?_ _|refine blk_drew ?_|refine blk_alloc ?_ _));refine blk_put (cs:=#[.slice none 0 0,.int .i64 0,.int .i64 0]) ?_ 0 _ rfl;(with_reducible repeat (first|refine blk_drewN ?_ _|refine blk_drew ?_|refine blk_alloc ?_ _));exact BK168.out) hb);have n5_:=Aside0.mk (below_step (bS3 GE165.out GE166.out GE168.out) hb);clear HO_3 BK165 BK166 BK168 HB;have HO_3:=n0_;have HO171:=n1_;have BK165:=n2_;have BK166:=n3_;have BK168:=n4_;have HB:=n5_;clear n0_ n1_ n2_ n3_ n4_ n5_;clear hb ho16;obtain⟨hcz17_0,hcz17_1,hcz17_2⟩:=cC3 BK168.out;obtain⟨hfz17_0,hfz17_1,hfz17_2⟩:=cF3 BK168.out)|((with_reducible refine gate_builtin (b:=.append) (xs:=#[.tmp 13,.tmp 15]) rfl ?_);at_builtin;refine Kd.R_append_rows (Kd.int .i64) (w0:=w) w.heap.size rfl (.tmp 13) (.tmp 15) 37 3 (.int .i64 0) 8 rfl Try.underlying37 info3 rfl (by decide) (by omega) v170 y169 ((rd_T116 l0_1 x9_1).f0) _ _ _ (fun _=>True) (fun _=>False) rfl rfl ?aO ?aR (fun _ _ h=>h) (fun _ h=>h.elim) ?aF ?aB ?aS ?aL ?_;(case aR=>exact bC HR167_0.out);(case aB=>exact(bS3 GE165.out GE166.out GE168.out));(case aF=>exact(fun _ _=>trivial));(case aO=>exact(bK HO171.out));(case aS=>exact(below_size (bS3 GE165.out GE166.out GE168.out)));(case aL=>have:=LMc9.out;omega);intro v173 w18 ho hb hg hat;rw[← Ny172.out] at ho;have n0_:=Aside0.mk (Kd.S_after (ok:=(fun k_=>k_≠gb168)) (by(with_reducible repeat (first|apply Kd.S_alloc|apply Kd.S_drewN|apply Kd.S_drew));exact Kd.S_mono HO_3.out (fun _ hk=>⟨hk.1.2,hk.2⟩)) hg hat);have n1_:=Aside0.mk (blk_grown (g:=gb165) (o:=.cells #[.int .i64 a0_0,.slice (some ad167) l0_1.length c0_1,.int .i64 a0_2] 28 (0,0)) (bL BK165.out) hg (Kd.R_ne HO171.out BK165.out (by decide)));have n2_:=Aside0.mk (blk_grown (g:=gb166) (o:=.cells #[.int .i64 0,.slice none 0 0,.int .i64 0] 28 (0,0)) (bL BK166.out) hg (Kd.R_ne HO171.out BK166.out (by decide)));have n3_:=Aside0.mk (blk_grown (g:=gb168) (o:=.cells #[.slice A167_0 ((rd_T116 l0_1 x9_1).f0).length c167_0,.int .i64 ((rd_T116 l0_1 x9_1).f1),.int .i64 ((rd_T116 l0_1 x9_1).f2)] 116 (0,0)) (bL BK168.out) hg (Kd.R_ne HO171.out BK168.out (by decide)));have n4_:=Aside0.mk (hb);have n5_:=Aside0.mk (ho);clear HO_3 BK165 BK166 BK168 HB HO171;have HO_3:=n0_;have BK165:=n1_;have BK166:=n2_;have BK168:=n3_;have HB:=n4_;have HO174:=n5_;clear n0_ n1_ n2_ n3_ n4_ n5_;clear ho hb hg hat;obtain⟨Ao19,co19,eo19⟩:=Kd.R_slice HO174.out;subst eo19;obtain⟨hcz20_0,hcz20_1,hcz20_2⟩:=cC3 BK168.out;obtain⟨hfz20_0,hfz20_1,hfz20_2⟩:=cF3 BK168.out)|((with_reducible refine gate_store (t:=37) (p:=17) rfl ?_);refine store_event (t:=37) (p:=17) (v:=?vo_w21) (w1:=(w18.setCell ⟨gb168,0,none⟩ (.slice Ao19 y172.length co19))) ?hg ?ho ?hn ?hr ?_;(case ho=>rfl);(case hg=>rfl);(case hn=>rfl);(case hr=>first|(go_simp;done)|(go_simp;rfl));intro w21 hw;have n0_:Aside0 (Kd.S k116 116 w21 w.heap.size (fun k_=>some k_≠(.slice Ao19 y172.length co19:Value).ownBlock∧k_≠gb168) u3 x3_1):=⟨(by rw[hw];exact(by(with_reducible repeat (first|apply Kd.S_alloc|apply Kd.S_drewN|apply Kd.S_drew));exact Kd.S_mono (Kd.S_far (p:=⟨gb168,0,none⟩) (Kd.S_mono HO_3.out (fun k_ hk=>(⟨hk,hk.1⟩:_∧k_≠gb168))) (fun _ hk=>hk.2) (.slice Ao19 y172.length co19)) (fun _ hk=>⟨hk.1.2,hk.1.1⟩)))⟩;have n1_:Aside0 (Kd.R (Kd.int .i64) 3 w21 w.heap.size (fun _=>True) (.slice Ao19 y172.length co19) y172):=⟨(by rw[hw];exact(by(with_reducible repeat (first|apply Kd.R_alloc|apply Kd.R_drewN|apply Kd.R_drew));exact Kd.R_mono (Kd.R_far (p:=⟨gb168,0,none⟩) (Kd.R_types HO174.out BK168.out (by decide)) (fun _ hk=>hk.2) (.slice Ao19 y172.length co19)) (fun _ hk=>trivial)))⟩;have n2_:Aside0 (w21.heap[gb165]?=some (.cells #[.int .i64 a0_0,.slice (some ad167) l0_1.length c0_1,.int .i64 a0_2] 28 (0,0))):=⟨(by rw[hw];exact(by(with_reducible repeat (first|refine blk_drewN ?_ _|refine blk_drew ?_|refine blk_alloc ?_ _));refine blk_far ?_ NB165_168.out _;(with_reducible repeat (first|refine blk_drewN ?_ _|refine blk_drew ?_|refine blk_alloc ?_ _));exact BK165.out))⟩;have n3_:Aside0 (w21.heap[gb166]?=some (.cells #[.int .i64 0,.slice none 0 0,.int .i64 0] 28 (0,0))):=⟨(by rw[hw];exact(by(with_reducible repeat (first|refine blk_drewN ?_ _|refine blk_drew ?_|refine blk_alloc ?_ _));refine blk_far ?_ NB166_168.out _;(with_reducible repeat (first|refine blk_drewN ?_ _|refine blk_drew ?_|refine blk_alloc ?_ _));exact BK166.out))⟩;have n4_:Aside0 (w21.heap[gb168]?=some (.cells #[.slice Ao19 y172.length co19,.int .i64 ((rd_T116 l0_1 x9_1).f1),.int .i64 ((rd_T116 l0_1 x9_1).f2)] 116 (0,0))):=⟨(by rw[hw];exact(by(with_reducible repeat (first|refine blk_drewN ?_ _|refine blk_drew ?_|refine blk_alloc ?_ _));refine blk_put (cs:=#[.slice A167_0 ((rd_T116 l0_1 x9_1).f0).length c167_0,.int .i64 ((rd_T116 l0_1 x9_1).f1),.int .i64 ((rd_T116 l0_1 x9_1).f2)]) ?_ 0 _ rfl;(with_reducible repeat (first|refine blk_drewN ?_ _|refine blk_drew ?_|refine blk_alloc ?_ _));exact BK168.out))⟩;have n5_:Aside0 (Below w.heap.size w w21):=⟨(by rw[hw];exact(bS3 GE165.out GE166.out GE168.out))⟩;clear hw HO_3 HO174 BK165 BK166 BK168 HB;have HO_3:=n0_;have HO174:=n1_;have BK165:=n2_;have BK166:=n3_;have BK168:=n4_;have HB:=n5_;clear n0_ n1_ n2_ n3_ n4_ n5_;obtain⟨hcz22_0,hcz22_1,hcz22_2⟩:=cC3 BK168.out;obtain⟨hfz22_0,hfz22_1,hfz22_2⟩:=cF3 BK168.out)|((with_reducible refine gate_builtin (b:=.append) (xs:=#[.tmp 18,.tmp 20]) rfl ?_);at_builtin;refine Kd.S_append k116 (w0:=w) w.heap.size rfl (.tmp 18) (.tmp 20) 26 116 (.agg #[(.slice none 0 0),(.int .i64 0),(.int .i64 0)]) 40 rfl Try.underlying26 info116 rfl (by decide) (by omega) u3 x3_1 (⟨y172,(rd_T116 l0_1 x9_1).f1,(rd_T116 l0_1 x9_1).f2⟩:S116) [.slice Ao19 y172.length co19,.int .i64 ((rd_T116 l0_1 x9_1).f1),.int .i64 ((rd_T116 l0_1 x9_1).f2)] (fun k_=>k_≠gb168) (fun k_=>some k_=(.slice Ao19 y172.length co19:Value).ownBlock) rfl rfl ?aP (fun k_ hk_=>((Kd.R_mono (ok':=fun k_=>((fun k_=>k_≠gb168)) k_∧some k_≠(u3:Value).ownBlock) (Kd.R_types (Kd.R_apart' (HO174.out) (Kd.S_typed HO_3.out) (by decide)) BK168.out (by decide)) (fun k_ hk=>⟨hk.2,hk.1.2⟩))).1 k_ hk_.symm) ?aF ?aO ?aB ?aS ?aL ?_;(case aP=>exact k116_mkM _ _ _ (⟨y172,(rd_T116 l0_1 x9_1).f1,(rd_T116 l0_1 x9_1).f2⟩:S116) (Kd.R_mono (Kd.R_tight rfl (Kd.R_mono (ok':=fun k_=>((fun k_=>k_≠gb168)) k_∧some k_≠(u3:Value).ownBlock) (Kd.R_types (Kd.R_apart' (HO174.out) (Kd.S_typed HO_3.out) (by decide)) BK168.out (by decide)) (fun k_ hk=>⟨hk.2,hk.1.2⟩))) (fun _ h_=>h_)));(case aB=>exact(bS3 GE165.out GE166.out GE168.out));(case aF=>exact(fun k_ hk=>Kd.freshB (g:=gb168) (o:=.cells #[.slice Ao19 y172.length co19,.int .i64 ((rd_T116 l0_1 x9_1).f1),.int .i64 ((rd_T116 l0_1 x9_1).f2)] 116 (0,0)) (bL BK168.out) k_ hk));(case aO=>exact(by(with_reducible repeat (first|apply Kd.S_alloc|apply Kd.S_drewN|apply Kd.S_drew));exact Kd.S_mono HO_3.out (fun k_ hk=>⟨hk.2,fun e_=>hk.1 e_⟩)));(case aS=>exact(below_size (bS3 GE165.out GE166.out GE168.out)));(case aL=>have:=LMc10.out;omega);intro v176 w23 ho hb hg hat;rw[← Ny175.out] at ho;have n0_:=Aside0.mk (blk_grown (g:=gb165) (o:=.cells #[.int .i64 a0_0,.slice (some ad167) l0_1.length c0_1,.int .i64 a0_2] 28 (0,0)) (bL BK165.out) hg (Kd.S_ne HO_3.out BK165.out (by decide)));have n1_:=Aside0.mk (blk_grown (g:=gb166) (o:=.cells #[.int .i64 0,.slice none 0 0,.int .i64 0] 28 (0,0)) (bL BK166.out) hg (Kd.S_ne HO_3.out BK166.out (by decide)));have n2_:=Aside0.mk (blk_grown (g:=gb168) (o:=.cells #[.slice Ao19 y172.length co19,.int .i64 ((rd_T116 l0_1 x9_1).f1),.int .i64 ((rd_T116 l0_1 x9_1).f2)] 116 (0,0)) (bL BK168.out) hg (Kd.S_away HO_3.out (fun _ hk=>hk.2)));have n3_:=Aside0.mk (hb);have n4_:=Aside0.mk (ho);clear BK165 BK166 BK168 HB HO_3 HO174;have BK165:=n0_;have BK166:=n1_;have BK168:=n2_;have HB:=n3_;have HO177:=n4_;clear n0_ n1_ n2_ n3_ n4_;clear ho hb hg hat))
        go_roundg k1
        case measure=>have:=HK1.out;omega
        case rel=>exact⟨(y175),(wrap64 (x9_1+1)),(bR),H',⟨by have:=HK1.out;omega⟩,⟨by(with_reducible repeat (first|apply Kd.S_alloc|apply Kd.S_drewN|apply Kd.S_drew));exact Kd.S_mono HO177.out (fun _ hk=>trivial)⟩,⟨by(with_reducible repeat (first|refine blk_drewN ?_ _|refine blk_drew ?_|refine blk_alloc ?_ _));exact BK165.out⟩,⟨by(with_reducible repeat (first|refine blk_drewN ?_ _|refine blk_drew ?_|refine blk_alloc ?_ _));exact BK166.out⟩,⟨bS3 GE165.out GE166.out GE168.out⟩⟩
       ·rw[if_neg c10] at H
        exact absurd H (by simp)
      ·rw[if_neg c9] at H
       exact absurd H (by simp)
     ·rw[if_neg c8] at H
      exact absurd H (by simp)
    ·rw[if_neg c7] at H
     exact absurd H (by simp)
   ·rw[if_neg c6] at H
    have c6b0:decide (x9_1 < (l0_1.length:Int))=false:=decide_eq_false c6
    clear c6
    simp only[Option.some.injEq,Prod.mk.injEq] at H
    obtain⟨rfl,rfl,rfl⟩:=H
    obtain⟨Ao24,co24,eo24⟩:=Kd.S_slice HO_3.out
    subst eo24
    have hnb25:=NB165_166.out
    have hnc25:=NB166_165.out
    obtain⟨hcz26_0,hcz26_1,hcz26_2⟩:=cC3 BK165.out
    obtain⟨hfz26_0,hfz26_1,hfz26_2⟩:=cF3 BK165.out
    obtain⟨hcz27_0,hcz27_1,hcz27_2⟩:=cC3 BK166.out
    obtain⟨hfz27_0,hfz27_1,hfz27_2⟩:=cF3 BK166.out
    go_wp2
    refine bodyPost_ret (results_cell_row rfl _ _ gb166 28 #[.int .i64 a0_0,.slice Ao24 x3_1.length co24,.int .i64 a0_2] (0,0) _ rfl (by(with_reducible repeat (first|refine blk_drewN ?_ _|refine blk_drew ?_|refine blk_alloc ?_ _));refine blk_put (cs:=#[.int .i64 a0_0,.slice Ao24 x3_1.length co24,.int .i64 0]) ?_ 2 _ rfl;(with_reducible repeat (first|refine blk_drewN ?_ _|refine blk_drew ?_|refine blk_alloc ?_ _));refine blk_put (cs:=#[.int .i64 a0_0,.slice none 0 0,.int .i64 0]) ?_ 1 _ rfl;(with_reducible repeat (first|refine blk_drewN ?_ _|refine blk_drew ?_|refine blk_alloc ?_ _));refine blk_put (cs:=#[.int .i64 0,.slice none 0 0,.int .i64 0]) ?_ 0 _ rfl;(with_reducible repeat (first|refine blk_drewN ?_ _|refine blk_drew ?_|refine blk_alloc ?_ _));refine blk_far ?_ NB166_165.out _;(with_reducible repeat (first|refine blk_drewN ?_ _|refine blk_drew ?_|refine blk_alloc ?_ _));exact BK166.out) Try.underlying28 rfl (by kernel_rfl)) rfl ?_
    exact⟨_,by first|rfl|(simp[errW_none,errW_some]<;>rfl)|(simp[*,errW_none,errW_some]<;>rfl),by(with_reducible repeat (first|apply Kd.S_alloc|apply Kd.S_drewN|apply Kd.S_drew));exact Kd.S_mono (Kd.S_far (p:=⟨gb166,2,none⟩) (Kd.S_far (p:=⟨gb166,1,none⟩) (Kd.S_far (p:=⟨gb166,0,none⟩) (Kd.S_far (p:=⟨gb165,1,none⟩) (Kd.S_types (Kd.S_types HO_3.out BK165.out (by decide)) BK166.out (by decide)) (fun _ hk=>hk.1.2) (.slice Ao24 x3_1.length co24)) (fun _ hk=>hk.2) (.int .i64 a0_0)) (fun _ hk=>hk.2) (.slice Ao24 x3_1.length co24)) (fun _ hk=>hk.2) (.int .i64 a0_2)) (fun _ hk=>trivial),bS2 GE165.out GE166.out⟩

end Go.Proofs.Yteneeohaoplpbaa.XFnExactRunRounds
