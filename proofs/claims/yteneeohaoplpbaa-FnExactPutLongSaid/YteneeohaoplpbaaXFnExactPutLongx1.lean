-- Written by this session's own program (wip/xprint.py) out of the translation; Lean checks it.
import Derived.Test.YteneeohaoplpbaaXFnExactPutLongx0
namespace Go.Proofs.Yteneeohaoplpbaa.XFnExactPutLong
open Go.RowKit Go.Proofs.YteneeohaoplpbaaW.PrintWords Go.Proofs.YteneeohaoplpbaaW.PrintLast Go.Proofs.YteneeohaoplpbaaW.PrintMore
attribute [local go_sem] max2_int min2_int max_two min_two max_three min_three max_four min_four   -- for this text's walks alone
set_option linter.unusedVariables false
set_option linter.unusedSimpArgs false

/-! ### laws_szIntS: function 168 -/
def laws_szIntS.f (l0:List Int) (a1:Int):Option (Int):=if (wrap64 (a1 - (l0.length:Int))) < 0 then (some (-1)) else (some (wrap64 (a1 - (l0.length:Int))))
set_option maxHeartbeats 8000000 in
set_option maxRecDepth 100000 in
theorem laws_szIntS.calls (A0:Option Addr) (c0:Nat) (l0:List Int) (a1:Int) (r:Int) (w:World) (hr0:Kd.C (Kd.int .i64) w A0 l0.length l0) (hc0:l0.length≤c0) (h:laws_szIntS.f l0 a1=some r) :
  Calls Try.prog 168 #[.slice A0 l0.length c0,.int .i64 a1] w fun e w'=>e=.returned (.int .i64 r)∧Drawn0 w w':=by
 have HR0:=Aside0.mk hr0
 have HC0:=Aside0.mk hc0
 clear hr0 hc0
 have H:(if (wrap64 (a1 - (l0.length:Int))) < 0 then (some (-1)) else (some (wrap64 (a1 - (l0.length:Int)))))=some r:=h
 clear h
 by_cases c3:(wrap64 (a1 - (l0.length:Int))) < 0
 ·rw[if_pos c3] at H
  have c3b0:decide ((wrap64 (a1 - (l0.length:Int))) < 0)=true:=decide_eq_true c3
  clear c3
  obtain rfl:=Option.some.inj H
  go_enter Try.func168,Try.ntmps168
  go_wp2
  go_ret
  exact⟨bR,bW⟩
 ·rw[if_neg c3] at H
  have c3b0:decide ((wrap64 (a1 - (l0.length:Int))) < 0)=false:=decide_eq_false c3
  clear c3
  obtain rfl:=Option.some.inj H
  go_enter Try.func168,Try.ntmps168
  go_wp2
  go_ret
  exact⟨bR,bW⟩

/-! ### laws_szQueue: function 137 -/
def laws_szQueue.f (l0_0:List Int) (a0_1:Int) (a0_2:Int) (a1:Int):Option (Int):=(laws_szIntS.f l0_0 a1).bind fun t102=>(if t102 < 0 then (some (-1)) else (some t102))
set_option maxHeartbeats 8000000 in
set_option maxRecDepth 100000 in
theorem laws_szQueue.calls (A0_0:Option Addr) (c0_0:Nat) (l0_0:List Int) (a0_1:Int) (a0_2:Int) (a1:Int) (r:Int) (w:World) (hr0_0:Kd.C (Kd.int .i64) w A0_0 l0_0.length l0_0) (hc0_0:l0_0.length≤c0_0) (h:laws_szQueue.f l0_0 a0_1 a0_2 a1=some r) :
  Calls Try.prog 137 #[.agg #[.slice A0_0 l0_0.length c0_0,.int .i64 a0_1,.int .i64 a0_2],.int .i64 a1] w fun e w'=>e=.returned (.int .i64 r)∧Below w.heap.size w w':=by
 have hu167:=Try.underlying167
 have HR0_0:=Aside0.mk hr0_0
 have HC0_0:=Aside0.mk hc0_0
 clear hr0_0 hc0_0
 have HB:=Aside0.mk (Below.refl w.heap.size w)
 have H:((laws_szIntS.f l0_0 a1).bind fun t102=>(if t102 < 0 then (some (-1)) else (some t102)))=some r:=h
 clear h
 replace H:=Option.bind_eq_some_iff.mp H
 obtain⟨t102,A30,H⟩:=H
 replace H:(if t102 < 0 then (some (-1)) else (some t102))=some r:=H
 have A3:=Aside0.mk A30
 clear A30
 by_cases c4:t102 < 0
 ·rw[if_pos c4] at H
  have c4b0:decide (t102 < 0)=true:=decide_eq_true c4
  clear c4
  obtain rfl:=Option.some.inj H
  go_enter Try.func137,Try.ntmps137
  go_wp2_with (first|((with_reducible refine gate_dst (N:=2) rfl ?_);refine box_event ?hg (N:=2) ?hd (cs:=#[.slice A0_0 l0_0.length c0_0,.int .i64 a0_1,.int .i64 a0_2]) (t:=167) ?hr ?_;(case hd=>rfl);(case hg=>rfl);(case hr=>first|(go_simp;done)|(go_simp;rfl));intro gb101 hg w5 hbox hb;have n0_:=Aside0.mk (below_step (bB) hb);have n1_:=Aside0.mk (hbox);have n2_:=Aside0.mk ((bG:w.heap.size≤gb101));have n3_:=Aside0.mk ((bG:w.heap.size≤gb101));clear HB;have HB:=n0_;have BK101:=n1_;have GW101:=n2_;have GE101:=n3_;clear n0_ n1_ n2_ n3_;clear hb hbox hg;obtain⟨hcz6_0,hcz6_1,hcz6_2⟩:=cC3 BK101.out;obtain⟨hfz6_0,hfz6_1,hfz6_2⟩:=cF3 BK101.out)|((with_reducible refine gate_callee (f:=168) rfl ?_);refine goesA (some 8) rfl rfl Try.func168 #[.slice A0_0 l0_0.length c0_0,.int .i64 a1] rfl ?_;(with_reducible refine(laws_szIntS.calls _ _ l0_0 a1 t102 _ ?side1 ?side2 A3.out).mono ?_);(case side1=>exact bC HR0_0.out);(case side2=>exact HC0_0.out);rintro e w' ⟨rfl,⟨nd,rfl⟩⟩;refine⟨_,rfl,?_⟩))
  go_ret
  exact⟨bE,bS GE101.out⟩
 ·rw[if_neg c4] at H
  have c4b0:decide (t102 < 0)=false:=decide_eq_false c4
  clear c4
  obtain rfl:=Option.some.inj H
  go_enter Try.func137,Try.ntmps137
  go_wp2_with (first|((with_reducible refine gate_dst (N:=2) rfl ?_);refine box_event ?hg (N:=2) ?hd (cs:=#[.slice A0_0 l0_0.length c0_0,.int .i64 a0_1,.int .i64 a0_2]) (t:=167) ?hr ?_;(case hd=>rfl);(case hg=>rfl);(case hr=>first|(go_simp;done)|(go_simp;rfl));intro gb101 hg w7 hbox hb;have n0_:=Aside0.mk (below_step (bB) hb);have n1_:=Aside0.mk (hbox);have n2_:=Aside0.mk ((bG:w.heap.size≤gb101));have n3_:=Aside0.mk ((bG:w.heap.size≤gb101));clear HB;have HB:=n0_;have BK101:=n1_;have GW101:=n2_;have GE101:=n3_;clear n0_ n1_ n2_ n3_;clear hb hbox hg;obtain⟨hcz8_0,hcz8_1,hcz8_2⟩:=cC3 BK101.out;obtain⟨hfz8_0,hfz8_1,hfz8_2⟩:=cF3 BK101.out)|((with_reducible refine gate_callee (f:=168) rfl ?_);refine goesA (some 8) rfl rfl Try.func168 #[.slice A0_0 l0_0.length c0_0,.int .i64 a1] rfl ?_;(with_reducible refine(laws_szIntS.calls _ _ l0_0 a1 t102 _ ?side1 ?side2 A3.out).mono ?_);(case side1=>exact bC HR0_0.out);(case side2=>exact HC0_0.out);rintro e w' ⟨rfl,⟨nd,rfl⟩⟩;refine⟨_,rfl,?_⟩))
  go_ret
  exact⟨bE,bS GE101.out⟩

/-! ### laws_szQueueS: function 73 -/
def laws_szQueueS.l0:Nat→List (S167)→Int→Int→Option (Int)
 | 0,_,_,_=>none
 | k+1,x0,x1,x5=>if x5 < (x0.length:Int) then (if 0≤x5 then ((laws_szQueue.f ((rd_T167 x0 x5).f0) ((rd_T167 x0 x5).f1) ((rd_T167 x0 x5).f2) x1).bind fun t104=>(if t104 < 0 then (some (-1)) else (laws_szQueueS.l0 k x0 t104 (wrap64 (x5+1))))) else (none)) else (some x1)
def laws_szQueueS.f (k:Nat) (l0:List (S167)) (a1:Int):Option (Int):=if (wrap64 (a1 - (l0.length:Int))) < 0 then (some (-1)) else (laws_szQueueS.l0 k l0 (wrap64 (a1 - (l0.length:Int))) 0)
theorem laws_szQueueS.mono_l : ∀ k,(∀ y0 y1 y2,LeO (laws_szQueueS.l0 k y0 y1 y2) (laws_szQueueS.l0 (k+1) y0 y1 y2))
 | 0=>fun _ _ _ r h=>by simp[laws_szQueueS.l0] at h
 | k+1=>by
  have ih0:=laws_szQueueS.mono_l k
  ·intro y0 y1 y2
   unfold laws_szQueueS.l0
   repeat' first
   | (with_reducible exact ih0 _ _ _)
   | (with_reducible exact LeO.refl _)
   | (with_reducible exact LeO.none _)
   | (with_reducible refine LeO.ite ?_ ?_)
   | (with_reducible refine LeO.bind ?_ (fun _ => ?_))
   | exact ih0 _ _ _
   | exact LeO.none _
   | refine LeO.ite ?_ ?_
   | refine LeO.bind ?_ (fun _ => ?_)
theorem laws_szQueueS.mono : ∀ a0 a1 k,LeO (laws_szQueueS.f k a0 a1) (laws_szQueueS.f (k+1) a0 a1):=by
 intro a0 a1 k
 have ih0:=laws_szQueueS.mono_l k
 unfold laws_szQueueS.f
 repeat' first
  | (with_reducible exact ih0 _ _ _)
  | (with_reducible exact LeO.refl _)
  | (with_reducible exact LeO.none _)
  | (with_reducible refine LeO.ite ?_ ?_)
  | (with_reducible refine LeO.bind ?_ (fun _ => ?_))
  | exact ih0 _ _ _
  | exact LeO.none _
  | refine LeO.ite ?_ ?_
  | refine LeO.bind ?_ (fun _ => ?_)
set_option maxHeartbeats 8000000 in
set_option maxRecDepth 100000 in
theorem laws_szQueueS.calls (k:Nat) (A0:Option Addr) (c0:Nat) (l0:List (S167)) (a1:Int) (r:Int) (w:World) (hr0:Kd.C k167 w A0 l0.length l0) (hc0:l0.length≤c0) (h:laws_szQueueS.f k l0 a1=some r) :
  Calls Try.prog 73 #[.slice A0 l0.length c0,.int .i64 a1] w fun e w'=>e=.returned (.int .i64 r)∧Below w.heap.size w w':=by
 have hu167:=Try.underlying167
 have HR0:=Aside0.mk hr0
 have HC0:=Aside0.mk hc0
 clear hr0 hc0
 have HB:=Aside0.mk (Below.refl w.heap.size w)
 have H:(if (wrap64 (a1 - (l0.length:Int))) < 0 then (some (-1)) else (laws_szQueueS.l0 k l0 (wrap64 (a1 - (l0.length:Int))) 0))=some r:=h
 clear h
 by_cases c3:(wrap64 (a1 - (l0.length:Int))) < 0
 ·rw[if_pos c3] at H
  have c3b0:decide ((wrap64 (a1 - (l0.length:Int))) < 0)=true:=decide_eq_true c3
  clear c3
  obtain rfl:=Option.some.inj H
  go_enter Try.func73,Try.ntmps73
  go_wp2
  go_ret
  exact⟨bE,bB⟩
 ·rw[if_neg c3] at H
  have c3b0:decide ((wrap64 (a1 - (l0.length:Int))) < 0)=false:=decide_eq_false c3
  clear c3
  have H':=Aside0.mk H
  clear H
  go_enter Try.func73,Try.ntmps73
  go_wp2
  go_loopg [1,5] k (fun kq v1 v5 w' => ∃ (x1_1:Int) (x5_1:Int),v1=.int .i64 x1_1∧v5=.int .i64 x5_1∧Aside0 (laws_szQueueS.l0 kq l0 x1_1 x5_1=some r)∧Aside0 (kq≤k)∧Aside0 (Below w.heap.size w w'))
  case atStart=>exact⟨(wrap64 (a1 - (l0.length:Int))),(0),(bR),(bR),H',⟨Nat.le_refl _⟩,⟨by repeat (first|(with_reducible first|exact HB.out|apply below_alloc|apply pw_below_drewN|apply below_drew1)|exact HB.out)⟩⟩
  case round =>
   clear H'
   try clear p2
   try clear c3
   try clear c3b0
   obtain⟨x1_1,x5_1,rfl,rfl,HA,HK1,HB⟩:=hrel
   cases gk with
   | zero=>exact absurd HA.out (by simp[laws_szQueueS.l0])
   | succ k1 =>
    have H:=HA.out
    clear HA
    simp only[laws_szQueueS.l0] at H
    by_cases c4:x5_1 < (l0.length:Int)
    ·rw[if_pos c4] at H
     have c4b0:decide (x5_1 < (l0.length:Int))=true:=decide_eq_true c4
     clear c4
     by_cases c5:0≤x5_1
     ·rw[if_pos c5] at H
      have c5b0:decide (0≤x5_1)=true:=decide_eq_true c5
      clear c5
      replace H:=Option.bind_eq_some_iff.mp H
      obtain⟨t104,A60,H⟩:=H
      replace H:(if t104 < 0 then (some (-1)) else (laws_szQueueS.l0 k1 l0 t104 (wrap64 (x5_1+1))))=some r:=H
      have A6:=Aside0.mk A60
      clear A60
      by_cases c7:t104 < 0
      ·rw[if_pos c7] at H
       have c7b0:decide (t104 < 0)=true:=decide_eq_true c7
       clear c7
       obtain rfl:=Option.some.inj H
       have p103:0≤(x5_1:Int):=of_decide_eq_true (bD)
       have q103:x5_1 < (l0.length:Int):=of_decide_eq_true (bD)
       obtain⟨ad103,A103_0,c103_0,e103,hx103_0,hx103_1,hx103_2,hl103_0,hi103_0⟩:=at_T167 HR0.out x5_1 p103 q103
       cases e103
       replace hx103_0:=(HB.out.cell (World.block_lt_of_cell? w _ hx103_0)).trans hx103_0
       replace hx103_1:=(HB.out.cell (World.block_lt_of_cell? w _ hx103_1)).trans hx103_1
       replace hx103_2:=(HB.out.cell (World.block_lt_of_cell? w _ hx103_2)).trans hx103_2
       have HR103_0:=Aside0.mk hi103_0
       have HC103_0:=Aside0.mk hl103_0
       clear hi103_0 hl103_0
       replace p103:=eq_true p103
       replace q103:=eq_true q103
       go_wp2_with (first|((with_reducible refine gate_callee (f:=137) rfl ?_);refine goesA (some 23) rfl rfl Try.func137 #[.agg #[.slice A103_0 ((rd_T167 l0 x5_1).f0).length c103_0,.int .i64 ((rd_T167 l0 x5_1).f1),.int .i64 ((rd_T167 l0 x5_1).f2)],.int .i64 x1_1] rfl ?_;(with_reducible refine(laws_szQueue.calls _ _ ((rd_T167 l0 x5_1).f0) ((rd_T167 l0 x5_1).f1) ((rd_T167 l0 x5_1).f2) x1_1 t104 _ ?side1 ?side2 A6.out).mono ?_);(case side1=>exact bC HR103_0.out);(case side2=>exact HC103_0.out);rintro e w8 ⟨rfl,hb⟩;refine⟨_,rfl,?_⟩;have n0_:=Aside0.mk (below_step (bB) hb);clear HB;have HB:=n0_;clear n0_;(try clear hb);(try clear hb2);(try clear hk);(try clear hi)))
       go_ret
       exact⟨bE,bB⟩
      ·rw[if_neg c7] at H
       have c7b0:decide (t104 < 0)=false:=decide_eq_false c7
       clear c7
       have H':=Aside0.mk H
       clear H
       have p103:0≤(x5_1:Int):=of_decide_eq_true (bD)
       have q103:x5_1 < (l0.length:Int):=of_decide_eq_true (bD)
       obtain⟨ad103,A103_0,c103_0,e103,hx103_0,hx103_1,hx103_2,hl103_0,hi103_0⟩:=at_T167 HR0.out x5_1 p103 q103
       cases e103
       replace hx103_0:=(HB.out.cell (World.block_lt_of_cell? w _ hx103_0)).trans hx103_0
       replace hx103_1:=(HB.out.cell (World.block_lt_of_cell? w _ hx103_1)).trans hx103_1
       replace hx103_2:=(HB.out.cell (World.block_lt_of_cell? w _ hx103_2)).trans hx103_2
       have HR103_0:=Aside0.mk hi103_0
       have HC103_0:=Aside0.mk hl103_0
       clear hi103_0 hl103_0
       replace p103:=eq_true p103
       replace q103:=eq_true q103
       go_wp2_with (first|((with_reducible refine gate_callee (f:=137) rfl ?_);refine goesA (some 23) rfl rfl Try.func137 #[.agg #[.slice A103_0 ((rd_T167 l0 x5_1).f0).length c103_0,.int .i64 ((rd_T167 l0 x5_1).f1),.int .i64 ((rd_T167 l0 x5_1).f2)],.int .i64 x1_1] rfl ?_;(with_reducible refine(laws_szQueue.calls _ _ ((rd_T167 l0 x5_1).f0) ((rd_T167 l0 x5_1).f1) ((rd_T167 l0 x5_1).f2) x1_1 t104 _ ?side1 ?side2 A6.out).mono ?_);(case side1=>exact bC HR103_0.out);(case side2=>exact HC103_0.out);rintro e w9 ⟨rfl,hb⟩;refine⟨_,rfl,?_⟩;have n0_:=Aside0.mk (below_step (bB) hb);clear HB;have HB:=n0_;clear n0_;(try clear hb);(try clear hb2);(try clear hk);(try clear hi)))
       go_roundg k1
       case measure=>have:=HK1.out;omega
       case rel=>exact⟨(t104),(wrap64 (x5_1+1)),(bR),(bR),H',⟨by have:=HK1.out;omega⟩,⟨by repeat (first|(with_reducible first|exact HB.out|apply below_alloc|apply pw_below_drewN|apply below_drew1)|exact HB.out)⟩⟩
     ·rw[if_neg c5] at H
      exact absurd H (by simp)
    ·rw[if_neg c4] at H
     have c4b0:decide (x5_1 < (l0.length:Int))=false:=decide_eq_false c4
     clear c4
     obtain rfl:=Option.some.inj H
     go_wp2
     go_ret
     exact⟨bE,bB⟩

/-! ### laws_szTurns: function 15 -/
def laws_szTurns.f (k:Nat) (a0_0:Int) (l0_1:List (S167)) (a0_2:Int) (a1:Int):Option (Int):=(laws_szQueueS.f k l0_1 a1).bind fun t106=>(if t106 < 0 then (some (-1)) else (some t106))
theorem laws_szTurns.mono : ∀ a0 a1 a2 a3 k,LeO (laws_szTurns.f k a0 a1 a2 a3) (laws_szTurns.f (k+1) a0 a1 a2 a3):=by
 intro a0 a1 a2 a3 k
 unfold laws_szTurns.f
 repeat' first
  | (with_reducible exact laws_szQueueS.mono _ _ _)
  | (with_reducible exact LeO.refl _)
  | (with_reducible exact LeO.none _)
  | (with_reducible refine LeO.ite ?_ ?_)
  | (with_reducible refine LeO.bind ?_ (fun _ => ?_))
  | exact laws_szQueueS.mono _ _ _
  | exact LeO.none _
  | refine LeO.ite ?_ ?_
  | refine LeO.bind ?_ (fun _ => ?_)
set_option maxHeartbeats 8000000 in
set_option maxRecDepth 100000 in
theorem laws_szTurns.calls (k:Nat) (a0_0:Int) (A0_1:Option Addr) (c0_1:Nat) (l0_1:List (S167)) (a0_2:Int) (a1:Int) (r:Int) (w:World) (hr0_1:Kd.C k167 w A0_1 l0_1.length l0_1) (hc0_1:l0_1.length≤c0_1) (h:laws_szTurns.f k a0_0 l0_1 a0_2 a1=some r) :
  Calls Try.prog 15 #[.agg #[.int .i64 a0_0,.slice A0_1 l0_1.length c0_1,.int .i64 a0_2],.int .i64 a1] w fun e w'=>e=.returned (.int .i64 r)∧Below w.heap.size w w':=by
 have hu24:=Try.underlying24
 have HR0_1:=Aside0.mk hr0_1
 have HC0_1:=Aside0.mk hc0_1
 clear hr0_1 hc0_1
 have HB:=Aside0.mk (Below.refl w.heap.size w)
 have H:((laws_szQueueS.f k l0_1 a1).bind fun t106=>(if t106 < 0 then (some (-1)) else (some t106)))=some r:=h
 clear h
 replace H:=Option.bind_eq_some_iff.mp H
 obtain⟨t106,A30,H⟩:=H
 replace H:(if t106 < 0 then (some (-1)) else (some t106))=some r:=H
 have A3:=Aside0.mk A30
 clear A30
 by_cases c4:t106 < 0
 ·rw[if_pos c4] at H
  have c4b0:decide (t106 < 0)=true:=decide_eq_true c4
  clear c4
  obtain rfl:=Option.some.inj H
  go_enter Try.func15,Try.ntmps15
  go_wp2_with (first|((with_reducible refine gate_dst (N:=2) rfl ?_);refine box_event ?hg (N:=2) ?hd (cs:=#[.int .i64 a0_0,.slice A0_1 l0_1.length c0_1,.int .i64 a0_2]) (t:=24) ?hr ?_;(case hd=>rfl);(case hg=>rfl);(case hr=>first|(go_simp;done)|(go_simp;rfl));intro gb105 hg w5 hbox hb;have n0_:=Aside0.mk (below_step (bB) hb);have n1_:=Aside0.mk (hbox);have n2_:=Aside0.mk ((bG:w.heap.size≤gb105));have n3_:=Aside0.mk ((bG:w.heap.size≤gb105));clear HB;have HB:=n0_;have BK105:=n1_;have GW105:=n2_;have GE105:=n3_;clear n0_ n1_ n2_ n3_;clear hb hbox hg;obtain⟨hcz6_0,hcz6_1,hcz6_2⟩:=cC3 BK105.out;obtain⟨hfz6_0,hfz6_1,hfz6_2⟩:=cF3 BK105.out)|((with_reducible refine gate_callee (f:=73) rfl ?_);refine goesA (some 8) rfl rfl Try.func73 #[.slice A0_1 l0_1.length c0_1,.int .i64 a1] rfl ?_;(with_reducible refine(laws_szQueueS.calls k _ _ l0_1 a1 t106 _ ?side1 ?side2 A3.out).mono ?_);(case side1=>exact bC HR0_1.out);(case side2=>exact HC0_1.out);rintro e w7 ⟨rfl,hb⟩;refine⟨_,rfl,?_⟩;have n0_:=Aside0.mk (bM BK105.out hb);have n1_:=Aside0.mk (below_step (bS GE105.out) hb);clear BK105 HB;have BK105:=n0_;have HB:=n1_;clear n0_ n1_;(try clear hb);(try clear hb2);(try clear hk);(try clear hi)))
  go_ret
  exact⟨bE,bS GE105.out⟩
 ·rw[if_neg c4] at H
  have c4b0:decide (t106 < 0)=false:=decide_eq_false c4
  clear c4
  obtain rfl:=Option.some.inj H
  go_enter Try.func15,Try.ntmps15
  go_wp2_with (first|((with_reducible refine gate_dst (N:=2) rfl ?_);refine box_event ?hg (N:=2) ?hd (cs:=#[.int .i64 a0_0,.slice A0_1 l0_1.length c0_1,.int .i64 a0_2]) (t:=24) ?hr ?_;(case hd=>rfl);(case hg=>rfl);(case hr=>first|(go_simp;done)|(go_simp;rfl));intro gb105 hg w8 hbox hb;have n0_:=Aside0.mk (below_step (bB) hb);have n1_:=Aside0.mk (hbox);have n2_:=Aside0.mk ((bG:w.heap.size≤gb105));have n3_:=Aside0.mk ((bG:w.heap.size≤gb105));clear HB;have HB:=n0_;have BK105:=n1_;have GW105:=n2_;have GE105:=n3_;clear n0_ n1_ n2_ n3_;clear hb hbox hg;obtain⟨hcz9_0,hcz9_1,hcz9_2⟩:=cC3 BK105.out;obtain⟨hfz9_0,hfz9_1,hfz9_2⟩:=cF3 BK105.out)|((with_reducible refine gate_callee (f:=73) rfl ?_);refine goesA (some 8) rfl rfl Try.func73 #[.slice A0_1 l0_1.length c0_1,.int .i64 a1] rfl ?_;(with_reducible refine(laws_szQueueS.calls k _ _ l0_1 a1 t106 _ ?side1 ?side2 A3.out).mono ?_);(case side1=>exact bC HR0_1.out);(case side2=>exact HC0_1.out);rintro e w10 ⟨rfl,hb⟩;refine⟨_,rfl,?_⟩;have n0_:=Aside0.mk (bM BK105.out hb);have n1_:=Aside0.mk (below_step (bS GE105.out) hb);clear BK105 HB;have BK105:=n0_;have HB:=n1_;clear n0_ n1_;(try clear hb);(try clear hb2);(try clear hk);(try clear hi)))
  go_ret
  exact⟨bE,bS GE105.out⟩

/-! ### spec_l1In: function 75 -/
def spec_l1In.f (a0:Int) (a1:Int) (a2:Int):Option (Bool):=if a0 ≥ a1 then (some (decide (a0≤a2))) else (some false)
set_option maxHeartbeats 8000000 in
set_option maxRecDepth 100000 in
theorem spec_l1In.calls (a0:Int) (a1:Int) (a2:Int) (r:Bool) (w:World) (h:spec_l1In.f a0 a1 a2=some r) :
  Calls Try.prog 75 #[.int .i64 a0,.int .i64 a1,.int .i64 a2] w fun e w'=>e=.returned (.bool r)∧Drawn0 w w':=by
 have H:(if a0 ≥ a1 then (some (decide (a0≤a2))) else (some false))=some r:=h
 clear h
 by_cases c4:a0 ≥ a1
 ·rw[if_pos c4] at H
  have c4b0:decide (a1≤a0)=true:=decide_eq_true c4
  clear c4
  obtain rfl:=Option.some.inj H
  go_enter Try.func75,Try.ntmps75
  go_wp2
  go_ret
  exact⟨bR,bW⟩
 ·rw[if_neg c4] at H
  have c4b0:decide (a1≤a0)=false:=decide_eq_false c4
  clear c4
  obtain rfl:=Option.some.inj H
  go_enter Try.func75,Try.ntmps75
  go_wp2
  go_ret
  exact⟨bR,bW⟩

/-! ### spec_l14Queue: function 138 -/
def spec_l14Queue.l0:Nat→List Int→Int→Int→List Int→Int→Int→Option (Bool)
 | 0,_,_,_,_,_,_=>none
 | k+1,x6,x7,x8,x108000,x108001,x108002=>if x8 < x7 then (if 0≤x8 then (if x8 < (x6.length:Int) then ((spec_l1In.f (rd x6 x8) 1 50).bind fun t109=>(if t109=true then (spec_l14Queue.l0 k x6 x7 (wrap64 (x8+1)) x108000 x108001 x108002) else (some false))) else (none)) else (none)) else (if (x108000.length:Int)≤40 then ((spec_l1In.f x108001 0 100).bind fun t110=>(if t110=true then ((spec_l1In.f x108002 0 1000000).bind fun t111=>(if t111=true then (if (x108000.length:Int) > 0 then (some true) else (some (x108001 == 0))) else (some false))) else (some false))) else (some false))
def spec_l14Queue.f (k:Nat) (l0_0:List Int) (a0_1:Int) (a0_2:Int):Option (Bool):=spec_l14Queue.l0 k l0_0 (l0_0.length:Int) 0 l0_0 a0_1 a0_2
theorem spec_l14Queue.mono_l : ∀ k,(∀ y0 y1 y2 y3 y4 y5,LeO (spec_l14Queue.l0 k y0 y1 y2 y3 y4 y5) (spec_l14Queue.l0 (k+1) y0 y1 y2 y3 y4 y5))
 | 0=>fun _ _ _ _ _ _ r h=>by simp[spec_l14Queue.l0] at h
 | k+1=>by
  have ih0:=spec_l14Queue.mono_l k
  ·intro y0 y1 y2 y3 y4 y5
   unfold spec_l14Queue.l0
   repeat' first
   | (with_reducible exact ih0 _ _ _ _ _ _)
   | (with_reducible exact LeO.refl _)
   | (with_reducible exact LeO.none _)
   | (with_reducible refine LeO.ite ?_ ?_)
   | (with_reducible refine LeO.bind ?_ (fun _ => ?_))
   | exact ih0 _ _ _ _ _ _
   | exact LeO.none _
   | refine LeO.ite ?_ ?_
   | refine LeO.bind ?_ (fun _ => ?_)
theorem spec_l14Queue.mono : ∀ a0 a1 a2 k,LeO (spec_l14Queue.f k a0 a1 a2) (spec_l14Queue.f (k+1) a0 a1 a2):=by
 intro a0 a1 a2 k
 have ih0:=spec_l14Queue.mono_l k
 unfold spec_l14Queue.f
 repeat' first
  | (with_reducible exact ih0 _ _ _ _ _ _)
  | (with_reducible exact LeO.refl _)
  | (with_reducible exact LeO.none _)
  | (with_reducible refine LeO.ite ?_ ?_)
  | (with_reducible refine LeO.bind ?_ (fun _ => ?_))
  | exact ih0 _ _ _ _ _ _
  | exact LeO.none _
  | refine LeO.ite ?_ ?_
  | refine LeO.bind ?_ (fun _ => ?_)
set_option maxHeartbeats 8000000 in
set_option maxRecDepth 100000 in
theorem spec_l14Queue.calls (k:Nat) (A0_0:Option Addr) (c0_0:Nat) (l0_0:List Int) (a0_1:Int) (a0_2:Int) (r:Bool) (w:World) (hr0_0:Kd.C (Kd.int .i64) w A0_0 l0_0.length l0_0) (hc0_0:l0_0.length≤c0_0) (h:spec_l14Queue.f k l0_0 a0_1 a0_2=some r) :
  Calls Try.prog 138 #[.agg #[.slice A0_0 l0_0.length c0_0,.int .i64 a0_1,.int .i64 a0_2]] w fun e w'=>e=.returned (.bool r)∧Below w.heap.size w w':=by
 have hu116:=Try.underlying116
 have HR0_0:=Aside0.mk hr0_0
 have HC0_0:=Aside0.mk hc0_0
 clear hr0_0 hc0_0
 have HB:=Aside0.mk (Below.refl w.heap.size w)
 have H:(spec_l14Queue.l0 k l0_0 (l0_0.length:Int) 0 l0_0 a0_1 a0_2)=some r:=h
 clear h
 have H':=Aside0.mk H
 clear H
 go_enter Try.func138,Try.ntmps138
 go_wp2_with (first|((with_reducible refine gate_dst (N:=1) rfl ?_);(try (refine gate_guard (by rfl) ?_;dsimp only));refine box_event ?hg (N:=1) ?hd (cs:=#[.slice A0_0 l0_0.length c0_0,.int .i64 a0_1,.int .i64 a0_2]) (t:=116) ?hr ?_;(case hd=>rfl);(case hg=>rfl);(case hr=>first|(go_simp;done)|(go_simp;rfl));intro gb107 hg w2 hbox hb;have n0_:=Aside0.mk (below_step (bB) hb);have n1_:=Aside0.mk (hbox);have n2_:=Aside0.mk ((bG:w.heap.size≤gb107));have n3_:=Aside0.mk ((bG:w.heap.size≤gb107));clear HB;have HB:=n0_;have BK107:=n1_;have GW107:=n2_;have GE107:=n3_;clear n0_ n1_ n2_ n3_;clear hb hbox hg;obtain⟨hcz3_0,hcz3_1,hcz3_2⟩:=cC3 BK107.out;obtain⟨hfz3_0,hfz3_1,hfz3_2⟩:=cF3 BK107.out))
 go_loopg [8] k (fun kq v8 w' => ∃ (x8_1:Int),v8=.int .i64 x8_1∧Aside0 (spec_l14Queue.l0 kq l0_0 (l0_0.length:Int) x8_1 l0_0 a0_1 a0_2=some r)∧Aside0 (kq≤k)∧Aside0 (w'.heap[gb107]?=some (.cells #[(.slice A0_0 l0_0.length c0_0),.int .i64 a0_1,.int .i64 a0_2] 116 (0,0)))∧Aside0 (Below w.heap.size w w'))
 case atStart=>exact⟨(0),(bR),H',⟨Nat.le_refl _⟩,⟨by(with_reducible repeat (first|refine blk_drewN ?_ _|refine blk_drew ?_|refine blk_alloc ?_ _));exact BK107.out⟩,⟨bS GE107.out⟩⟩
 case round =>
  clear H'
  try clear c1
  try clear p2
  try clear hcz3_0 hcz3_1 hcz3_2
  try clear hfz3_0 hfz3_1 hfz3_2
  obtain⟨x8_1,rfl,HA,HK1,BK107,HB⟩:=hrel
  cases gk with
  | zero=>exact absurd HA.out (by simp[spec_l14Queue.l0])
  | succ k1 =>
   have H:=HA.out
   clear HA
   simp only[spec_l14Queue.l0] at H
   by_cases c4:x8_1 < (l0_0.length:Int)
   ·rw[if_pos c4] at H
    have c4b0:decide (x8_1 < (l0_0.length:Int))=true:=decide_eq_true c4
    clear c4
    by_cases c5:0≤x8_1
    ·rw[if_pos c5] at H
     have c5b0:decide (0≤x8_1)=true:=decide_eq_true c5
     clear c5
     by_cases c6:x8_1 < (l0_0.length:Int)
     ·rw[if_pos c6] at H
      have c6b0:decide (x8_1 < (l0_0.length:Int))=true:=decide_eq_true c6
      clear c6
      replace H:=Option.bind_eq_some_iff.mp H
      obtain⟨t109,A70,H⟩:=H
      replace H:(if t109=true then (spec_l14Queue.l0 k1 l0_0 (l0_0.length:Int) (wrap64 (x8_1+1)) l0_0 a0_1 a0_2) else (some false))=some r:=H
      have A7:=Aside0.mk A70
      clear A70
      by_cases c8:t109=true
      ·subst c8
       have H1:(spec_l14Queue.l0 k1 l0_0 (l0_0.length:Int) (wrap64 (x8_1+1)) l0_0 a0_1 a0_2)=some r:=by rw[if_pos rfl] at H;exact H
       clear H
       have H:=H1
       clear H1
       have H':=Aside0.mk H
       clear H
       have p108:0≤(x8_1:Int):=of_decide_eq_true (bD)
       have q108:x8_1 < (l0_0.length:Int):=of_decide_eq_true (bD)
       obtain⟨ad108,e108,hx108_0⟩:=Kd.at_int HR0_0.out x8_1 p108 q108
       cases e108
       replace hx108_0:=(HB.out.cell (World.block_lt_of_cell? w _ hx108_0)).trans hx108_0
       replace p108:=eq_true p108
       replace q108:=eq_true q108
       go_wp2_with (first|((with_reducible refine gate_callee (f:=75) rfl ?_);refine goesA (some 13) rfl rfl Try.func75 #[.int .i64 (rd l0_0 x8_1),.int .i64 1,.int .i64 50] rfl ?_;(with_reducible refine(spec_l1In.calls (rd l0_0 x8_1) 1 50 true _ A7.out).mono ?_);rintro e w' ⟨rfl,⟨nd,rfl⟩⟩;refine⟨_,rfl,?_⟩))
       go_roundg k1
       case measure=>have:=HK1.out;omega
       case rel=>exact⟨(wrap64 (x8_1+1)),(bR),H',⟨by have:=HK1.out;omega⟩,⟨by(with_reducible repeat (first|refine blk_drewN ?_ _|refine blk_drew ?_|refine blk_alloc ?_ _));exact BK107.out⟩,⟨bS GE107.out⟩⟩
      ·replace c8:=Bool.eq_false_iff.mpr c8
       subst c8
       have H1:(some false)=some r:=by rw[if_neg (show ¬ (false=true) by decide)] at H;exact H
       clear H
       have H:=H1
       clear H1
       obtain rfl:=Option.some.inj H
       have p108:0≤(x8_1:Int):=of_decide_eq_true (bD)
       have q108:x8_1 < (l0_0.length:Int):=of_decide_eq_true (bD)
       obtain⟨ad108,e108,hx108_0⟩:=Kd.at_int HR0_0.out x8_1 p108 q108
       cases e108
       replace hx108_0:=(HB.out.cell (World.block_lt_of_cell? w _ hx108_0)).trans hx108_0
       replace p108:=eq_true p108
       replace q108:=eq_true q108
       go_wp2_with (first|((with_reducible refine gate_callee (f:=75) rfl ?_);refine goesA (some 13) rfl rfl Try.func75 #[.int .i64 (rd l0_0 x8_1),.int .i64 1,.int .i64 50] rfl ?_;(with_reducible refine(spec_l1In.calls (rd l0_0 x8_1) 1 50 false _ A7.out).mono ?_);rintro e w' ⟨rfl,⟨nd,rfl⟩⟩;refine⟨_,rfl,?_⟩))
       go_ret
       exact⟨bE,bS GE107.out⟩
     ·rw[if_neg c6] at H
      exact absurd H (by simp)
    ·rw[if_neg c5] at H
     exact absurd H (by simp)
   ·rw[if_neg c4] at H
    have c4b0:decide (x8_1 < (l0_0.length:Int))=false:=decide_eq_false c4
    clear c4
    by_cases c9:(l0_0.length:Int)≤40
    ·rw[if_pos c9] at H
     have c9b0:decide ((l0_0.length:Int)≤40)=true:=decide_eq_true c9
     have c9b1:decide (l0_0.length≤40)=true:=decide_eq_true (by omega)
     clear c9
     replace H:=Option.bind_eq_some_iff.mp H
     obtain⟨t110,A100,H⟩:=H
     replace H:(if t110=true then ((spec_l1In.f a0_2 0 1000000).bind fun t111=>(if t111=true then (if (l0_0.length:Int) > 0 then (some true) else (some (a0_1 == 0))) else (some false))) else (some false))=some r:=H
     have A10:=Aside0.mk A100
     clear A100
     by_cases c11:t110=true
     ·subst c11
      have H1:((spec_l1In.f a0_2 0 1000000).bind fun t111=>(if t111=true then (if (l0_0.length:Int) > 0 then (some true) else (some (a0_1 == 0))) else (some false)))=some r:=by rw[if_pos rfl] at H;exact H
      clear H
      have H:=H1
      clear H1
      replace H:=Option.bind_eq_some_iff.mp H
      obtain⟨t111,A120,H⟩:=H
      replace H:(if t111=true then (if (l0_0.length:Int) > 0 then (some true) else (some (a0_1 == 0))) else (some false))=some r:=H
      have A12:=Aside0.mk A120
      clear A120
      by_cases c13:t111=true
      ·subst c13
       have H1:(if (l0_0.length:Int) > 0 then (some true) else (some (a0_1 == 0)))=some r:=by rw[if_pos rfl] at H;exact H
       clear H
       have H:=H1
       clear H1
       by_cases c14:(l0_0.length:Int) > 0
       ·rw[if_pos c14] at H
        have c14b0:decide (0 < (l0_0.length:Int))=true:=decide_eq_true c14
        have c14b1:decide (0 < l0_0.length)=true:=decide_eq_true (by omega)
        clear c14
        obtain rfl:=Option.some.inj H
        obtain⟨hcz15_0,hcz15_1,hcz15_2⟩:=cC3 BK107.out
        obtain⟨hfz15_0,hfz15_1,hfz15_2⟩:=cF3 BK107.out
        go_wp2_with (first|(go_at_call 75;(with_reducible refine(spec_l1In.calls a0_1 0 100 true _ A10.out).mono ?_);rintro e w' ⟨rfl,⟨nd,rfl⟩⟩)|(go_at_call 75;(with_reducible refine(spec_l1In.calls a0_2 0 1000000 true _ A12.out).mono ?_);rintro e w' ⟨rfl,⟨nd,rfl⟩⟩))
        go_ret
        exact⟨bE,bS GE107.out⟩
       ·rw[if_neg c14] at H
        have c14b0:decide (0 < (l0_0.length:Int))=false:=decide_eq_false c14
        have c14b1:decide (0 < l0_0.length)=false:=decide_eq_false (by omega)
        clear c14
        obtain rfl:=Option.some.inj H
        obtain⟨hcz16_0,hcz16_1,hcz16_2⟩:=cC3 BK107.out
        obtain⟨hfz16_0,hfz16_1,hfz16_2⟩:=cF3 BK107.out
        go_wp2_with (first|(go_at_call 75;(with_reducible refine(spec_l1In.calls a0_1 0 100 true _ A10.out).mono ?_);rintro e w' ⟨rfl,⟨nd,rfl⟩⟩)|(go_at_call 75;(with_reducible refine(spec_l1In.calls a0_2 0 1000000 true _ A12.out).mono ?_);rintro e w' ⟨rfl,⟨nd,rfl⟩⟩))
        go_ret
        exact⟨bE,bS GE107.out⟩
      ·replace c13:=Bool.eq_false_iff.mpr c13
       subst c13
       have H1:(some false)=some r:=by rw[if_neg (show ¬ (false=true) by decide)] at H;exact H
       clear H
       have H:=H1
       clear H1
       obtain rfl:=Option.some.inj H
       obtain⟨hcz17_0,hcz17_1,hcz17_2⟩:=cC3 BK107.out
       obtain⟨hfz17_0,hfz17_1,hfz17_2⟩:=cF3 BK107.out
       go_wp2_with (first|(go_at_call 75;(with_reducible refine(spec_l1In.calls a0_1 0 100 true _ A10.out).mono ?_);rintro e w' ⟨rfl,⟨nd,rfl⟩⟩)|(go_at_call 75;(with_reducible refine(spec_l1In.calls a0_2 0 1000000 false _ A12.out).mono ?_);rintro e w' ⟨rfl,⟨nd,rfl⟩⟩))
       go_ret
       exact⟨bE,bS GE107.out⟩
     ·replace c11:=Bool.eq_false_iff.mpr c11
      subst c11
      have H1:(some false)=some r:=by rw[if_neg (show ¬ (false=true) by decide)] at H;exact H
      clear H
      have H:=H1
      clear H1
      obtain rfl:=Option.some.inj H
      obtain⟨hcz18_0,hcz18_1,hcz18_2⟩:=cC3 BK107.out
      obtain⟨hfz18_0,hfz18_1,hfz18_2⟩:=cF3 BK107.out
      go_wp2_with (first|(go_at_call 75;(with_reducible refine(spec_l1In.calls a0_1 0 100 false _ A10.out).mono ?_);rintro e w' ⟨rfl,⟨nd,rfl⟩⟩))
      go_ret
      exact⟨bE,bS GE107.out⟩
    ·rw[if_neg c9] at H
     have c9b0:decide ((l0_0.length:Int)≤40)=false:=decide_eq_false c9
     have c9b1:decide (l0_0.length≤40)=false:=decide_eq_false (by omega)
     clear c9
     obtain rfl:=Option.some.inj H
     obtain⟨hcz19_0,hcz19_1,hcz19_2⟩:=cC3 BK107.out
     obtain⟨hfz19_0,hfz19_1,hfz19_2⟩:=cF3 BK107.out
     go_wp2
     go_ret
     exact⟨bE,bS GE107.out⟩

/-! ### spec_GoodTurns: function 74 -/
def spec_GoodTurns.l0:Nat→List (S116)→Int→Int→Int→List (S116)→Int→Option (Bool)
 | 0,_,_,_,_,_,_=>none
 | k+1,x6,x7,x8,x113000,x113001,x113002=>if x8 < x7 then (if 0≤x8 then (if x8 < (x6.length:Int) then ((spec_l14Queue.f k ((rd_T116 x6 x8).f0) ((rd_T116 x6 x8).f1) ((rd_T116 x6 x8).f2)).bind fun t115=>(if t115=true then (spec_GoodTurns.l0 k x6 x7 (wrap64 (x8+1)) x113000 x113001 x113002) else (some false))) else (none)) else (none)) else ((spec_l1In.f x113000 1 50).bind fun t116=>(if t116=true then ((spec_l1In.f (x113001.length:Int) 1 6).bind fun t117=>(if t117=true then ((spec_l1In.f x113002 0 1000000).bind fun t118=>(some t118)) else (some false))) else (some false)))
def spec_GoodTurns.f (k:Nat) (a0_0:Int) (l0_1:List (S116)) (a0_2:Int):Option (Bool):=spec_GoodTurns.l0 k l0_1 (l0_1.length:Int) 0 a0_0 l0_1 a0_2
theorem spec_GoodTurns.mono_l : ∀ k,(∀ y0 y1 y2 y3 y4 y5,LeO (spec_GoodTurns.l0 k y0 y1 y2 y3 y4 y5) (spec_GoodTurns.l0 (k+1) y0 y1 y2 y3 y4 y5))
 | 0=>fun _ _ _ _ _ _ r h=>by simp[spec_GoodTurns.l0] at h
 | k+1=>by
  have ih0:=spec_GoodTurns.mono_l k
  ·intro y0 y1 y2 y3 y4 y5
   unfold spec_GoodTurns.l0
   repeat' first
   | (with_reducible exact ih0 _ _ _ _ _ _)
   | (with_reducible exact spec_l14Queue.mono _ _ _ _)
   | (with_reducible exact LeO.refl _)
   | (with_reducible exact LeO.none _)
   | (with_reducible refine LeO.ite ?_ ?_)
   | (with_reducible refine LeO.bind ?_ (fun _ => ?_))
   | exact ih0 _ _ _ _ _ _
   | exact spec_l14Queue.mono _ _ _ _
   | exact LeO.none _
   | refine LeO.ite ?_ ?_
   | refine LeO.bind ?_ (fun _ => ?_)
theorem spec_GoodTurns.mono : ∀ a0 a1 a2 k,LeO (spec_GoodTurns.f k a0 a1 a2) (spec_GoodTurns.f (k+1) a0 a1 a2):=by
 intro a0 a1 a2 k
 have ih0:=spec_GoodTurns.mono_l k
 unfold spec_GoodTurns.f
 repeat' first
  | (with_reducible exact ih0 _ _ _ _ _ _)
  | (with_reducible exact spec_l14Queue.mono _ _ _ _)
  | (with_reducible exact LeO.refl _)
  | (with_reducible exact LeO.none _)
  | (with_reducible refine LeO.ite ?_ ?_)
  | (with_reducible refine LeO.bind ?_ (fun _ => ?_))
  | exact ih0 _ _ _ _ _ _
  | exact spec_l14Queue.mono _ _ _ _
  | exact LeO.none _
  | refine LeO.ite ?_ ?_
  | refine LeO.bind ?_ (fun _ => ?_)
set_option maxHeartbeats 8000000 in
set_option maxRecDepth 100000 in
theorem spec_GoodTurns.calls (k:Nat) (a0_0:Int) (A0_1:Option Addr) (c0_1:Nat) (l0_1:List (S116)) (a0_2:Int) (r:Bool) (w:World) (hr0_1:Kd.C k116 w A0_1 l0_1.length l0_1) (hc0_1:l0_1.length≤c0_1) (h:spec_GoodTurns.f k a0_0 l0_1 a0_2=some r) :
  Calls Try.prog 74 #[.agg #[.int .i64 a0_0,.slice A0_1 l0_1.length c0_1,.int .i64 a0_2]] w fun e w'=>e=.returned (.bool r)∧Below w.heap.size w w':=by
 have hu28:=Try.underlying28
 have hu116:=Try.underlying116
 have HR0_1:=Aside0.mk hr0_1
 have HC0_1:=Aside0.mk hc0_1
 clear hr0_1 hc0_1
 have HB:=Aside0.mk (Below.refl w.heap.size w)
 have H:(spec_GoodTurns.l0 k l0_1 (l0_1.length:Int) 0 a0_0 l0_1 a0_2)=some r:=h
 clear h
 have H':=Aside0.mk H
 clear H
 go_enter Try.func74,Try.ntmps74
 go_wp2_with (first|((with_reducible refine gate_dst (N:=1) rfl ?_);(try (refine gate_guard (by rfl) ?_;dsimp only));refine box_event ?hg (N:=1) ?hd (cs:=#[.int .i64 a0_0,.slice A0_1 l0_1.length c0_1,.int .i64 a0_2]) (t:=28) ?hr ?_;(case hd=>rfl);(case hg=>rfl);(case hr=>first|(go_simp;done)|(go_simp;rfl));intro gb112 hg w2 hbox hb;have n0_:=Aside0.mk (below_step (bB) hb);have n1_:=Aside0.mk (hbox);have n2_:=Aside0.mk ((bG:w.heap.size≤gb112));have n3_:=Aside0.mk ((bG:w.heap.size≤gb112));clear HB;have HB:=n0_;have BK112:=n1_;have GW112:=n2_;have GE112:=n3_;clear n0_ n1_ n2_ n3_;clear hb hbox hg;obtain⟨hcz3_0,hcz3_1,hcz3_2⟩:=cC3 BK112.out;obtain⟨hfz3_0,hfz3_1,hfz3_2⟩:=cF3 BK112.out))
 go_loopg [8] k (fun kq v8 w' => ∃ (x8_1:Int),v8=.int .i64 x8_1∧Aside0 (spec_GoodTurns.l0 kq l0_1 (l0_1.length:Int) x8_1 a0_0 l0_1 a0_2=some r)∧Aside0 (kq≤k)∧Aside0 (w'.heap[gb112]?=some (.cells #[.int .i64 a0_0,(.slice A0_1 l0_1.length c0_1),.int .i64 a0_2] 28 (0,0)))∧Aside0 (Below w.heap.size w w'))
 case atStart=>exact⟨(0),(bR),H',⟨Nat.le_refl _⟩,⟨by(with_reducible repeat (first|refine blk_drewN ?_ _|refine blk_drew ?_|refine blk_alloc ?_ _));exact BK112.out⟩,⟨bS GE112.out⟩⟩
 case round =>
  clear H'
  try clear p2
  try clear hcz3_0 hcz3_1 hcz3_2
  try clear hfz3_0 hfz3_1 hfz3_2
  obtain⟨x8_1,rfl,HA,HK1,BK112,HB⟩:=hrel
  cases gk with
  | zero=>exact absurd HA.out (by simp[spec_GoodTurns.l0])
  | succ k1 =>
   have H:=HA.out
   clear HA
   simp only[spec_GoodTurns.l0] at H
   by_cases c4:x8_1 < (l0_1.length:Int)
   ·rw[if_pos c4] at H
    have c4b0:decide (x8_1 < (l0_1.length:Int))=true:=decide_eq_true c4
    clear c4
    by_cases c5:0≤x8_1
    ·rw[if_pos c5] at H
     have c5b0:decide (0≤x8_1)=true:=decide_eq_true c5
     clear c5
     by_cases c6:x8_1 < (l0_1.length:Int)
     ·rw[if_pos c6] at H
      have c6b0:decide (x8_1 < (l0_1.length:Int))=true:=decide_eq_true c6
      clear c6
      replace H:=Option.bind_eq_some_iff.mp H
      obtain⟨t115,A70,H⟩:=H
      replace H:(if t115=true then (spec_GoodTurns.l0 k1 l0_1 (l0_1.length:Int) (wrap64 (x8_1+1)) a0_0 l0_1 a0_2) else (some false))=some r:=H
      have A7:=Aside0.mk A70
      clear A70
      by_cases c8:t115=true
      ·subst c8
       have H1:(spec_GoodTurns.l0 k1 l0_1 (l0_1.length:Int) (wrap64 (x8_1+1)) a0_0 l0_1 a0_2)=some r:=by rw[if_pos rfl] at H;exact H
       clear H
       have H:=H1
       clear H1
       have H':=Aside0.mk H
       clear H
       have p113:0≤(x8_1:Int):=of_decide_eq_true (bD)
       have q113:x8_1 < (l0_1.length:Int):=of_decide_eq_true (bD)
       obtain⟨ad113,A113_0,c113_0,e113,hx113_0,hx113_1,hx113_2,hl113_0,hi113_0⟩:=at_T116 HR0_1.out x8_1 p113 q113
       cases e113
       replace hx113_0:=(HB.out.cell (World.block_lt_of_cell? w _ hx113_0)).trans hx113_0
       replace hx113_1:=(HB.out.cell (World.block_lt_of_cell? w _ hx113_1)).trans hx113_1
       replace hx113_2:=(HB.out.cell (World.block_lt_of_cell? w _ hx113_2)).trans hx113_2
       have HR113_0:=Aside0.mk hi113_0
       have HC113_0:=Aside0.mk hl113_0
       clear hi113_0 hl113_0
       replace p113:=eq_true p113
       replace q113:=eq_true q113
       go_wp2_with (first|((with_reducible refine gate_dst (N:=4) rfl ?_);(try (refine gate_guard (by rfl) ?_;dsimp only));refine box_event ?hg (N:=4) ?hd (cs:=#[.slice none 0 0,.int .i64 0,.int .i64 0]) (t:=116) ?hr ?_;(case hd=>rfl);(case hg=>rfl);(case hr=>first|(go_simp;done)|(go_simp;rfl));intro gb114 hg w9 hbox hb;have n0_:=Aside0.mk (bM BK112.out hb);have n1_:=Aside0.mk (below_step (bS GE112.out) hb);have n2_:=Aside0.mk (hbox);have n3_:=Aside0.mk ((by rw[hg];exact(below_size (bS GE112.out)):w.heap.size≤gb114));have n4_:=Aside0.mk ((by rw[hg];exact(below_size (bS GE112.out)):w.heap.size≤gb114));have n5_:=Aside0.mk ((bN BK112.out hg:gb112≠gb114));have n6_:=Aside0.mk ((bO BK112.out hg:gb114≠gb112));clear BK112 HB;have BK112:=n0_;have HB:=n1_;have BK114:=n2_;have GW114:=n3_;have GE114:=n4_;have NB112_114:=n5_;have NB114_112:=n6_;clear n0_ n1_ n2_ n3_ n4_ n5_ n6_;clear hb hbox hg;have hnb10:=NB114_112.out;have hnc10:=NB112_114.out;obtain⟨hcz11_0,hcz11_1,hcz11_2⟩:=cC3 BK114.out;obtain⟨hfz11_0,hfz11_1,hfz11_2⟩:=cF3 BK114.out)|((with_reducible refine gate_callee (f:=138) rfl ?_);refine goesA (some 13) rfl rfl Try.func138 #[.agg #[.slice A113_0 ((rd_T116 l0_1 x8_1).f0).length c113_0,.int .i64 ((rd_T116 l0_1 x8_1).f1),.int .i64 ((rd_T116 l0_1 x8_1).f2)]] rfl ?_;(with_reducible refine(spec_l14Queue.calls k1 _ _ ((rd_T116 l0_1 x8_1).f0) ((rd_T116 l0_1 x8_1).f1) ((rd_T116 l0_1 x8_1).f2) true _ ?side1 ?side2 A7.out).mono ?_);(case side1=>exact Kd.C_below HR113_0.out (bS2 GE112.out GE114.out));(case side2=>exact HC113_0.out);rintro e w12 ⟨rfl,hb⟩;refine⟨_,rfl,?_⟩;have n0_:=Aside0.mk (blk_below (g:=gb112) (o:=.cells #[.int .i64 a0_0,.slice (some ad113) l0_1.length c0_1,.int .i64 a0_2] 28 (0,0)) (by(with_reducible repeat (first|refine blk_drewN ?_ _|refine blk_drew ?_|refine blk_alloc ?_ _));refine blk_far ?_ NB112_114.out _;(with_reducible repeat (first|refine blk_drewN ?_ _|refine blk_drew ?_|refine blk_alloc ?_ _));refine blk_far ?_ NB112_114.out _;(with_reducible repeat (first|refine blk_drewN ?_ _|refine blk_drew ?_|refine blk_alloc ?_ _));refine blk_far ?_ NB112_114.out _;(with_reducible repeat (first|refine blk_drewN ?_ _|refine blk_drew ?_|refine blk_alloc ?_ _));exact BK112.out) hb);have n1_:=Aside0.mk (blk_below (g:=gb114) (o:=.cells #[.slice A113_0 ((rd_T116 l0_1 x8_1).f0).length c113_0,.int .i64 ((rd_T116 l0_1 x8_1).f1),.int .i64 ((rd_T116 l0_1 x8_1).f2)] 116 (0,0)) (by(with_reducible repeat (first|refine blk_drewN ?_ _|refine blk_drew ?_|refine blk_alloc ?_ _));refine blk_put (cs:=#[.slice A113_0 ((rd_T116 l0_1 x8_1).f0).length c113_0,.int .i64 ((rd_T116 l0_1 x8_1).f1),.int .i64 0]) ?_ 2 _ rfl;(with_reducible repeat (first|refine blk_drewN ?_ _|refine blk_drew ?_|refine blk_alloc ?_ _));refine blk_put (cs:=#[.slice A113_0 ((rd_T116 l0_1 x8_1).f0).length c113_0,.int .i64 0,.int .i64 0]) ?_ 1 _ rfl;(with_reducible repeat (first|refine blk_drewN ?_ _|refine blk_drew ?_|refine blk_alloc ?_ _));refine blk_put (cs:=#[.slice none 0 0,.int .i64 0,.int .i64 0]) ?_ 0 _ rfl;(with_reducible repeat (first|refine blk_drewN ?_ _|refine blk_drew ?_|refine blk_alloc ?_ _));exact BK114.out) hb);have n2_:=Aside0.mk (below_step (bS2 GE112.out GE114.out) hb);clear BK112 BK114 HB;have BK112:=n0_;have BK114:=n1_;have HB:=n2_;clear n0_ n1_ n2_;(try clear hb);(try clear hb2);(try clear hk);(try clear hi)))
       go_roundg k1
       case measure=>have:=HK1.out;omega
       case rel=>exact⟨(wrap64 (x8_1+1)),(bR),H',⟨by have:=HK1.out;omega⟩,⟨by(with_reducible repeat (first|refine blk_drewN ?_ _|refine blk_drew ?_|refine blk_alloc ?_ _));exact BK112.out⟩,⟨bS2 GE112.out GE114.out⟩⟩
      ·replace c8:=Bool.eq_false_iff.mpr c8
       subst c8
       have H1:(some false)=some r:=by rw[if_neg (show ¬ (false=true) by decide)] at H;exact H
       clear H
       have H:=H1
       clear H1
       obtain rfl:=Option.some.inj H
       have p113:0≤(x8_1:Int):=of_decide_eq_true (bD)
       have q113:x8_1 < (l0_1.length:Int):=of_decide_eq_true (bD)
       obtain⟨ad113,A113_0,c113_0,e113,hx113_0,hx113_1,hx113_2,hl113_0,hi113_0⟩:=at_T116 HR0_1.out x8_1 p113 q113
       cases e113
       replace hx113_0:=(HB.out.cell (World.block_lt_of_cell? w _ hx113_0)).trans hx113_0
       replace hx113_1:=(HB.out.cell (World.block_lt_of_cell? w _ hx113_1)).trans hx113_1
       replace hx113_2:=(HB.out.cell (World.block_lt_of_cell? w _ hx113_2)).trans hx113_2
       have HR113_0:=Aside0.mk hi113_0
       have HC113_0:=Aside0.mk hl113_0
       clear hi113_0 hl113_0
       replace p113:=eq_true p113
       replace q113:=eq_true q113
       go_wp2_with (first|((with_reducible refine gate_dst (N:=4) rfl ?_);(try (refine gate_guard (by rfl) ?_;dsimp only));refine box_event ?hg (N:=4) ?hd (cs:=#[.slice none 0 0,.int .i64 0,.int .i64 0]) (t:=116) ?hr ?_;(case hd=>rfl);(case hg=>rfl);(case hr=>first|(go_simp;done)|(go_simp;rfl));intro gb114 hg w13 hbox hb;have n0_:=Aside0.mk (bM BK112.out hb);have n1_:=Aside0.mk (below_step (bS GE112.out) hb);have n2_:=Aside0.mk (hbox);have n3_:=Aside0.mk ((by rw[hg];exact(below_size (bS GE112.out)):w.heap.size≤gb114));have n4_:=Aside0.mk ((by rw[hg];exact(below_size (bS GE112.out)):w.heap.size≤gb114));have n5_:=Aside0.mk ((bN BK112.out hg:gb112≠gb114));have n6_:=Aside0.mk ((bO BK112.out hg:gb114≠gb112));clear BK112 HB;have BK112:=n0_;have HB:=n1_;have BK114:=n2_;have GW114:=n3_;have GE114:=n4_;have NB112_114:=n5_;have NB114_112:=n6_;clear n0_ n1_ n2_ n3_ n4_ n5_ n6_;clear hb hbox hg;have hnb14:=NB114_112.out;have hnc14:=NB112_114.out;obtain⟨hcz15_0,hcz15_1,hcz15_2⟩:=cC3 BK114.out;obtain⟨hfz15_0,hfz15_1,hfz15_2⟩:=cF3 BK114.out)|((with_reducible refine gate_callee (f:=138) rfl ?_);refine goesA (some 13) rfl rfl Try.func138 #[.agg #[.slice A113_0 ((rd_T116 l0_1 x8_1).f0).length c113_0,.int .i64 ((rd_T116 l0_1 x8_1).f1),.int .i64 ((rd_T116 l0_1 x8_1).f2)]] rfl ?_;(with_reducible refine(spec_l14Queue.calls k1 _ _ ((rd_T116 l0_1 x8_1).f0) ((rd_T116 l0_1 x8_1).f1) ((rd_T116 l0_1 x8_1).f2) false _ ?side1 ?side2 A7.out).mono ?_);(case side1=>exact Kd.C_below HR113_0.out (bS2 GE112.out GE114.out));(case side2=>exact HC113_0.out);rintro e w16 ⟨rfl,hb⟩;refine⟨_,rfl,?_⟩;have n0_:=Aside0.mk (blk_below (g:=gb112) (o:=.cells #[.int .i64 a0_0,.slice (some ad113) l0_1.length c0_1,.int .i64 a0_2] 28 (0,0)) (by(with_reducible repeat (first|refine blk_drewN ?_ _|refine blk_drew ?_|refine blk_alloc ?_ _));refine blk_far ?_ NB112_114.out _;(with_reducible repeat (first|refine blk_drewN ?_ _|refine blk_drew ?_|refine blk_alloc ?_ _));refine blk_far ?_ NB112_114.out _;(with_reducible repeat (first|refine blk_drewN ?_ _|refine blk_drew ?_|refine blk_alloc ?_ _));refine blk_far ?_ NB112_114.out _;(with_reducible repeat (first|refine blk_drewN ?_ _|refine blk_drew ?_|refine blk_alloc ?_ _));exact BK112.out) hb);have n1_:=Aside0.mk (blk_below (g:=gb114) (o:=.cells #[.slice A113_0 ((rd_T116 l0_1 x8_1).f0).length c113_0,.int .i64 ((rd_T116 l0_1 x8_1).f1),.int .i64 ((rd_T116 l0_1 x8_1).f2)] 116 (0,0)) (by(with_reducible repeat (first|refine blk_drewN ?_ _|refine blk_drew ?_|refine blk_alloc ?_ _));refine blk_put (cs:=#[.slice A113_0 ((rd_T116 l0_1 x8_1).f0).length c113_0,.int .i64 ((rd_T116 l0_1 x8_1).f1),.int .i64 0]) ?_ 2 _ rfl;(with_reducible repeat (first|refine blk_drewN ?_ _|refine blk_drew ?_|refine blk_alloc ?_ _));refine blk_put (cs:=#[.slice A113_0 ((rd_T116 l0_1 x8_1).f0).length c113_0,.int .i64 0,.int .i64 0]) ?_ 1 _ rfl;(with_reducible repeat (first|refine blk_drewN ?_ _|refine blk_drew ?_|refine blk_alloc ?_ _));refine blk_put (cs:=#[.slice none 0 0,.int .i64 0,.int .i64 0]) ?_ 0 _ rfl;(with_reducible repeat (first|refine blk_drewN ?_ _|refine blk_drew ?_|refine blk_alloc ?_ _));exact BK114.out) hb);have n2_:=Aside0.mk (below_step (bS2 GE112.out GE114.out) hb);clear BK112 BK114 HB;have BK112:=n0_;have BK114:=n1_;have HB:=n2_;clear n0_ n1_ n2_;(try clear hb);(try clear hb2);(try clear hk);(try clear hi)))
       go_ret
       exact⟨bE,bS2 GE112.out GE114.out⟩
     ·rw[if_neg c6] at H
      exact absurd H (by simp)
    ·rw[if_neg c5] at H
     exact absurd H (by simp)
   ·rw[if_neg c4] at H
    have c4b0:decide (x8_1 < (l0_1.length:Int))=false:=decide_eq_false c4
    clear c4
    replace H:=Option.bind_eq_some_iff.mp H
    obtain⟨t116,A170,H⟩:=H
    replace H:(if t116=true then ((spec_l1In.f (l0_1.length:Int) 1 6).bind fun t117=>(if t117=true then ((spec_l1In.f a0_2 0 1000000).bind fun t118=>(some t118)) else (some false))) else (some false))=some r:=H
    have A17:=Aside0.mk A170
    clear A170
    by_cases c18:t116=true
    ·subst c18
     have H1:((spec_l1In.f (l0_1.length:Int) 1 6).bind fun t117=>(if t117=true then ((spec_l1In.f a0_2 0 1000000).bind fun t118=>(some t118)) else (some false)))=some r:=by rw[if_pos rfl] at H;exact H
     clear H
     have H:=H1
     clear H1
     replace H:=Option.bind_eq_some_iff.mp H
     obtain⟨t117,A190,H⟩:=H
     replace H:(if t117=true then ((spec_l1In.f a0_2 0 1000000).bind fun t118=>(some t118)) else (some false))=some r:=H
     have A19:=Aside0.mk A190
     clear A190
     by_cases c20:t117=true
     ·subst c20
      have H1:((spec_l1In.f a0_2 0 1000000).bind fun t118=>(some t118))=some r:=by rw[if_pos rfl] at H;exact H
      clear H
      have H:=H1
      clear H1
      replace H:=Option.bind_eq_some_iff.mp H
      obtain⟨t118,A210,H⟩:=H
      replace H:(some t118)=some r:=H
      have A21:=Aside0.mk A210
      clear A210
      obtain rfl:=Option.some.inj H
      obtain⟨hcz22_0,hcz22_1,hcz22_2⟩:=cC3 BK112.out
      obtain⟨hfz22_0,hfz22_1,hfz22_2⟩:=cF3 BK112.out
      go_wp2_with (first|((with_reducible refine gate_callee (f:=75) rfl ?_);refine goesA (some 18) rfl rfl Try.func75 #[.int .i64 a0_0,.int .i64 1,.int .i64 50] rfl ?_;(with_reducible refine(spec_l1In.calls a0_0 1 50 true _ A17.out).mono ?_);rintro e w' ⟨rfl,⟨nd,rfl⟩⟩;refine⟨_,rfl,?_⟩)|(go_at_call 75;(with_reducible refine(spec_l1In.calls (l0_1.length:Int) 1 6 true _ A19.out).mono ?_);rintro e w' ⟨rfl,⟨nd,rfl⟩⟩)|(go_at_call 75;(with_reducible refine(spec_l1In.calls a0_2 0 1000000 t118 _ A21.out).mono ?_);rintro e w' ⟨rfl,⟨nd,rfl⟩⟩))
      go_ret
      exact⟨bE,bS GE112.out⟩
     ·replace c20:=Bool.eq_false_iff.mpr c20
      subst c20
      have H1:(some false)=some r:=by rw[if_neg (show ¬ (false=true) by decide)] at H;exact H
      clear H
      have H:=H1
      clear H1
      obtain rfl:=Option.some.inj H
      obtain⟨hcz23_0,hcz23_1,hcz23_2⟩:=cC3 BK112.out
      obtain⟨hfz23_0,hfz23_1,hfz23_2⟩:=cF3 BK112.out
      go_wp2_with (first|((with_reducible refine gate_callee (f:=75) rfl ?_);refine goesA (some 18) rfl rfl Try.func75 #[.int .i64 a0_0,.int .i64 1,.int .i64 50] rfl ?_;(with_reducible refine(spec_l1In.calls a0_0 1 50 true _ A17.out).mono ?_);rintro e w' ⟨rfl,⟨nd,rfl⟩⟩;refine⟨_,rfl,?_⟩)|(go_at_call 75;(with_reducible refine(spec_l1In.calls (l0_1.length:Int) 1 6 false _ A19.out).mono ?_);rintro e w' ⟨rfl,⟨nd,rfl⟩⟩))
      go_ret
      exact⟨bE,bS GE112.out⟩
    ·replace c18:=Bool.eq_false_iff.mpr c18
     subst c18
     have H1:(some false)=some r:=by rw[if_neg (show ¬ (false=true) by decide)] at H;exact H
     clear H
     have H:=H1
     clear H1
     obtain rfl:=Option.some.inj H
     obtain⟨hcz24_0,hcz24_1,hcz24_2⟩:=cC3 BK112.out
     obtain⟨hfz24_0,hfz24_1,hfz24_2⟩:=cF3 BK112.out
     go_wp2_with (first|((with_reducible refine gate_callee (f:=75) rfl ?_);refine goesA (some 18) rfl rfl Try.func75 #[.int .i64 a0_0,.int .i64 1,.int .i64 50] rfl ?_;(with_reducible refine(spec_l1In.calls a0_0 1 50 false _ A17.out).mono ?_);rintro e w' ⟨rfl,⟨nd,rfl⟩⟩;refine⟨_,rfl,?_⟩))
     go_ret
     exact⟨bE,bS GE112.out⟩

/-! ### spec_l14Own: function 76 -/
def spec_l14Own.l0:Nat→List (S116)→List (S116)→Int→Int→Int→List (S116)→Int→Option (Int × (List (S116)) × Int)
 | 0,_,_,_,_,_,_,_=>none
 | k+1,x3,x7,x8,x9,x120000,x120001,x120002=>if x9 < x8 then (if 0≤x9 then (if x9 < (x7.length:Int) then ((some (([]:List Int):List Int)).bind fun y123=>(if y123.length+((rd_T116 x7 x9).f0).length < 17592186044416 then (if x3.length < 3518437208883 then (spec_l14Own.l0 k (x3++[(⟨(y123++((rd_T116 x7 x9).f0)),(rd_T116 x7 x9).f1,(rd_T116 x7 x9).f2⟩:S116)]) x7 x8 (wrap64 (x9+1)) x120000 x120001 x120002) else (none)) else (none))) else (none)) else (none)) else (some (x120000,x3,x120002))
def spec_l14Own.f (k:Nat) (a0_0:Int) (l0_1:List (S116)) (a0_2:Int):Option (Int × (List (S116)) × Int):=spec_l14Own.l0 k ([]:List (S116)) l0_1 (l0_1.length:Int) 0 a0_0 l0_1 a0_2
theorem spec_l14Own.mono_l : ∀ k,(∀ y0 y1 y2 y3 y4 y5 y6,LeO (spec_l14Own.l0 k y0 y1 y2 y3 y4 y5 y6) (spec_l14Own.l0 (k+1) y0 y1 y2 y3 y4 y5 y6))
 | 0=>fun _ _ _ _ _ _ _ r h=>by simp[spec_l14Own.l0] at h
 | k+1=>by
  have ih0:=spec_l14Own.mono_l k
  ·intro y0 y1 y2 y3 y4 y5 y6
   unfold spec_l14Own.l0
   repeat' first
   | (with_reducible exact ih0 _ _ _ _ _ _ _)
   | (with_reducible exact LeO.refl _)
   | (with_reducible exact LeO.none _)
   | (with_reducible refine LeO.ite ?_ ?_)
   | (with_reducible refine LeO.bind ?_ (fun _ => ?_))
   | exact ih0 _ _ _ _ _ _ _
   | exact LeO.none _
   | refine LeO.ite ?_ ?_
   | refine LeO.bind ?_ (fun _ => ?_)
theorem spec_l14Own.mono : ∀ a0 a1 a2 k,LeO (spec_l14Own.f k a0 a1 a2) (spec_l14Own.f (k+1) a0 a1 a2):=by
 intro a0 a1 a2 k
 have ih0:=spec_l14Own.mono_l k
 unfold spec_l14Own.f
 repeat' first
  | (with_reducible exact ih0 _ _ _ _ _ _ _)
  | (with_reducible exact LeO.refl _)
  | (with_reducible exact LeO.none _)
  | (with_reducible refine LeO.ite ?_ ?_)
  | (with_reducible refine LeO.bind ?_ (fun _ => ?_))
  | exact ih0 _ _ _ _ _ _ _
  | exact LeO.none _
  | refine LeO.ite ?_ ?_
  | refine LeO.bind ?_ (fun _ => ?_)
set_option maxHeartbeats 8000000 in
set_option maxRecDepth 100000 in
theorem spec_l14Own.calls (k:Nat) (a0_0:Int) (A0_1:Option Addr) (c0_1:Nat) (l0_1:List (S116)) (a0_2:Int) (r1:Int) (r2:List (S116)) (r3:Int) (w:World) (hr0_1:Kd.C k116 w A0_1 l0_1.length l0_1) (hc0_1:l0_1.length≤c0_1) (h:spec_l14Own.f k a0_0 l0_1 a0_2=some (r1,r2,r3)) :
  Calls Try.prog 76 #[.agg #[.int .i64 a0_0,.slice A0_1 l0_1.length c0_1,.int .i64 a0_2]] w fun e w' => ∃ v1_:Value,e=.returned (.agg #[.int .i64 r1,v1_,.int .i64 r3])∧Kd.S k116 116 w' w.heap.size (fun _=>True) v1_ r2∧Below w.heap.size w w':=by
 have hu28:=Try.underlying28
 have hu116:=Try.underlying116
 have HR0_1:=Aside0.mk hr0_1
 have HC0_1:=Aside0.mk hc0_1
 clear hr0_1 hc0_1
 have HB:=Aside0.mk (Below.refl w.heap.size w)
 have H:(spec_l14Own.l0 k ([]:List (S116)) l0_1 (l0_1.length:Int) 0 a0_0 l0_1 a0_2)=some (r1,r2,r3):=h
 clear h
 have H':=Aside0.mk H
 clear H
 go_enter Try.func76,Try.ntmps76
 go_wp2_with (first|((with_reducible refine gate_dst (N:=1) rfl ?_);refine box_event ?hg (N:=1) ?hd (cs:=#[.int .i64 a0_0,.slice A0_1 l0_1.length c0_1,.int .i64 a0_2]) (t:=28) ?hr ?_;(case hd=>rfl);(case hg=>rfl);(case hr=>first|(go_simp;done)|(go_simp;rfl));intro gb119 hg w2 hbox hb;have n0_:=Aside0.mk (below_step (bB) hb);have n1_:=Aside0.mk (hbox);have n2_:=Aside0.mk ((bG:w.heap.size≤gb119));have n3_:=Aside0.mk ((bG:w.heap.size≤gb119));clear HB;have HB:=n0_;have BK119:=n1_;have GW119:=n2_;have GE119:=n3_;clear n0_ n1_ n2_ n3_;clear hb hbox hg)|((with_reducible refine gate_dst (N:=2) rfl ?_);refine box_event ?hg (N:=2) ?hd (cs:=#[.int .i64 0,.slice none 0 0,.int .i64 0]) (t:=28) ?hr ?_;(case hd=>rfl);(case hg=>rfl);(case hr=>first|(go_simp;done)|(go_simp;rfl));intro gb120 hg w3 hbox hb;have n0_:=Aside0.mk (bM BK119.out hb);have n1_:=Aside0.mk (below_step (bS GE119.out) hb);have n2_:=Aside0.mk (hbox);have n3_:=Aside0.mk ((by rw[hg];exact(below_size (bS GE119.out)):w.heap.size≤gb120));have n4_:=Aside0.mk ((by rw[hg];exact(below_size (bS GE119.out)):w.heap.size≤gb120));have n5_:=Aside0.mk ((bN BK119.out hg:gb119≠gb120));have n6_:=Aside0.mk ((bO BK119.out hg:gb120≠gb119));clear BK119 HB;have BK119:=n0_;have HB:=n1_;have BK120:=n2_;have GW120:=n3_;have GE120:=n4_;have NB119_120:=n5_;have NB120_119:=n6_;clear n0_ n1_ n2_ n3_ n4_ n5_ n6_;clear hb hbox hg;have hnb4:=NB119_120.out;have hnc4:=NB120_119.out;obtain⟨hcz5_0,hcz5_1,hcz5_2⟩:=cC3 BK119.out;obtain⟨hfz5_0,hfz5_1,hfz5_2⟩:=cF3 BK119.out))
 go_loopg [3,9] k (fun kq v3 v9 w' => ∃ (x3_1:List (S116)) (x9_1:Int),v9=.int .i64 x9_1∧Aside0 (spec_l14Own.l0 kq x3_1 l0_1 (l0_1.length:Int) x9_1 a0_0 l0_1 a0_2=some (r1,r2,r3))∧Aside0 (kq≤k)∧Aside0 (Kd.S k116 116 w' w.heap.size (fun _=>True) v3 x3_1)∧Aside0 (w'.heap[gb119]?=some (.cells #[.int .i64 a0_0,(.slice A0_1 l0_1.length c0_1),.int .i64 a0_2] 28 (0,0)))∧Aside0 (w'.heap[gb120]?=some (.cells #[.int .i64 0,(.slice none 0 0),.int .i64 0] 28 (0,0)))∧Aside0 (Below w.heap.size w w'))
 case atStart=>exact⟨(([]:List (S116))),(0),(bR),H',⟨Nat.le_refl _⟩,⟨by first|exact Kd.S_nil _ _ _ _ _|exact Kd.N_nil _ _ _ _ _|exact Kd.V_nil _ _ _ _ _|exact Kd.Q_nil _ _ _ _ _|exact Kd.R_nil _ _ _ _ _⟩,⟨by(with_reducible repeat (first|refine blk_drewN ?_ _|refine blk_drew ?_|refine blk_alloc ?_ _));exact BK119.out⟩,⟨by(with_reducible repeat (first|refine blk_drewN ?_ _|refine blk_drew ?_|refine blk_alloc ?_ _));exact BK120.out⟩,⟨bS2 GE119.out GE120.out⟩⟩
 case round =>
  clear H'
  try clear p2
  try clear c4
  try clear hcz5_0 hcz5_1 hcz5_2
  try clear hfz5_0 hfz5_1 hfz5_2
  obtain⟨x3_1,x9_1,rfl,HA,HK1,HO_3,BK119,BK120,HB⟩:=hrel
  cases gk with
  | zero=>exact absurd HA.out (by simp[spec_l14Own.l0])
  | succ k1 =>
   have H:=HA.out
   clear HA
   simp only[spec_l14Own.l0] at H
   by_cases c6:x9_1 < (l0_1.length:Int)
   ·rw[if_pos c6] at H
    have c6b0:decide (x9_1 < (l0_1.length:Int))=true:=decide_eq_true c6
    clear c6
    by_cases c7:0≤x9_1
    ·rw[if_pos c7] at H
     have c7b0:decide (0≤x9_1)=true:=decide_eq_true c7
     clear c7
     by_cases c8:x9_1 < (l0_1.length:Int)
     ·rw[if_pos c8] at H
      have c8b0:decide (x9_1 < (l0_1.length:Int))=true:=decide_eq_true c8
      clear c8
      obtain⟨y123,hy123⟩ : ∃ y_:List Int,y_=(([]:List Int)):=⟨_,rfl⟩
      replace H:(if y123.length+((rd_T116 l0_1 x9_1).f0).length < 17592186044416 then (if x3_1.length < 3518437208883 then (spec_l14Own.l0 k1 (x3_1++[(⟨(y123++((rd_T116 l0_1 x9_1).f0)),(rd_T116 l0_1 x9_1).f1,(rd_T116 l0_1 x9_1).f2⟩:S116)]) l0_1 (l0_1.length:Int) (wrap64 (x9_1+1)) a0_0 l0_1 a0_2) else (none)) else (none))=some (r1,r2,r3):=by first|(rw[hy123];with_reducible exact H)|(have H2_:=(Option.bind_some _ _).symm.trans H;rw[hy123];with_reducible exact H2_)|(have H2_:=(Option.bind_some _ _).symm.trans H;with_reducible exact H2_)|with_reducible exact H|(rw[hy123];exact H)|exact H
      have Ny123:=Aside0.mk hy123
      clear hy123
      by_cases c9:y123.length+((rd_T116 l0_1 x9_1).f0).length < 17592186044416
      ·rw[if_pos c9] at H
       have LMc9:=Aside0.mk c9
       clear c9
       obtain⟨y126,hy126⟩ : ∃ y_:List Int,y_=(y123++((rd_T116 l0_1 x9_1).f0)):=⟨_,rfl⟩
       replace H:(if x3_1.length < 3518437208883 then (spec_l14Own.l0 k1 (x3_1++[(⟨y126,(rd_T116 l0_1 x9_1).f1,(rd_T116 l0_1 x9_1).f2⟩:S116)]) l0_1 (l0_1.length:Int) (wrap64 (x9_1+1)) a0_0 l0_1 a0_2) else (none))=some (r1,r2,r3):=by first|(rw[hy126];with_reducible exact H)|(have H2_:=(Option.bind_some _ _).symm.trans H;rw[hy126];with_reducible exact H2_)|(have H2_:=(Option.bind_some _ _).symm.trans H;with_reducible exact H2_)|with_reducible exact H|(rw[hy126];exact H)|exact H
       have Ny126:=Aside0.mk hy126
       clear hy126
       by_cases c10:x3_1.length < 3518437208883
       ·rw[if_pos c10] at H
        have LMc10:=Aside0.mk c10
        clear c10
        obtain⟨y129,hy129⟩ : ∃ y_:List (S116),y_=(x3_1++[(⟨y126,(rd_T116 l0_1 x9_1).f1,(rd_T116 l0_1 x9_1).f2⟩:S116)]):=⟨_,rfl⟩
        replace H:(spec_l14Own.l0 k1 y129 l0_1 (l0_1.length:Int) (wrap64 (x9_1+1)) a0_0 l0_1 a0_2)=some (r1,r2,r3):=by first|(rw[hy129];with_reducible exact H)|(have H2_:=(Option.bind_some _ _).symm.trans H;rw[hy129];with_reducible exact H2_)|(have H2_:=(Option.bind_some _ _).symm.trans H;with_reducible exact H2_)|with_reducible exact H|(rw[hy129];exact H)|exact H
        have Ny129:=Aside0.mk hy129
        clear hy129
        have H':=Aside0.mk H
        clear H
        have p121:0≤(x9_1:Int):=of_decide_eq_true (bD)
        have q121:x9_1 < (l0_1.length:Int):=of_decide_eq_true (bD)
        obtain⟨ad121,A121_0,c121_0,e121,hx121_0,hx121_1,hx121_2,hl121_0,hi121_0⟩:=at_T116 HR0_1.out x9_1 p121 q121
        cases e121
        replace hx121_0:=(HB.out.cell (World.block_lt_of_cell? w _ hx121_0)).trans hx121_0
        replace hx121_1:=(HB.out.cell (World.block_lt_of_cell? w _ hx121_1)).trans hx121_1
        replace hx121_2:=(HB.out.cell (World.block_lt_of_cell? w _ hx121_2)).trans hx121_2
        have HR121_0:=Aside0.mk hi121_0
        have HC121_0:=Aside0.mk hl121_0
        clear hi121_0 hl121_0
        replace p121:=eq_true p121
        replace q121:=eq_true q121
        go_wp2_with (first|((with_reducible refine gate_dst (N:=5) rfl ?_);refine box_event ?hg (N:=5) ?hd (cs:=#[.slice none 0 0,.int .i64 0,.int .i64 0]) (t:=116) ?hr ?_;(case hd=>rfl);(case hg=>rfl);(case hr=>first|(go_simp;done)|(go_simp;rfl));intro gb122 hg w11 hbox hb;have n0_:=Aside0.mk (Kd.S_below (Kd.S_elderB (by(with_reducible repeat (first|apply Kd.S_alloc|apply Kd.S_drewN|apply Kd.S_drew));exact HO_3.out) gb122 (Nat.le_of_eq hg.symm)) hb);have n1_:=Aside0.mk (bM BK119.out hb);have n2_:=Aside0.mk (bM BK120.out hb);have n3_:=Aside0.mk (below_step (bS2 GE119.out GE120.out) hb);have n4_:=Aside0.mk (hbox);have n5_:=Aside0.mk ((by rw[hg];exact(below_size (bS2 GE119.out GE120.out)):w.heap.size≤gb122));have n6_:=Aside0.mk ((by rw[hg];exact(below_size (bS2 GE119.out GE120.out)):w.heap.size≤gb122));have n7_:=Aside0.mk ((bN BK119.out hg:gb119≠gb122));have n8_:=Aside0.mk ((bO BK119.out hg:gb122≠gb119));have n9_:=Aside0.mk ((bN BK120.out hg:gb120≠gb122));have n10_:=Aside0.mk ((bO BK120.out hg:gb122≠gb120));clear HO_3 BK119 BK120 HB;have HO_3:=n0_;have BK119:=n1_;have BK120:=n2_;have HB:=n3_;have BK122:=n4_;have GW122:=n5_;have GE122:=n6_;have NB119_122:=n7_;have NB122_119:=n8_;have NB120_122:=n9_;have NB122_120:=n10_;clear n0_ n1_ n2_ n3_ n4_ n5_ n6_ n7_ n8_ n9_ n10_;clear hb hbox hg;have hnb12:=NB122_119.out;have hnc12:=NB119_122.out;have hnb13:=NB122_120.out;have hnc13:=NB120_122.out;obtain⟨hcz14_0,hcz14_1,hcz14_2⟩:=cC3 BK122.out;obtain⟨hfz14_0,hfz14_1,hfz14_2⟩:=cF3 BK122.out)|((with_reducible refine gate_dst (N:=13) rfl ?_);refine Kd.R_lit (Kd.int .i64) _ 3 ?hg (N:=13) ?hd (xs:=([]:List Int)) (inner:=[]) (ok:=fun _=>True) (okp:=fun _=>True) ?hr ?hp (fun _ hk=>hk) trivial (Below.refl _ _) (Nat.le_refl _) (by simp) ?_;(case hd=>rfl);(case hg=>rfl);(case hr=>first|(go_simp;done)|(go_simp;rfl));(case hp=>exact(Reps.none _ _));intro v124 w15 ho16 hb hg_ hnew_;clear hg_ hnew_;(first|rw[← Ny123.out] at ho16|(simp only[Int.reduceToNat] at ho16;rw[← Ny123.out] at ho16));have n0_:=Aside0.mk (Kd.S_elder' (by(with_reducible repeat (first|apply Kd.S_alloc|apply Kd.S_drewN|apply Kd.S_drew));exact(Kd.S_mono (Kd.S_far (p:=⟨gb122,2,none⟩) (Kd.S_far (p:=⟨gb122,1,none⟩) (Kd.S_far (p:=⟨gb122,0,none⟩) (Kd.S_mono HO_3.out (fun k_ hk=>(⟨hk,hk.2⟩:_∧k_≠gb122))) (fun _ hk=>hk.2) (.slice A121_0 ((rd_T116 l0_1 x9_1).f0).length c121_0)) (fun _ hk=>hk.2) (.int .i64 ((rd_T116 l0_1 x9_1).f1))) (fun _ hk=>hk.2) (.int .i64 ((rd_T116 l0_1 x9_1).f2))) (fun _ h_=>h_.1))) (Kd.R_base ho16) hb);have n1_:=Aside0.mk (Kd.R_lower ho16 (below_size (bS3 GE119.out GE120.out GE122.out)));have n2_:=Aside0.mk (blk_below (g:=gb119) (o:=.cells #[.int .i64 a0_0,.slice (some ad121) l0_1.length c0_1,.int .i64 a0_2] 28 (0,0)) (by(with_reducible repeat (first|refine blk_drewN ?_ _|refine blk_drew ?_|refine blk_alloc ?_ _));refine blk_far ?_ NB119_122.out _;(with_reducible repeat (first|refine blk_drewN ?_ _|refine blk_drew ?_|refine blk_alloc ?_ _));refine blk_far ?_ NB119_122.out _;(with_reducible repeat (first|refine blk_drewN ?_ _|refine blk_drew ?_|refine blk_alloc ?_ _));refine blk_far ?_ NB119_122.out _;(with_reducible repeat (first|refine blk_drewN ?_ _|refine blk_drew ?_|refine blk_alloc ?_ _));exact BK119.out) hb);have n3_:=Aside0.mk (blk_below (g:=gb120) (o:=.cells #[.int .i64 0,.slice none 0 0,.int .i64 0] 28 (0,0)) (by(with_reducible repeat (first|refine blk_drewN ?_ _|refine blk_drew ?_|refine blk_alloc ?_ _));refine blk_far ?_ NB120_122.out _;(with_reducible repeat (first|refine blk_drewN ?_ _|refine blk_drew ?_|refine blk_alloc ?_ _));refine blk_far ?_ NB120_122.out _;(with_reducible repeat (first|refine blk_drewN ?_ _|refine blk_drew ?_|refine blk_alloc ?_ _));refine blk_far ?_ NB120_122.out _;(with_reducible repeat (first|refine blk_drewN ?_ _|refine blk_drew ?_|refine blk_alloc ?_ _));exact BK120.out) hb);have n4_:=Aside0.mk (blk_below (g:=gb122) (o:=.cells #[.slice A121_0 ((rd_T116 l0_1 x9_1).f0).length c121_0,.int .i64 ((rd_T116 l0_1 x9_1).f1),.int .i64 ((rd_T116 l0_1 x9_1).f2)] 116 (0,0)) (by(with_reducible repeat (first|refine blk_drewN ?_ _|refine blk_drew ?_|refine blk_alloc ?_ _));refine blk_put (cs:=#[.slice A121_0 ((rd_T116 l0_1 x9_1).f0).length c121_0,.int .i64 ((rd_T116 l0_1 x9_1).f1),.int .i64 0]) ?_ 2 _ rfl;(with_reducible repeat (first|refine blk_drewN ?_ _|refine blk_drew ?_|refine blk_alloc ?_ _));refine blk_put (cs:=#[.slice A121_0 ((rd_T116 l0_1 x9_1).f0).length c121_0,.int .i64 0,.int .i64 0]) ?_ 1 _ rfl;(with_reducible repeat (first|refine blk_drewN ?_ _|refine blk_drew ?_|refine blk_alloc ?_ _));refine blk_put (cs:=#[.slice none 0 0,.int .i64 0,.int .i64 0]) ?_ 0 _ rfl;(with_reducible repeat (first|refine blk_drewN ?_ _|refine blk_drew ?_|refine blk_alloc ?_ _));exact BK122.out) hb);have n5_:=Aside0.mk (below_step (bS3 GE119.out GE120.out GE122.out) hb);clear HO_3 BK119 BK120 BK122 HB;have HO_3:=n0_;have HO125:=n1_;have BK119:=n2_;have BK120:=n3_;have BK122:=n4_;have HB:=n5_;clear n0_ n1_ n2_ n3_ n4_ n5_;clear hb ho16;obtain⟨hcz17_0,hcz17_1,hcz17_2⟩:=cC3 BK122.out;obtain⟨hfz17_0,hfz17_1,hfz17_2⟩:=cF3 BK122.out)|((with_reducible refine gate_builtin (b:=.append) (xs:=#[.tmp 13,.tmp 15]) rfl ?_);at_builtin;refine Kd.R_append_rows (Kd.int .i64) (w0:=w) w.heap.size rfl (.tmp 13) (.tmp 15) 37 3 (.int .i64 0) 8 rfl Try.underlying37 info3 rfl (by decide) (by omega) v124 y123 ((rd_T116 l0_1 x9_1).f0) _ _ _ (fun _=>True) (fun _=>False) rfl rfl ?aO ?aR (fun _ _ h=>h) (fun _ h=>h.elim) ?aF ?aB ?aS ?aL ?_;(case aR=>exact bC HR121_0.out);(case aB=>exact(bS3 GE119.out GE120.out GE122.out));(case aF=>exact(fun _ _=>trivial));(case aO=>exact(bK HO125.out));(case aS=>exact(below_size (bS3 GE119.out GE120.out GE122.out)));(case aL=>have:=LMc9.out;omega);intro v127 w18 ho hb hg hat;rw[← Ny126.out] at ho;have n0_:=Aside0.mk (Kd.S_after (ok:=(fun k_=>k_≠gb122)) (by(with_reducible repeat (first|apply Kd.S_alloc|apply Kd.S_drewN|apply Kd.S_drew));exact Kd.S_mono HO_3.out (fun _ hk=>⟨hk.1.2,hk.2⟩)) hg hat);have n1_:=Aside0.mk (blk_grown (g:=gb119) (o:=.cells #[.int .i64 a0_0,.slice (some ad121) l0_1.length c0_1,.int .i64 a0_2] 28 (0,0)) (bL BK119.out) hg (Kd.R_ne HO125.out BK119.out (by decide)));have n2_:=Aside0.mk (blk_grown (g:=gb120) (o:=.cells #[.int .i64 0,.slice none 0 0,.int .i64 0] 28 (0,0)) (bL BK120.out) hg (Kd.R_ne HO125.out BK120.out (by decide)));have n3_:=Aside0.mk (blk_grown (g:=gb122) (o:=.cells #[.slice A121_0 ((rd_T116 l0_1 x9_1).f0).length c121_0,.int .i64 ((rd_T116 l0_1 x9_1).f1),.int .i64 ((rd_T116 l0_1 x9_1).f2)] 116 (0,0)) (bL BK122.out) hg (Kd.R_ne HO125.out BK122.out (by decide)));have n4_:=Aside0.mk (hb);have n5_:=Aside0.mk (ho);clear HO_3 BK119 BK120 BK122 HB HO125;have HO_3:=n0_;have BK119:=n1_;have BK120:=n2_;have BK122:=n3_;have HB:=n4_;have HO128:=n5_;clear n0_ n1_ n2_ n3_ n4_ n5_;clear ho hb hg hat;obtain⟨Ao19,co19,eo19⟩:=Kd.R_slice HO128.out;subst eo19;obtain⟨hcz20_0,hcz20_1,hcz20_2⟩:=cC3 BK122.out;obtain⟨hfz20_0,hfz20_1,hfz20_2⟩:=cF3 BK122.out)|((with_reducible refine gate_store (t:=37) (p:=17) rfl ?_);refine store_event (t:=37) (p:=17) (v:=?vo_w21) (w1:=(w18.setCell ⟨gb122,0,none⟩ (.slice Ao19 y126.length co19))) ?hg ?ho ?hn ?hr ?_;(case ho=>rfl);(case hg=>rfl);(case hn=>rfl);(case hr=>first|(go_simp;done)|(go_simp;rfl));intro w21 hw;have n0_:Aside0 (Kd.S k116 116 w21 w.heap.size (fun k_=>some k_≠(.slice Ao19 y126.length co19:Value).ownBlock∧k_≠gb122) u3 x3_1):=⟨(by rw[hw];exact(by(with_reducible repeat (first|apply Kd.S_alloc|apply Kd.S_drewN|apply Kd.S_drew));exact Kd.S_mono (Kd.S_far (p:=⟨gb122,0,none⟩) (Kd.S_mono HO_3.out (fun k_ hk=>(⟨hk,hk.1⟩:_∧k_≠gb122))) (fun _ hk=>hk.2) (.slice Ao19 y126.length co19)) (fun _ hk=>⟨hk.1.2,hk.1.1⟩)))⟩;have n1_:Aside0 (Kd.R (Kd.int .i64) 3 w21 w.heap.size (fun _=>True) (.slice Ao19 y126.length co19) y126):=⟨(by rw[hw];exact(by(with_reducible repeat (first|apply Kd.R_alloc|apply Kd.R_drewN|apply Kd.R_drew));exact Kd.R_mono (Kd.R_far (p:=⟨gb122,0,none⟩) (Kd.R_types HO128.out BK122.out (by decide)) (fun _ hk=>hk.2) (.slice Ao19 y126.length co19)) (fun _ hk=>trivial)))⟩;have n2_:Aside0 (w21.heap[gb119]?=some (.cells #[.int .i64 a0_0,.slice (some ad121) l0_1.length c0_1,.int .i64 a0_2] 28 (0,0))):=⟨(by rw[hw];exact(by(with_reducible repeat (first|refine blk_drewN ?_ _|refine blk_drew ?_|refine blk_alloc ?_ _));refine blk_far ?_ NB119_122.out _;(with_reducible repeat (first|refine blk_drewN ?_ _|refine blk_drew ?_|refine blk_alloc ?_ _));exact BK119.out))⟩;have n3_:Aside0 (w21.heap[gb120]?=some (.cells #[.int .i64 0,.slice none 0 0,.int .i64 0] 28 (0,0))):=⟨(by rw[hw];exact(by(with_reducible repeat (first|refine blk_drewN ?_ _|refine blk_drew ?_|refine blk_alloc ?_ _));refine blk_far ?_ NB120_122.out _;(with_reducible repeat (first|refine blk_drewN ?_ _|refine blk_drew ?_|refine blk_alloc ?_ _));exact BK120.out))⟩;have n4_:Aside0 (w21.heap[gb122]?=some (.cells #[.slice Ao19 y126.length co19,.int .i64 ((rd_T116 l0_1 x9_1).f1),.int .i64 ((rd_T116 l0_1 x9_1).f2)] 116 (0,0))):=⟨(by rw[hw];exact(by(with_reducible repeat (first|refine blk_drewN ?_ _|refine blk_drew ?_|refine blk_alloc ?_ _));refine blk_put (cs:=#[.slice A121_0 ((rd_T116 l0_1 x9_1).f0).length c121_0,.int .i64 ((rd_T116 l0_1 x9_1).f1),.int .i64 ((rd_T116 l0_1 x9_1).f2)]) ?_ 0 _ rfl;(with_reducible repeat (first|refine blk_drewN ?_ _|refine blk_drew ?_|refine blk_alloc ?_ _));exact BK122.out))⟩;have n5_:Aside0 (Below w.heap.size w w21):=⟨(by rw[hw];exact(bS3 GE119.out GE120.out GE122.out))⟩;clear hw HO_3 HO128 BK119 BK120 BK122 HB;have HO_3:=n0_;have HO128:=n1_;have BK119:=n2_;have BK120:=n3_;have BK122:=n4_;have HB:=n5_;clear n0_ n1_ n2_ n3_ n4_ n5_;obtain⟨hcz22_0,hcz22_1,hcz22_2⟩:=cC3 BK122.out;obtain⟨hfz22_0,hfz22_1,hfz22_2⟩:=cF3 BK122.out)|((with_reducible refine gate_builtin (b:=.append) (xs:=#[.tmp 18,.tmp 20]) rfl ?_);at_builtin;refine Kd.S_append k116 (w0:=w) w.heap.size rfl (.tmp 18) (.tmp 20) 26 116 (.agg #[(.slice none 0 0),(.int .i64 0),(.int .i64 0)]) 40 rfl Try.underlying26 info116 rfl (by decide) (by omega) u3 x3_1 (⟨y126,(rd_T116 l0_1 x9_1).f1,(rd_T116 l0_1 x9_1).f2⟩:S116) [.slice Ao19 y126.length co19,.int .i64 ((rd_T116 l0_1 x9_1).f1),.int .i64 ((rd_T116 l0_1 x9_1).f2)] (fun k_=>k_≠gb122) (fun k_=>some k_=(.slice Ao19 y126.length co19:Value).ownBlock) rfl rfl ?aP (fun k_ hk_=>((Kd.R_mono (ok':=fun k_=>((fun k_=>k_≠gb122)) k_∧some k_≠(u3:Value).ownBlock) (Kd.R_types (Kd.R_apart' (HO128.out) (Kd.S_typed HO_3.out) (by decide)) BK122.out (by decide)) (fun k_ hk=>⟨hk.2,hk.1.2⟩))).1 k_ hk_.symm) ?aF ?aO ?aB ?aS ?aL ?_;(case aP=>exact k116_mkM _ _ _ (⟨y126,(rd_T116 l0_1 x9_1).f1,(rd_T116 l0_1 x9_1).f2⟩:S116) (Kd.R_mono (Kd.R_tight rfl (Kd.R_mono (ok':=fun k_=>((fun k_=>k_≠gb122)) k_∧some k_≠(u3:Value).ownBlock) (Kd.R_types (Kd.R_apart' (HO128.out) (Kd.S_typed HO_3.out) (by decide)) BK122.out (by decide)) (fun k_ hk=>⟨hk.2,hk.1.2⟩))) (fun _ h_=>h_)));(case aB=>exact(bS3 GE119.out GE120.out GE122.out));(case aF=>exact(fun k_ hk=>Kd.freshB (g:=gb122) (o:=.cells #[.slice Ao19 y126.length co19,.int .i64 ((rd_T116 l0_1 x9_1).f1),.int .i64 ((rd_T116 l0_1 x9_1).f2)] 116 (0,0)) (bL BK122.out) k_ hk));(case aO=>exact(by(with_reducible repeat (first|apply Kd.S_alloc|apply Kd.S_drewN|apply Kd.S_drew));exact Kd.S_mono HO_3.out (fun k_ hk=>⟨hk.2,fun e_=>hk.1 e_⟩)));(case aS=>exact(below_size (bS3 GE119.out GE120.out GE122.out)));(case aL=>have:=LMc10.out;omega);intro v130 w23 ho hb hg hat;rw[← Ny129.out] at ho;have n0_:=Aside0.mk (blk_grown (g:=gb119) (o:=.cells #[.int .i64 a0_0,.slice (some ad121) l0_1.length c0_1,.int .i64 a0_2] 28 (0,0)) (bL BK119.out) hg (Kd.S_ne HO_3.out BK119.out (by decide)));have n1_:=Aside0.mk (blk_grown (g:=gb120) (o:=.cells #[.int .i64 0,.slice none 0 0,.int .i64 0] 28 (0,0)) (bL BK120.out) hg (Kd.S_ne HO_3.out BK120.out (by decide)));have n2_:=Aside0.mk (blk_grown (g:=gb122) (o:=.cells #[.slice Ao19 y126.length co19,.int .i64 ((rd_T116 l0_1 x9_1).f1),.int .i64 ((rd_T116 l0_1 x9_1).f2)] 116 (0,0)) (bL BK122.out) hg (Kd.S_away HO_3.out (fun _ hk=>hk.2)));have n3_:=Aside0.mk (hb);have n4_:=Aside0.mk (ho);clear BK119 BK120 BK122 HB HO_3 HO128;have BK119:=n0_;have BK120:=n1_;have BK122:=n2_;have HB:=n3_;have HO131:=n4_;clear n0_ n1_ n2_ n3_ n4_;clear ho hb hg hat))
        go_roundg k1
        case measure=>have:=HK1.out;omega
        case rel=>exact⟨(y129),(wrap64 (x9_1+1)),(bR),H',⟨by have:=HK1.out;omega⟩,⟨by(with_reducible repeat (first|apply Kd.S_alloc|apply Kd.S_drewN|apply Kd.S_drew));exact Kd.S_mono HO131.out (fun _ hk=>trivial)⟩,⟨by(with_reducible repeat (first|refine blk_drewN ?_ _|refine blk_drew ?_|refine blk_alloc ?_ _));exact BK119.out⟩,⟨by(with_reducible repeat (first|refine blk_drewN ?_ _|refine blk_drew ?_|refine blk_alloc ?_ _));exact BK120.out⟩,⟨bS3 GE119.out GE120.out GE122.out⟩⟩
       ·rw[if_neg c10] at H
        exact absurd H (by simp)
      ·rw[if_neg c9] at H
       exact absurd H (by simp)
     ·rw[if_neg c8] at H
      exact absurd H (by simp)
    ·rw[if_neg c7] at H
     exact absurd H (by simp)
   ·rw[if_neg c6] at H
    have c6b0:decide (x9_1 < (l0_1.length:Int))=false:=decide_eq_false c6
    clear c6
    simp only[Option.some.injEq,Prod.mk.injEq] at H
    obtain⟨rfl,rfl,rfl⟩:=H
    obtain⟨Ao24,co24,eo24⟩:=Kd.S_slice HO_3.out
    subst eo24
    have hnb25:=NB119_120.out
    have hnc25:=NB120_119.out
    obtain⟨hcz26_0,hcz26_1,hcz26_2⟩:=cC3 BK119.out
    obtain⟨hfz26_0,hfz26_1,hfz26_2⟩:=cF3 BK119.out
    obtain⟨hcz27_0,hcz27_1,hcz27_2⟩:=cC3 BK120.out
    obtain⟨hfz27_0,hfz27_1,hfz27_2⟩:=cF3 BK120.out
    go_wp2
    refine bodyPost_ret (results_cell_row rfl _ _ gb120 28 #[.int .i64 a0_0,.slice Ao24 x3_1.length co24,.int .i64 a0_2] (0,0) _ rfl (by(with_reducible repeat (first|refine blk_drewN ?_ _|refine blk_drew ?_|refine blk_alloc ?_ _));refine blk_put (cs:=#[.int .i64 a0_0,.slice Ao24 x3_1.length co24,.int .i64 0]) ?_ 2 _ rfl;(with_reducible repeat (first|refine blk_drewN ?_ _|refine blk_drew ?_|refine blk_alloc ?_ _));refine blk_put (cs:=#[.int .i64 a0_0,.slice none 0 0,.int .i64 0]) ?_ 1 _ rfl;(with_reducible repeat (first|refine blk_drewN ?_ _|refine blk_drew ?_|refine blk_alloc ?_ _));refine blk_put (cs:=#[.int .i64 0,.slice none 0 0,.int .i64 0]) ?_ 0 _ rfl;(with_reducible repeat (first|refine blk_drewN ?_ _|refine blk_drew ?_|refine blk_alloc ?_ _));refine blk_far ?_ NB120_119.out _;(with_reducible repeat (first|refine blk_drewN ?_ _|refine blk_drew ?_|refine blk_alloc ?_ _));exact BK120.out) Try.underlying28 rfl (by kernel_rfl)) rfl ?_
    exact⟨_,by first|rfl|(simp[errW_none,errW_some]<;>rfl)|(simp[*,errW_none,errW_some]<;>rfl),by(with_reducible repeat (first|apply Kd.S_alloc|apply Kd.S_drewN|apply Kd.S_drew));exact Kd.S_mono (Kd.S_far (p:=⟨gb120,2,none⟩) (Kd.S_far (p:=⟨gb120,1,none⟩) (Kd.S_far (p:=⟨gb120,0,none⟩) (Kd.S_far (p:=⟨gb119,1,none⟩) (Kd.S_types (Kd.S_types HO_3.out BK119.out (by decide)) BK120.out (by decide)) (fun _ hk=>hk.1.2) (.slice Ao24 x3_1.length co24)) (fun _ hk=>hk.2) (.int .i64 a0_0)) (fun _ hk=>hk.2) (.slice Ao24 x3_1.length co24)) (fun _ hk=>hk.2) (.int .i64 a0_2)) (fun _ hk=>trivial),bS2 GE119.out GE120.out⟩

end Go.Proofs.Yteneeohaoplpbaa.XFnExactPutLong
