-- Written by this session's own program (wip/xprint.py) out of the translation; Lean checks it.
import Derived.Test.YthghcoepkknkeaaXFnFairx0
import Derived.Test.YthghcoepkknkeaaXFnFairx2
namespace Go.Proofs.Ythghcoepkknkeaa.XFnFair
open Go.RowKit Go.Proofs.YthghcoepkknkeaaW.PrintWords Go.Proofs.YthghcoepkknkeaaW.PrintLast Go.Proofs.YthghcoepkknkeaaW.PrintMore
open Go.Proofs.YthghcoepkknkeaaW.PrintWords.Aside0 renaming mk → am
attribute [local go_sem] max2_int min2_int max_two min_two max_three min_three max_four min_four   -- for this text's walks alone
set_option linter.unusedVariables false
set_option linter.unusedSimpArgs false

/-! ### spec_l14Queue: function 26 -/
def spec_l14Queue.l0:Nat→List Int→Int→Int→List Int→Int→Int→Option (Bool)
 | 0,_,_,_,_,_,_=>none
 | k+1,x6,x7,x8,x113000,x113001,x113002=>if x8 < x7 then (if 0≤x8 then (if x8 < (x6.length:Int) then ((spec_l1In.f (rd x6 x8) 1 50).bind fun t114=>(if t114=true then (spec_l14Queue.l0 k x6 x7 (wrap64 (x8+1)) x113000 x113001 x113002) else (some false))) else (none)) else (none)) else (if (x113000.length:Int)≤40 then ((spec_l1In.f x113001 0 100).bind fun t115=>(if t115=true then ((spec_l1In.f x113002 0 1000000).bind fun t116=>(if t116=true then (if (x113000.length:Int) > 0 then (some true) else (some (x113001 == 0))) else (some false))) else (some false))) else (some false))
def spec_l14Queue.f (k:Nat) (l0_0:List Int) (a0_1:Int) (a0_2:Int):Option (Bool):=spec_l14Queue.l0 k l0_0 (l0_0.length:Int) 0 l0_0 a0_1 a0_2
theorem spec_l14Queue.mono_l : ∀ k,(∀ y0 y1 y2 y3 y4 y5,LeO (spec_l14Queue.l0 k y0 y1 y2 y3 y4 y5) (spec_l14Queue.l0 (k+1) y0 y1 y2 y3 y4 y5))
 | 0=>fun _ _ _ _ _ _ r h=>by simp[spec_l14Queue.l0] at h
 | k+1=>by
  have ih0:=spec_l14Queue.mono_l k
  ·intro y0 y1 y2 y3 y4 y5
   unfold spec_l14Queue.l0
   repeat' first
   | (with_reducible exact ih0 _ _ _ _ _ _)
   | (with_reducible exact LeO.refl _)
   | (with_reducible exact LeO.none _)
   | (with_reducible refine LeO.ite ?_ ?_)
   | (with_reducible refine LeO.bind ?_ (fun _ => ?_))
theorem spec_l14Queue.mono : ∀ a0 a1 a2 k,LeO (spec_l14Queue.f k a0 a1 a2) (spec_l14Queue.f (k+1) a0 a1 a2):=by
 intro a0 a1 a2 k
 have ih0:=spec_l14Queue.mono_l k
 unfold spec_l14Queue.f
 repeat' first
  | (with_reducible exact ih0 _ _ _ _ _ _)
  | (with_reducible exact LeO.refl _)
  | (with_reducible exact LeO.none _)
  | (with_reducible refine LeO.ite ?_ ?_)
  | (with_reducible refine LeO.bind ?_ (fun _ => ?_))
set_option maxHeartbeats 8000000 in
set_option maxRecDepth 100000 in
theorem spec_l14Queue.calls (k:Nat) (A0_0:Option Addr) (c0_0:Nat) (l0_0:List Int) (a0_1:Int) (a0_2:Int) (r:Bool) (w:World) (hr0_0:Kd.C (Kd.int .i64) w A0_0 l0_0.length l0_0) (hc0_0:l0_0.length≤c0_0) (h:spec_l14Queue.f k l0_0 a0_1 a0_2=some r) :
  Calls Try.prog 26 #[.agg #[.slice A0_0 l0_0.length c0_0,.int .i64 a0_1,.int .i64 a0_2]] w fun e w'=>e=.returned (.bool r)∧Below w.heap.size w w':=by
 have hu34:=Try.underlying34
 have HR0_0:=am hr0_0
 have HC0_0:=am hc0_0
 clear hr0_0 hc0_0
 have HB:=am (Below.refl w.heap.size w)
 have H:(spec_l14Queue.l0 k l0_0 (l0_0.length:Int) 0 l0_0 a0_1 a0_2)=some r:=h
 clear h
 have H':=am H
 clear H
 go_enter Try.func26,Try.ntmps26
 go_wp2_with (first|((with_reducible refine gate_dst (N:=1) rfl ?_);(try (refine gate_guard (by rfl) ?_;dsimp only));refine box_event ?hg (N:=1) ?hd (cs:=#[.slice A0_0 l0_0.length c0_0,.int .i64 a0_1,.int .i64 a0_2]) (t:=34) ?hr ?_;(case hd=>rfl);(case hg=>rfl);(case hr=>first|(go_simp;done)|(go_simp;rfl));intro gb112 hg w2 hbox hb;have n0_:=am (below_step (bB) hb);have n1_:=am (hbox);have n2_:=am ((bG:w.heap.size≤gb112));have n3_:=am ((bG:w.heap.size≤gb112));clear HB;have HB:=n0_;have BK112:=n1_;have GW112:=n2_;have GE112:=n3_;clear n0_ n1_ n2_ n3_;clear hb hbox hg;obtain⟨hcz3_0,hcz3_1,hcz3_2⟩:=cC3 BK112.out;obtain⟨hfz3_0,hfz3_1,hfz3_2⟩:=cF3 BK112.out))
 go_loopg [8] k (fun kq v8 w' => ∃ (x8_1:Int),v8=.int .i64 x8_1∧Aside0 (spec_l14Queue.l0 kq l0_0 (l0_0.length:Int) x8_1 l0_0 a0_1 a0_2=some r)∧Aside0 (kq≤k)∧Aside0 (w'.heap[gb112]?=some (.cells #[(.slice A0_0 l0_0.length c0_0),.int .i64 a0_1,.int .i64 a0_2] 34 (0,0)))∧Aside0 (Below w.heap.size w w'))
 case atStart=>exact⟨(0),(bR),H',⟨Nat.le_refl _⟩,⟨by(with_reducible repeat (first|refine blk_drewN ?_ _|refine blk_drew ?_|refine blk_alloc ?_ _));exact BK112.out⟩,⟨bS GE112.out⟩⟩
 case round =>
  clear H'
  try clear c2
  try clear p2
  try clear hcz3_0 hcz3_1 hcz3_2
  try clear hfz3_0 hfz3_1 hfz3_2
  obtain⟨x8_1,rfl,HA,HK1,BK112,HB⟩:=hrel
  cases gk with
  | zero=>exact absurd HA.out (by simp[spec_l14Queue.l0])
  | succ k1 =>
   have H:=HA.out
   clear HA
   simp only[spec_l14Queue.l0] at H
   by_cases c4:x8_1 < (l0_0.length:Int)
   ·rw[if_pos c4] at H
    have c4b0:decide (x8_1 < (l0_0.length:Int))=true:=decide_eq_true c4
    clear c4
    by_cases c5:0≤x8_1
    ·rw[if_pos c5] at H
     have c5b0:decide (0≤x8_1)=true:=decide_eq_true c5
     clear c5
     by_cases c6:x8_1 < (l0_0.length:Int)
     ·rw[if_pos c6] at H
      have c6b0:decide (x8_1 < (l0_0.length:Int))=true:=decide_eq_true c6
      clear c6
      replace H:=bI_ H
      obtain⟨t114,A70,H⟩:=H
      have A7:=am A70
      clear A70
      by_cases c8:t114=true
      ·subst c8
       have H1:(spec_l14Queue.l0 k1 l0_0 (l0_0.length:Int) (wrap64 (x8_1+1)) l0_0 a0_1 a0_2)=some r:=by rw[if_pos rfl] at H;exact H
       clear H
       have H:=H1
       clear H1
       have H':=am H
       clear H
       have p113:0≤(x8_1:Int):=bD_
       have q113:x8_1 < (l0_0.length:Int):=bD_
       obtain⟨ad113,e113,hx113_0⟩:=Kd.at_int HR0_0.out x8_1 p113 q113
       cases e113
       replace hx113_0:=bQ_ HB.out hx113_0
       replace p113:=eq_true p113
       replace q113:=eq_true q113
       go_wp2_with (first|((with_reducible refine gate_callee (f:=27) rfl ?_);refine goesA (some 13) rfl rfl Try.func27 #[.int .i64 (rd l0_0 x8_1),.int .i64 1,.int .i64 50] rfl ?_;(with_reducible refine(spec_l1In.calls (rd l0_0 x8_1) 1 50 true _ A7.out).mono ?_);rintro e w' ⟨rfl,⟨nd,rfl⟩⟩;refine⟨_,rfl,?_⟩))
       go_roundg k1
       case measure=>have:=HK1.out;omega
       case rel=>exact⟨(wrap64 (x8_1+1)),(bR),H',⟨by have:=HK1.out;omega⟩,⟨by(with_reducible repeat (first|refine blk_drewN ?_ _|refine blk_drew ?_|refine blk_alloc ?_ _));exact BK112.out⟩,⟨bS GE112.out⟩⟩
      ·replace c8:=Bool.eq_false_iff.mpr c8
       subst c8
       have H1:(some false)=some r:=by rw[if_neg (show ¬ (false=true) by decide)] at H;exact H
       clear H
       have H:=H1
       clear H1
       obtain rfl:=Option.some.inj H
       have p113:0≤(x8_1:Int):=bD_
       have q113:x8_1 < (l0_0.length:Int):=bD_
       obtain⟨ad113,e113,hx113_0⟩:=Kd.at_int HR0_0.out x8_1 p113 q113
       cases e113
       replace hx113_0:=bQ_ HB.out hx113_0
       replace p113:=eq_true p113
       replace q113:=eq_true q113
       go_wp2_with (first|((with_reducible refine gate_callee (f:=27) rfl ?_);refine goesA (some 13) rfl rfl Try.func27 #[.int .i64 (rd l0_0 x8_1),.int .i64 1,.int .i64 50] rfl ?_;(with_reducible refine(spec_l1In.calls (rd l0_0 x8_1) 1 50 false _ A7.out).mono ?_);rintro e w' ⟨rfl,⟨nd,rfl⟩⟩;refine⟨_,rfl,?_⟩))
       go_ret
       exact⟨bE,bS GE112.out⟩
     ·rw[if_neg c6] at H
      exact absurd H (by simp)
    ·rw[if_neg c5] at H
     exact absurd H (by simp)
   ·rw[if_neg c4] at H
    have c4b0:decide (x8_1 < (l0_0.length:Int))=false:=decide_eq_false c4
    clear c4
    by_cases c9:(l0_0.length:Int)≤40
    ·rw[if_pos c9] at H
     have c9b0:decide ((l0_0.length:Int)≤40)=true:=decide_eq_true c9
     have c9b1:decide (l0_0.length≤40)=true:=decide_eq_true (by omega)
     clear c9
     replace H:=bI_ H
     obtain⟨t115,A100,H⟩:=H
     have A10:=am A100
     clear A100
     by_cases c11:t115=true
     ·subst c11
      have H1:((spec_l1In.f a0_2 0 1000000).bind fun t116=>(if t116=true then (if (l0_0.length:Int) > 0 then (some true) else (some (a0_1 == 0))) else (some false)))=some r:=by rw[if_pos rfl] at H;exact H
      clear H
      have H:=H1
      clear H1
      replace H:=bI_ H
      obtain⟨t116,A120,H⟩:=H
      have A12:=am A120
      clear A120
      by_cases c13:t116=true
      ·subst c13
       have H1:(if (l0_0.length:Int) > 0 then (some true) else (some (a0_1 == 0)))=some r:=by rw[if_pos rfl] at H;exact H
       clear H
       have H:=H1
       clear H1
       by_cases c14:(l0_0.length:Int) > 0
       ·rw[if_pos c14] at H
        have c14b0:decide (0 < (l0_0.length:Int))=true:=decide_eq_true c14
        have c14b1:decide (0 < l0_0.length)=true:=decide_eq_true (by omega)
        clear c14
        obtain rfl:=Option.some.inj H
        obtain⟨hcz15_0,hcz15_1,hcz15_2⟩:=cC3 BK112.out
        obtain⟨hfz15_0,hfz15_1,hfz15_2⟩:=cF3 BK112.out
        go_wp2_with (first|(go_at_call 27;(with_reducible refine(spec_l1In.calls a0_1 0 100 true _ A10.out).mono ?_);rintro e w' ⟨rfl,⟨nd,rfl⟩⟩)|(go_at_call 27;(with_reducible refine(spec_l1In.calls a0_2 0 1000000 true _ A12.out).mono ?_);rintro e w' ⟨rfl,⟨nd,rfl⟩⟩))
        go_ret
        exact⟨bE,bS GE112.out⟩
       ·rw[if_neg c14] at H
        have c14b0:decide (0 < (l0_0.length:Int))=false:=decide_eq_false c14
        have c14b1:decide (0 < l0_0.length)=false:=decide_eq_false (by omega)
        clear c14
        obtain rfl:=Option.some.inj H
        obtain⟨hcz16_0,hcz16_1,hcz16_2⟩:=cC3 BK112.out
        obtain⟨hfz16_0,hfz16_1,hfz16_2⟩:=cF3 BK112.out
        go_wp2_with (first|(go_at_call 27;(with_reducible refine(spec_l1In.calls a0_1 0 100 true _ A10.out).mono ?_);rintro e w' ⟨rfl,⟨nd,rfl⟩⟩)|(go_at_call 27;(with_reducible refine(spec_l1In.calls a0_2 0 1000000 true _ A12.out).mono ?_);rintro e w' ⟨rfl,⟨nd,rfl⟩⟩))
        go_ret
        exact⟨bE,bS GE112.out⟩
      ·replace c13:=Bool.eq_false_iff.mpr c13
       subst c13
       have H1:(some false)=some r:=by rw[if_neg (show ¬ (false=true) by decide)] at H;exact H
       clear H
       have H:=H1
       clear H1
       obtain rfl:=Option.some.inj H
       obtain⟨hcz17_0,hcz17_1,hcz17_2⟩:=cC3 BK112.out
       obtain⟨hfz17_0,hfz17_1,hfz17_2⟩:=cF3 BK112.out
       go_wp2_with (first|(go_at_call 27;(with_reducible refine(spec_l1In.calls a0_1 0 100 true _ A10.out).mono ?_);rintro e w' ⟨rfl,⟨nd,rfl⟩⟩)|(go_at_call 27;(with_reducible refine(spec_l1In.calls a0_2 0 1000000 false _ A12.out).mono ?_);rintro e w' ⟨rfl,⟨nd,rfl⟩⟩))
       go_ret
       exact⟨bE,bS GE112.out⟩
     ·replace c11:=Bool.eq_false_iff.mpr c11
      subst c11
      have H1:(some false)=some r:=by rw[if_neg (show ¬ (false=true) by decide)] at H;exact H
      clear H
      have H:=H1
      clear H1
      obtain rfl:=Option.some.inj H
      obtain⟨hcz18_0,hcz18_1,hcz18_2⟩:=cC3 BK112.out
      obtain⟨hfz18_0,hfz18_1,hfz18_2⟩:=cF3 BK112.out
      go_wp2_with (first|(go_at_call 27;(with_reducible refine(spec_l1In.calls a0_1 0 100 false _ A10.out).mono ?_);rintro e w' ⟨rfl,⟨nd,rfl⟩⟩))
      go_ret
      exact⟨bE,bS GE112.out⟩
    ·rw[if_neg c9] at H
     have c9b0:decide ((l0_0.length:Int)≤40)=false:=decide_eq_false c9
     have c9b1:decide (l0_0.length≤40)=false:=decide_eq_false (by omega)
     clear c9
     obtain rfl:=Option.some.inj H
     obtain⟨hcz19_0,hcz19_1,hcz19_2⟩:=cC3 BK112.out
     obtain⟨hfz19_0,hfz19_1,hfz19_2⟩:=cF3 BK112.out
     go_wp2
     go_ret
     exact⟨bE,bS GE112.out⟩

/-! ### spec_GoodTurns: function 11 -/
def spec_GoodTurns.l0:Nat→List (S34)→Int→Int→Int→List (S34)→Int→Option (Bool)
 | 0,_,_,_,_,_,_=>none
 | k+1,x6,x7,x8,x118000,x118001,x118002=>if x8 < x7 then (if 0≤x8 then (if x8 < (x6.length:Int) then ((spec_l14Queue.f k ((rd_T34 x6 x8).f0) ((rd_T34 x6 x8).f1) ((rd_T34 x6 x8).f2)).bind fun t120=>(if t120=true then (spec_GoodTurns.l0 k x6 x7 (wrap64 (x8+1)) x118000 x118001 x118002) else (some false))) else (none)) else (none)) else ((spec_l1In.f x118000 1 50).bind fun t121=>(if t121=true then ((spec_l1In.f (x118001.length:Int) 1 6).bind fun t122=>(if t122=true then ((spec_l1In.f x118002 0 1000000).bind fun t123=>(some t123)) else (some false))) else (some false)))
def spec_GoodTurns.f (k:Nat) (a0_0:Int) (l0_1:List (S34)) (a0_2:Int):Option (Bool):=spec_GoodTurns.l0 k l0_1 (l0_1.length:Int) 0 a0_0 l0_1 a0_2
theorem spec_GoodTurns.mono_l : ∀ k,(∀ y0 y1 y2 y3 y4 y5,LeO (spec_GoodTurns.l0 k y0 y1 y2 y3 y4 y5) (spec_GoodTurns.l0 (k+1) y0 y1 y2 y3 y4 y5))
 | 0=>fun _ _ _ _ _ _ r h=>by simp[spec_GoodTurns.l0] at h
 | k+1=>by
  have ih0:=spec_GoodTurns.mono_l k
  ·intro y0 y1 y2 y3 y4 y5
   unfold spec_GoodTurns.l0
   repeat' first
   | (with_reducible exact ih0 _ _ _ _ _ _)
   | (with_reducible exact spec_l14Queue.mono _ _ _ _)
   | (with_reducible exact LeO.refl _)
   | (with_reducible exact LeO.none _)
   | (with_reducible refine LeO.ite ?_ ?_)
   | (with_reducible refine LeO.bind ?_ (fun _ => ?_))
theorem spec_GoodTurns.mono : ∀ a0 a1 a2 k,LeO (spec_GoodTurns.f k a0 a1 a2) (spec_GoodTurns.f (k+1) a0 a1 a2):=by
 intro a0 a1 a2 k
 have ih0:=spec_GoodTurns.mono_l k
 unfold spec_GoodTurns.f
 repeat' first
  | (with_reducible exact ih0 _ _ _ _ _ _)
  | (with_reducible exact spec_l14Queue.mono _ _ _ _)
  | (with_reducible exact LeO.refl _)
  | (with_reducible exact LeO.none _)
  | (with_reducible refine LeO.ite ?_ ?_)
  | (with_reducible refine LeO.bind ?_ (fun _ => ?_))
set_option maxHeartbeats 8000000 in
set_option maxRecDepth 100000 in
theorem spec_GoodTurns.calls (k:Nat) (a0_0:Int) (A0_1:Option Addr) (c0_1:Nat) (l0_1:List (S34)) (a0_2:Int) (r:Bool) (w:World) (hr0_1:Kd.C k34 w A0_1 l0_1.length l0_1) (hc0_1:l0_1.length≤c0_1) (h:spec_GoodTurns.f k a0_0 l0_1 a0_2=some r) :
  Calls Try.prog 11 #[.agg #[.int .i64 a0_0,.slice A0_1 l0_1.length c0_1,.int .i64 a0_2]] w fun e w'=>e=.returned (.bool r)∧Below w.heap.size w w':=by
 have hu25:=Try.underlying25
 have hu34:=Try.underlying34
 have HR0_1:=am hr0_1
 have HC0_1:=am hc0_1
 clear hr0_1 hc0_1
 have HB:=am (Below.refl w.heap.size w)
 have H:(spec_GoodTurns.l0 k l0_1 (l0_1.length:Int) 0 a0_0 l0_1 a0_2)=some r:=h
 clear h
 have H':=am H
 clear H
 go_enter Try.func11,Try.ntmps11
 go_wp2_with (first|((with_reducible refine gate_dst (N:=1) rfl ?_);(try (refine gate_guard (by rfl) ?_;dsimp only));refine box_event ?hg (N:=1) ?hd (cs:=#[.int .i64 a0_0,.slice A0_1 l0_1.length c0_1,.int .i64 a0_2]) (t:=25) ?hr ?_;(case hd=>rfl);(case hg=>rfl);(case hr=>first|(go_simp;done)|(go_simp;rfl));intro gb117 hg w2 hbox hb;have n0_:=am (below_step (bB) hb);have n1_:=am (hbox);have n2_:=am ((bG:w.heap.size≤gb117));have n3_:=am ((bG:w.heap.size≤gb117));clear HB;have HB:=n0_;have BK117:=n1_;have GW117:=n2_;have GE117:=n3_;clear n0_ n1_ n2_ n3_;clear hb hbox hg;obtain⟨hcz3_0,hcz3_1,hcz3_2⟩:=cC3 BK117.out;obtain⟨hfz3_0,hfz3_1,hfz3_2⟩:=cF3 BK117.out))
 go_loopg [8] k (fun kq v8 w' => ∃ (x8_1:Int),v8=.int .i64 x8_1∧Aside0 (spec_GoodTurns.l0 kq l0_1 (l0_1.length:Int) x8_1 a0_0 l0_1 a0_2=some r)∧Aside0 (kq≤k)∧Aside0 (w'.heap[gb117]?=some (.cells #[.int .i64 a0_0,(.slice A0_1 l0_1.length c0_1),.int .i64 a0_2] 25 (0,0)))∧Aside0 (Below w.heap.size w w'))
 case atStart=>exact⟨(0),(bR),H',⟨Nat.le_refl _⟩,⟨by(with_reducible repeat (first|refine blk_drewN ?_ _|refine blk_drew ?_|refine blk_alloc ?_ _));exact BK117.out⟩,⟨bS GE117.out⟩⟩
 case round =>
  clear H'
  try clear c1
  try clear p2
  try clear hcz3_0 hcz3_1 hcz3_2
  try clear hfz3_0 hfz3_1 hfz3_2
  obtain⟨x8_1,rfl,HA,HK1,BK117,HB⟩:=hrel
  cases gk with
  | zero=>exact absurd HA.out (by simp[spec_GoodTurns.l0])
  | succ k1 =>
   have H:=HA.out
   clear HA
   simp only[spec_GoodTurns.l0] at H
   by_cases c4:x8_1 < (l0_1.length:Int)
   ·rw[if_pos c4] at H
    have c4b0:decide (x8_1 < (l0_1.length:Int))=true:=decide_eq_true c4
    clear c4
    by_cases c5:0≤x8_1
    ·rw[if_pos c5] at H
     have c5b0:decide (0≤x8_1)=true:=decide_eq_true c5
     clear c5
     by_cases c6:x8_1 < (l0_1.length:Int)
     ·rw[if_pos c6] at H
      have c6b0:decide (x8_1 < (l0_1.length:Int))=true:=decide_eq_true c6
      clear c6
      replace H:=bI_ H
      obtain⟨t120,A70,H⟩:=H
      have A7:=am A70
      clear A70
      by_cases c8:t120=true
      ·subst c8
       have H1:(spec_GoodTurns.l0 k1 l0_1 (l0_1.length:Int) (wrap64 (x8_1+1)) a0_0 l0_1 a0_2)=some r:=by rw[if_pos rfl] at H;exact H
       clear H
       have H:=H1
       clear H1
       have H':=am H
       clear H
       have p118:0≤(x8_1:Int):=bD_
       have q118:x8_1 < (l0_1.length:Int):=bD_
       obtain⟨ad118,A118_0,c118_0,e118,hx118_0,hx118_1,hx118_2,hl118_0,hi118_0⟩:=at_T34 HR0_1.out x8_1 p118 q118
       cases e118
       replace hx118_0:=bQ_ HB.out hx118_0
       replace hx118_1:=bQ_ HB.out hx118_1
       replace hx118_2:=bQ_ HB.out hx118_2
       have HR118_0:=am hi118_0
       have HC118_0:=am hl118_0
       clear hi118_0 hl118_0
       replace p118:=eq_true p118
       replace q118:=eq_true q118
       go_wp2_with (first|((with_reducible refine gate_dst (N:=4) rfl ?_);(try (refine gate_guard (by rfl) ?_;dsimp only));refine box_event ?hg (N:=4) ?hd (cs:=#[.slice none 0 0,.int .i64 0,.int .i64 0]) (t:=34) ?hr ?_;(case hd=>rfl);(case hg=>rfl);(case hr=>first|(go_simp;done)|(go_simp;rfl));intro gb119 hg w9 hbox hb;have n0_:=am (bM BK117.out hb);have n1_:=am (below_step (bS GE117.out) hb);have n2_:=am (hbox);have n3_:=am ((by rw[hg];exact(below_size (bS GE117.out)):w.heap.size≤gb119));have n4_:=am ((by rw[hg];exact(below_size (bS GE117.out)):w.heap.size≤gb119));have n5_:=am ((bN BK117.out hg:gb117≠gb119));have n6_:=am ((bO BK117.out hg:gb119≠gb117));clear BK117 HB;have BK117:=n0_;have HB:=n1_;have BK119:=n2_;have GW119:=n3_;have GE119:=n4_;have NB117_119:=n5_;have NB119_117:=n6_;clear n0_ n1_ n2_ n3_ n4_ n5_ n6_;clear hb hbox hg;have hnb10:=NB119_117.out;have hnc10:=NB117_119.out;obtain⟨hcz11_0,hcz11_1,hcz11_2⟩:=cC3 BK119.out;obtain⟨hfz11_0,hfz11_1,hfz11_2⟩:=cF3 BK119.out)|((with_reducible refine gate_callee (f:=26) rfl ?_);refine goesA (some 13) rfl rfl Try.func26 #[.agg #[.slice A118_0 ((rd_T34 l0_1 x8_1).f0).length c118_0,.int .i64 ((rd_T34 l0_1 x8_1).f1),.int .i64 ((rd_T34 l0_1 x8_1).f2)]] rfl ?_;(with_reducible refine(spec_l14Queue.calls k1 _ _ ((rd_T34 l0_1 x8_1).f0) ((rd_T34 l0_1 x8_1).f1) ((rd_T34 l0_1 x8_1).f2) true _ ?side1 ?side2 A7.out).mono ?_);(case side1=>exact Kd.C_below HR118_0.out (bS2 GE117.out GE119.out));(case side2=>exact HC118_0.out);rintro e w12 ⟨rfl,hb⟩;refine⟨_,rfl,?_⟩;have n0_:=am (blk_below (g:=gb117) (o:=.cells #[.int .i64 a0_0,.slice (some ad118) l0_1.length c0_1,.int .i64 a0_2] 25 (0,0)) (by(with_reducible repeat (first|refine blk_drewN ?_ _|refine blk_drew ?_|refine blk_alloc ?_ _));refine blk_far ?_ NB117_119.out _;(with_reducible repeat (first|refine blk_drewN ?_ _|refine blk_drew ?_|refine blk_alloc ?_ _));refine blk_far ?_ NB117_119.out _;(with_reducible repeat (first|refine blk_drewN ?_ _|refine blk_drew ?_|refine blk_alloc ?_ _));refine blk_far ?_ NB117_119.out _;(with_reducible repeat (first|refine blk_drewN ?_ _|refine blk_drew ?_|refine blk_alloc ?_ _));exact BK117.out) hb);have n1_:=am (blk_below (g:=gb119) (o:=.cells #[.slice A118_0 ((rd_T34 l0_1 x8_1).f0).length c118_0,.int .i64 ((rd_T34 l0_1 x8_1).f1),.int .i64 ((rd_T34 l0_1 x8_1).f2)] 34 (0,0)) (by(with_reducible repeat (first|refine blk_drewN ?_ _|refine blk_drew ?_|refine blk_alloc ?_ _));apply bU3;(with_reducible repeat (first|refine blk_drewN ?_ _|refine blk_drew ?_|refine blk_alloc ?_ _));exact BK119.out) hb);have n2_:=am (below_step (bS2 GE117.out GE119.out) hb);clear BK117 BK119 HB;have BK117:=n0_;have BK119:=n1_;have HB:=n2_;clear n0_ n1_ n2_;(try clear hb);(try clear hb2);(try clear hk);(try clear hi)))
       go_roundg k1
       case measure=>have:=HK1.out;omega
       case rel=>exact⟨(wrap64 (x8_1+1)),(bR),H',⟨by have:=HK1.out;omega⟩,⟨by(with_reducible repeat (first|refine blk_drewN ?_ _|refine blk_drew ?_|refine blk_alloc ?_ _));exact BK117.out⟩,⟨bS2 GE117.out GE119.out⟩⟩
      ·replace c8:=Bool.eq_false_iff.mpr c8
       subst c8
       have H1:(some false)=some r:=by rw[if_neg (show ¬ (false=true) by decide)] at H;exact H
       clear H
       have H:=H1
       clear H1
       obtain rfl:=Option.some.inj H
       have p118:0≤(x8_1:Int):=bD_
       have q118:x8_1 < (l0_1.length:Int):=bD_
       obtain⟨ad118,A118_0,c118_0,e118,hx118_0,hx118_1,hx118_2,hl118_0,hi118_0⟩:=at_T34 HR0_1.out x8_1 p118 q118
       cases e118
       replace hx118_0:=bQ_ HB.out hx118_0
       replace hx118_1:=bQ_ HB.out hx118_1
       replace hx118_2:=bQ_ HB.out hx118_2
       have HR118_0:=am hi118_0
       have HC118_0:=am hl118_0
       clear hi118_0 hl118_0
       replace p118:=eq_true p118
       replace q118:=eq_true q118
       go_wp2_with (first|((with_reducible refine gate_dst (N:=4) rfl ?_);(try (refine gate_guard (by rfl) ?_;dsimp only));refine box_event ?hg (N:=4) ?hd (cs:=#[.slice none 0 0,.int .i64 0,.int .i64 0]) (t:=34) ?hr ?_;(case hd=>rfl);(case hg=>rfl);(case hr=>first|(go_simp;done)|(go_simp;rfl));intro gb119 hg w13 hbox hb;have n0_:=am (bM BK117.out hb);have n1_:=am (below_step (bS GE117.out) hb);have n2_:=am (hbox);have n3_:=am ((by rw[hg];exact(below_size (bS GE117.out)):w.heap.size≤gb119));have n4_:=am ((by rw[hg];exact(below_size (bS GE117.out)):w.heap.size≤gb119));have n5_:=am ((bN BK117.out hg:gb117≠gb119));have n6_:=am ((bO BK117.out hg:gb119≠gb117));clear BK117 HB;have BK117:=n0_;have HB:=n1_;have BK119:=n2_;have GW119:=n3_;have GE119:=n4_;have NB117_119:=n5_;have NB119_117:=n6_;clear n0_ n1_ n2_ n3_ n4_ n5_ n6_;clear hb hbox hg;have hnb14:=NB119_117.out;have hnc14:=NB117_119.out;obtain⟨hcz15_0,hcz15_1,hcz15_2⟩:=cC3 BK119.out;obtain⟨hfz15_0,hfz15_1,hfz15_2⟩:=cF3 BK119.out)|((with_reducible refine gate_callee (f:=26) rfl ?_);refine goesA (some 13) rfl rfl Try.func26 #[.agg #[.slice A118_0 ((rd_T34 l0_1 x8_1).f0).length c118_0,.int .i64 ((rd_T34 l0_1 x8_1).f1),.int .i64 ((rd_T34 l0_1 x8_1).f2)]] rfl ?_;(with_reducible refine(spec_l14Queue.calls k1 _ _ ((rd_T34 l0_1 x8_1).f0) ((rd_T34 l0_1 x8_1).f1) ((rd_T34 l0_1 x8_1).f2) false _ ?side1 ?side2 A7.out).mono ?_);(case side1=>exact Kd.C_below HR118_0.out (bS2 GE117.out GE119.out));(case side2=>exact HC118_0.out);rintro e w16 ⟨rfl,hb⟩;refine⟨_,rfl,?_⟩;have n0_:=am (blk_below (g:=gb117) (o:=.cells #[.int .i64 a0_0,.slice (some ad118) l0_1.length c0_1,.int .i64 a0_2] 25 (0,0)) (by(with_reducible repeat (first|refine blk_drewN ?_ _|refine blk_drew ?_|refine blk_alloc ?_ _));refine blk_far ?_ NB117_119.out _;(with_reducible repeat (first|refine blk_drewN ?_ _|refine blk_drew ?_|refine blk_alloc ?_ _));refine blk_far ?_ NB117_119.out _;(with_reducible repeat (first|refine blk_drewN ?_ _|refine blk_drew ?_|refine blk_alloc ?_ _));refine blk_far ?_ NB117_119.out _;(with_reducible repeat (first|refine blk_drewN ?_ _|refine blk_drew ?_|refine blk_alloc ?_ _));exact BK117.out) hb);have n1_:=am (blk_below (g:=gb119) (o:=.cells #[.slice A118_0 ((rd_T34 l0_1 x8_1).f0).length c118_0,.int .i64 ((rd_T34 l0_1 x8_1).f1),.int .i64 ((rd_T34 l0_1 x8_1).f2)] 34 (0,0)) (by(with_reducible repeat (first|refine blk_drewN ?_ _|refine blk_drew ?_|refine blk_alloc ?_ _));apply bU3;(with_reducible repeat (first|refine blk_drewN ?_ _|refine blk_drew ?_|refine blk_alloc ?_ _));exact BK119.out) hb);have n2_:=am (below_step (bS2 GE117.out GE119.out) hb);clear BK117 BK119 HB;have BK117:=n0_;have BK119:=n1_;have HB:=n2_;clear n0_ n1_ n2_;(try clear hb);(try clear hb2);(try clear hk);(try clear hi)))
       go_ret
       exact⟨bE,bS2 GE117.out GE119.out⟩
     ·rw[if_neg c6] at H
      exact absurd H (by simp)
    ·rw[if_neg c5] at H
     exact absurd H (by simp)
   ·rw[if_neg c4] at H
    have c4b0:decide (x8_1 < (l0_1.length:Int))=false:=decide_eq_false c4
    clear c4
    replace H:=bI_ H
    obtain⟨t121,A170,H⟩:=H
    have A17:=am A170
    clear A170
    by_cases c18:t121=true
    ·subst c18
     have H1:((spec_l1In.f (l0_1.length:Int) 1 6).bind fun t122=>(if t122=true then ((spec_l1In.f a0_2 0 1000000).bind fun t123=>(some t123)) else (some false)))=some r:=by rw[if_pos rfl] at H;exact H
     clear H
     have H:=H1
     clear H1
     replace H:=bI_ H
     obtain⟨t122,A190,H⟩:=H
     have A19:=am A190
     clear A190
     by_cases c20:t122=true
     ·subst c20
      have H1:((spec_l1In.f a0_2 0 1000000).bind fun t123=>(some t123))=some r:=by rw[if_pos rfl] at H;exact H
      clear H
      have H:=H1
      clear H1
      replace H:=bI_ H
      obtain⟨t123,A210,H⟩:=H
      have A21:=am A210
      clear A210
      obtain rfl:=Option.some.inj H
      obtain⟨hcz22_0,hcz22_1,hcz22_2⟩:=cC3 BK117.out
      obtain⟨hfz22_0,hfz22_1,hfz22_2⟩:=cF3 BK117.out
      go_wp2_with (first|((with_reducible refine gate_callee (f:=27) rfl ?_);refine goesA (some 18) rfl rfl Try.func27 #[.int .i64 a0_0,.int .i64 1,.int .i64 50] rfl ?_;(with_reducible refine(spec_l1In.calls a0_0 1 50 true _ A17.out).mono ?_);rintro e w' ⟨rfl,⟨nd,rfl⟩⟩;refine⟨_,rfl,?_⟩)|(go_at_call 27;(with_reducible refine(spec_l1In.calls (l0_1.length:Int) 1 6 true _ A19.out).mono ?_);rintro e w' ⟨rfl,⟨nd,rfl⟩⟩)|(go_at_call 27;(with_reducible refine(spec_l1In.calls a0_2 0 1000000 t123 _ A21.out).mono ?_);rintro e w' ⟨rfl,⟨nd,rfl⟩⟩))
      go_ret
      exact⟨bE,bS GE117.out⟩
     ·replace c20:=Bool.eq_false_iff.mpr c20
      subst c20
      have H1:(some false)=some r:=by rw[if_neg (show ¬ (false=true) by decide)] at H;exact H
      clear H
      have H:=H1
      clear H1
      obtain rfl:=Option.some.inj H
      obtain⟨hcz23_0,hcz23_1,hcz23_2⟩:=cC3 BK117.out
      obtain⟨hfz23_0,hfz23_1,hfz23_2⟩:=cF3 BK117.out
      go_wp2_with (first|((with_reducible refine gate_callee (f:=27) rfl ?_);refine goesA (some 18) rfl rfl Try.func27 #[.int .i64 a0_0,.int .i64 1,.int .i64 50] rfl ?_;(with_reducible refine(spec_l1In.calls a0_0 1 50 true _ A17.out).mono ?_);rintro e w' ⟨rfl,⟨nd,rfl⟩⟩;refine⟨_,rfl,?_⟩)|(go_at_call 27;(with_reducible refine(spec_l1In.calls (l0_1.length:Int) 1 6 false _ A19.out).mono ?_);rintro e w' ⟨rfl,⟨nd,rfl⟩⟩))
      go_ret
      exact⟨bE,bS GE117.out⟩
    ·replace c18:=Bool.eq_false_iff.mpr c18
     subst c18
     have H1:(some false)=some r:=by rw[if_neg (show ¬ (false=true) by decide)] at H;exact H
     clear H
     have H:=H1
     clear H1
     obtain rfl:=Option.some.inj H
     obtain⟨hcz24_0,hcz24_1,hcz24_2⟩:=cC3 BK117.out
     obtain⟨hfz24_0,hfz24_1,hfz24_2⟩:=cF3 BK117.out
     go_wp2_with (first|((with_reducible refine gate_callee (f:=27) rfl ?_);refine goesA (some 18) rfl rfl Try.func27 #[.int .i64 a0_0,.int .i64 1,.int .i64 50] rfl ?_;(with_reducible refine(spec_l1In.calls a0_0 1 50 false _ A17.out).mono ?_);rintro e w' ⟨rfl,⟨nd,rfl⟩⟩;refine⟨_,rfl,?_⟩))
     go_ret
     exact⟨bE,bS GE117.out⟩

/-! ### spec_l14Own: function 31 -/
def spec_l14Own.l0:Nat→List (S34)→List (S34)→Int→Int→Int→List (S34)→Int→Option (Int × (List (S34)) × Int)
 | 0,_,_,_,_,_,_,_=>none
 | k+1,x3,x7,x8,x9,x125000,x125001,x125002=>if x9 < x8 then (if 0≤x9 then (if x9 < (x7.length:Int) then ((some (([]:List Int):List Int)).bind fun y128=>(if y128.length+((rd_T34 x7 x9).f0).length < 17592186044416 then (if x3.length < 3518437208883 then (spec_l14Own.l0 k (x3++[(⟨(y128++((rd_T34 x7 x9).f0)),(rd_T34 x7 x9).f1,(rd_T34 x7 x9).f2⟩:S34)]) x7 x8 (wrap64 (x9+1)) x125000 x125001 x125002) else (none)) else (none))) else (none)) else (none)) else (some (x125000,x3,x125002))
def spec_l14Own.f (k:Nat) (a0_0:Int) (l0_1:List (S34)) (a0_2:Int):Option (Int × (List (S34)) × Int):=spec_l14Own.l0 k ([]:List (S34)) l0_1 (l0_1.length:Int) 0 a0_0 l0_1 a0_2
theorem spec_l14Own.mono_l : ∀ k,(∀ y0 y1 y2 y3 y4 y5 y6,LeO (spec_l14Own.l0 k y0 y1 y2 y3 y4 y5 y6) (spec_l14Own.l0 (k+1) y0 y1 y2 y3 y4 y5 y6))
 | 0=>fun _ _ _ _ _ _ _ r h=>by simp[spec_l14Own.l0] at h
 | k+1=>by
  have ih0:=spec_l14Own.mono_l k
  ·intro y0 y1 y2 y3 y4 y5 y6
   unfold spec_l14Own.l0
   repeat' first
   | (with_reducible exact ih0 _ _ _ _ _ _ _)
   | (with_reducible exact LeO.refl _)
   | (with_reducible exact LeO.none _)
   | (with_reducible refine LeO.ite ?_ ?_)
   | (with_reducible refine LeO.bind ?_ (fun _ => ?_))
theorem spec_l14Own.mono : ∀ a0 a1 a2 k,LeO (spec_l14Own.f k a0 a1 a2) (spec_l14Own.f (k+1) a0 a1 a2):=by
 intro a0 a1 a2 k
 have ih0:=spec_l14Own.mono_l k
 unfold spec_l14Own.f
 repeat' first
  | (with_reducible exact ih0 _ _ _ _ _ _ _)
  | (with_reducible exact LeO.refl _)
  | (with_reducible exact LeO.none _)
  | (with_reducible refine LeO.ite ?_ ?_)
  | (with_reducible refine LeO.bind ?_ (fun _ => ?_))
set_option maxHeartbeats 8000000 in
set_option maxRecDepth 100000 in
theorem spec_l14Own.calls (k:Nat) (a0_0:Int) (A0_1:Option Addr) (c0_1:Nat) (l0_1:List (S34)) (a0_2:Int) (r1:Int) (r2:List (S34)) (r3:Int) (w:World) (hr0_1:Kd.C k34 w A0_1 l0_1.length l0_1) (hc0_1:l0_1.length≤c0_1) (h:spec_l14Own.f k a0_0 l0_1 a0_2=some (r1,r2,r3)) :
  Calls Try.prog 31 #[.agg #[.int .i64 a0_0,.slice A0_1 l0_1.length c0_1,.int .i64 a0_2]] w fun e w' => ∃ v1_:Value,e=.returned (.agg #[.int .i64 r1,v1_,.int .i64 r3])∧Kd.S k34 34 w' w.heap.size (fun _=>True) v1_ r2∧Below w.heap.size w w':=by
 have hu25:=Try.underlying25
 have hu34:=Try.underlying34
 have HR0_1:=am hr0_1
 have HC0_1:=am hc0_1
 clear hr0_1 hc0_1
 have HB:=am (Below.refl w.heap.size w)
 have H:(spec_l14Own.l0 k ([]:List (S34)) l0_1 (l0_1.length:Int) 0 a0_0 l0_1 a0_2)=some (r1,r2,r3):=h
 clear h
 have H':=am H
 clear H
 go_enter Try.func31,Try.ntmps31
 go_wp2_with (first|((with_reducible refine gate_dst (N:=1) rfl ?_);refine box_event ?hg (N:=1) ?hd (cs:=#[.int .i64 a0_0,.slice A0_1 l0_1.length c0_1,.int .i64 a0_2]) (t:=25) ?hr ?_;(case hd=>rfl);(case hg=>rfl);(case hr=>first|(go_simp;done)|(go_simp;rfl));intro gb124 hg w2 hbox hb;have n0_:=am (below_step (bB) hb);have n1_:=am (hbox);have n2_:=am ((bG:w.heap.size≤gb124));have n3_:=am ((bG:w.heap.size≤gb124));clear HB;have HB:=n0_;have BK124:=n1_;have GW124:=n2_;have GE124:=n3_;clear n0_ n1_ n2_ n3_;clear hb hbox hg)|((with_reducible refine gate_dst (N:=2) rfl ?_);refine box_event ?hg (N:=2) ?hd (cs:=#[.int .i64 0,.slice none 0 0,.int .i64 0]) (t:=25) ?hr ?_;(case hd=>rfl);(case hg=>rfl);(case hr=>first|(go_simp;done)|(go_simp;rfl));intro gb125 hg w3 hbox hb;have n0_:=am (bM BK124.out hb);have n1_:=am (below_step (bS GE124.out) hb);have n2_:=am (hbox);have n3_:=am ((by rw[hg];exact(below_size (bS GE124.out)):w.heap.size≤gb125));have n4_:=am ((by rw[hg];exact(below_size (bS GE124.out)):w.heap.size≤gb125));have n5_:=am ((bN BK124.out hg:gb124≠gb125));have n6_:=am ((bO BK124.out hg:gb125≠gb124));clear BK124 HB;have BK124:=n0_;have HB:=n1_;have BK125:=n2_;have GW125:=n3_;have GE125:=n4_;have NB124_125:=n5_;have NB125_124:=n6_;clear n0_ n1_ n2_ n3_ n4_ n5_ n6_;clear hb hbox hg;have hnb4:=NB124_125.out;have hnc4:=NB125_124.out;obtain⟨hcz5_0,hcz5_1,hcz5_2⟩:=cC3 BK124.out;obtain⟨hfz5_0,hfz5_1,hfz5_2⟩:=cF3 BK124.out))
 go_loopg [3,9] k (fun kq v3 v9 w' => ∃ (x3_1:List (S34)) (x9_1:Int),v9=.int .i64 x9_1∧Aside0 (spec_l14Own.l0 kq x3_1 l0_1 (l0_1.length:Int) x9_1 a0_0 l0_1 a0_2=some (r1,r2,r3))∧Aside0 (kq≤k)∧Aside0 (Kd.S k34 34 w' w.heap.size (fun _=>True) v3 x3_1)∧Aside0 (w'.heap[gb124]?=some (.cells #[.int .i64 a0_0,(.slice A0_1 l0_1.length c0_1),.int .i64 a0_2] 25 (0,0)))∧Aside0 (w'.heap[gb125]?=some (.cells #[.int .i64 0,(.slice none 0 0),.int .i64 0] 25 (0,0)))∧Aside0 (Below w.heap.size w w'))
 case atStart=>exact⟨(([]:List (S34))),(0),(bR),H',⟨Nat.le_refl _⟩,⟨by first|exact Kd.S_nil _ _ _ _ _|exact Kd.N_nil _ _ _ _ _|exact Kd.V_nil _ _ _ _ _|exact Kd.Q_nil _ _ _ _ _|exact Kd.R_nil _ _ _ _ _⟩,⟨by(with_reducible repeat (first|refine blk_drewN ?_ _|refine blk_drew ?_|refine blk_alloc ?_ _));exact BK124.out⟩,⟨by(with_reducible repeat (first|refine blk_drewN ?_ _|refine blk_drew ?_|refine blk_alloc ?_ _));exact BK125.out⟩,⟨bS2 GE124.out GE125.out⟩⟩
 case round =>
  clear H'
  try clear p2
  try clear c3
  try clear c4
  try clear hcz5_0 hcz5_1 hcz5_2
  try clear hfz5_0 hfz5_1 hfz5_2
  obtain⟨x3_1,x9_1,rfl,HA,HK1,HO_3,BK124,BK125,HB⟩:=hrel
  cases gk with
  | zero=>exact absurd HA.out (by simp[spec_l14Own.l0])
  | succ k1 =>
   have H:=HA.out
   clear HA
   simp only[spec_l14Own.l0] at H
   by_cases c6:x9_1 < (l0_1.length:Int)
   ·rw[if_pos c6] at H
    have c6b0:decide (x9_1 < (l0_1.length:Int))=true:=decide_eq_true c6
    clear c6
    by_cases c7:0≤x9_1
    ·rw[if_pos c7] at H
     have c7b0:decide (0≤x9_1)=true:=decide_eq_true c7
     clear c7
     by_cases c8:x9_1 < (l0_1.length:Int)
     ·rw[if_pos c8] at H
      have c8b0:decide (x9_1 < (l0_1.length:Int))=true:=decide_eq_true c8
      clear c8
      obtain⟨y128,hy128⟩ : ∃ y_:List Int,y_=(([]:List Int)):=⟨_,rfl⟩
      replace H:(if y128.length+((rd_T34 l0_1 x9_1).f0).length < 17592186044416 then (if x3_1.length < 3518437208883 then (spec_l14Own.l0 k1 (x3_1++[(⟨(y128++((rd_T34 l0_1 x9_1).f0)),(rd_T34 l0_1 x9_1).f1,(rd_T34 l0_1 x9_1).f2⟩:S34)]) l0_1 (l0_1.length:Int) (wrap64 (x9_1+1)) a0_0 l0_1 a0_2) else (none)) else (none))=some (r1,r2,r3):=by first|(rw[hy128];with_reducible exact H)|(have H2_:=(Option.bind_some _ _).symm.trans H;rw[hy128];with_reducible exact H2_)|(have H2_:=(Option.bind_some _ _).symm.trans H;with_reducible exact H2_)|with_reducible exact H|(rw[hy128];exact H)|exact H
      have Ny128:=am hy128
      clear hy128
      by_cases c9:y128.length+((rd_T34 l0_1 x9_1).f0).length < 17592186044416
      ·rw[if_pos c9] at H
       have LMc9:=am c9
       clear c9
       obtain⟨y131,hy131⟩ : ∃ y_:List Int,y_=(y128++((rd_T34 l0_1 x9_1).f0)):=⟨_,rfl⟩
       replace H:(if x3_1.length < 3518437208883 then (spec_l14Own.l0 k1 (x3_1++[(⟨y131,(rd_T34 l0_1 x9_1).f1,(rd_T34 l0_1 x9_1).f2⟩:S34)]) l0_1 (l0_1.length:Int) (wrap64 (x9_1+1)) a0_0 l0_1 a0_2) else (none))=some (r1,r2,r3):=by first|(rw[hy131];with_reducible exact H)|(have H2_:=(Option.bind_some _ _).symm.trans H;rw[hy131];with_reducible exact H2_)|(have H2_:=(Option.bind_some _ _).symm.trans H;with_reducible exact H2_)|with_reducible exact H|(rw[hy131];exact H)|exact H
       have Ny131:=am hy131
       clear hy131
       by_cases c10:x3_1.length < 3518437208883
       ·rw[if_pos c10] at H
        have LMc10:=am c10
        clear c10
        obtain⟨y134,hy134⟩ : ∃ y_:List (S34),y_=(x3_1++[(⟨y131,(rd_T34 l0_1 x9_1).f1,(rd_T34 l0_1 x9_1).f2⟩:S34)]):=⟨_,rfl⟩
        replace H:(spec_l14Own.l0 k1 y134 l0_1 (l0_1.length:Int) (wrap64 (x9_1+1)) a0_0 l0_1 a0_2)=some (r1,r2,r3):=by first|(rw[hy134];with_reducible exact H)|(have H2_:=(Option.bind_some _ _).symm.trans H;rw[hy134];with_reducible exact H2_)|(have H2_:=(Option.bind_some _ _).symm.trans H;with_reducible exact H2_)|with_reducible exact H|(rw[hy134];exact H)|exact H
        have Ny134:=am hy134
        clear hy134
        have H':=am H
        clear H
        have p126:0≤(x9_1:Int):=bD_
        have q126:x9_1 < (l0_1.length:Int):=bD_
        obtain⟨ad126,A126_0,c126_0,e126,hx126_0,hx126_1,hx126_2,hl126_0,hi126_0⟩:=at_T34 HR0_1.out x9_1 p126 q126
        cases e126
        replace hx126_0:=bQ_ HB.out hx126_0
        replace hx126_1:=bQ_ HB.out hx126_1
        replace hx126_2:=bQ_ HB.out hx126_2
        have HR126_0:=am hi126_0
        have HC126_0:=am hl126_0
        clear hi126_0 hl126_0
        replace p126:=eq_true p126
        replace q126:=eq_true q126
        go_wp2_with (first|((with_reducible refine gate_dst (N:=5) rfl ?_);refine box_event ?hg (N:=5) ?hd (cs:=#[.slice none 0 0,.int .i64 0,.int .i64 0]) (t:=34) ?hr ?_;(case hd=>rfl);(case hg=>rfl);(case hr=>first|(go_simp;done)|(go_simp;rfl));intro gb127 hg w11 hbox hb;have n0_:=am (Kd.S_below (Kd.S_elderB (by(with_reducible repeat (first|apply Kd.S_alloc|apply Kd.S_drewN|apply Kd.S_drew));exact HO_3.out) gb127 (Nat.le_of_eq hg.symm)) hb);have n1_:=am (bM BK124.out hb);have n2_:=am (bM BK125.out hb);have n3_:=am (below_step (bS2 GE124.out GE125.out) hb);have n4_:=am (hbox);have n5_:=am ((by rw[hg];exact(below_size (bS2 GE124.out GE125.out)):w.heap.size≤gb127));have n6_:=am ((by rw[hg];exact(below_size (bS2 GE124.out GE125.out)):w.heap.size≤gb127));have n7_:=am ((bN BK124.out hg:gb124≠gb127));have n8_:=am ((bO BK124.out hg:gb127≠gb124));have n9_:=am ((bN BK125.out hg:gb125≠gb127));have n10_:=am ((bO BK125.out hg:gb127≠gb125));clear HO_3 BK124 BK125 HB;have HO_3:=n0_;have BK124:=n1_;have BK125:=n2_;have HB:=n3_;have BK127:=n4_;have GW127:=n5_;have GE127:=n6_;have NB124_127:=n7_;have NB127_124:=n8_;have NB125_127:=n9_;have NB127_125:=n10_;clear n0_ n1_ n2_ n3_ n4_ n5_ n6_ n7_ n8_ n9_ n10_;clear hb hbox hg;have hnb12:=NB127_124.out;have hnc12:=NB124_127.out;have hnb13:=NB127_125.out;have hnc13:=NB125_127.out;obtain⟨hcz14_0,hcz14_1,hcz14_2⟩:=cC3 BK127.out;obtain⟨hfz14_0,hfz14_1,hfz14_2⟩:=cF3 BK127.out)|((with_reducible refine gate_dst (N:=13) rfl ?_);refine Kd.R_lit (Kd.int .i64) _ 3 ?hg (N:=13) ?hd (xs:=([]:List Int)) (inner:=[]) (ok:=fun _=>True) (okp:=fun _=>True) ?hr ?hp (fun _ hk=>hk) trivial (Below.refl _ _) (Nat.le_refl _) (by simp) ?_;(case hd=>rfl);(case hg=>rfl);(case hr=>first|(go_simp;done)|(go_simp;rfl));(case hp=>exact(Reps.none _ _));intro v129 w15 ho16 hb hg_ hnew_;clear hg_ hnew_;(first|rw[← Ny128.out] at ho16|(simp only[Int.reduceToNat] at ho16;rw[← Ny128.out] at ho16));have n0_:=am (Kd.S_elder' (by(with_reducible repeat (first|apply Kd.S_alloc|apply Kd.S_drewN|apply Kd.S_drew));exact(Kd.S_mono (Kd.S_far (p:=⟨gb127,2,none⟩) (Kd.S_far (p:=⟨gb127,1,none⟩) (Kd.S_far (p:=⟨gb127,0,none⟩) (Kd.S_mono HO_3.out (fun k_ hk=>(⟨hk,hk.2⟩:_∧k_≠gb127))) (fun _ hk=>hk.2) (.slice A126_0 ((rd_T34 l0_1 x9_1).f0).length c126_0)) (fun _ hk=>hk.2) (.int .i64 ((rd_T34 l0_1 x9_1).f1))) (fun _ hk=>hk.2) (.int .i64 ((rd_T34 l0_1 x9_1).f2))) (fun _ h_=>h_.1))) (Kd.R_base ho16) hb);have n1_:=am (Kd.R_lower ho16 (below_size (bS3 GE124.out GE125.out GE127.out)));have n2_:=am (blk_below (g:=gb124) (o:=.cells #[.int .i64 a0_0,.slice (some ad126) l0_1.length c0_1,.int .i64 a0_2] 25 (0,0)) (by(with_reducible repeat (first|refine blk_drewN ?_ _|refine blk_drew ?_|refine blk_alloc ?_ _));refine blk_far ?_ NB124_127.out _;(with_reducible repeat (first|refine blk_drewN ?_ _|refine blk_drew ?_|refine blk_alloc ?_ _));refine blk_far ?_ NB124_127.out _;(with_reducible repeat (first|refine blk_drewN ?_ _|refine blk_drew ?_|refine blk_alloc ?_ _));refine blk_far ?_ NB124_127.out _;(with_reducible repeat (first|refine blk_drewN ?_ _|refine blk_drew ?_|refine blk_alloc ?_ _));exact BK124.out) hb);have n3_:=am (blk_below (g:=gb125) (o:=.cells #[.int .i64 0,.slice none 0 0,.int .i64 0] 25 (0,0)) (by(with_reducible repeat (first|refine blk_drewN ?_ _|refine blk_drew ?_|refine blk_alloc ?_ _));refine blk_far ?_ NB125_127.out _;(with_reducible repeat (first|refine blk_drewN ?_ _|refine blk_drew ?_|refine blk_alloc ?_ _));refine blk_far ?_ NB125_127.out _;(with_reducible repeat (first|refine blk_drewN ?_ _|refine blk_drew ?_|refine blk_alloc ?_ _));refine blk_far ?_ NB125_127.out _;(with_reducible repeat (first|refine blk_drewN ?_ _|refine blk_drew ?_|refine blk_alloc ?_ _));exact BK125.out) hb);have n4_:=am (blk_below (g:=gb127) (o:=.cells #[.slice A126_0 ((rd_T34 l0_1 x9_1).f0).length c126_0,.int .i64 ((rd_T34 l0_1 x9_1).f1),.int .i64 ((rd_T34 l0_1 x9_1).f2)] 34 (0,0)) (by(with_reducible repeat (first|refine blk_drewN ?_ _|refine blk_drew ?_|refine blk_alloc ?_ _));apply bU3;(with_reducible repeat (first|refine blk_drewN ?_ _|refine blk_drew ?_|refine blk_alloc ?_ _));exact BK127.out) hb);have n5_:=am (below_step (bS3 GE124.out GE125.out GE127.out) hb);clear HO_3 BK124 BK125 BK127 HB;have HO_3:=n0_;have HO130:=n1_;have BK124:=n2_;have BK125:=n3_;have BK127:=n4_;have HB:=n5_;clear n0_ n1_ n2_ n3_ n4_ n5_;clear hb ho16;obtain⟨hcz17_0,hcz17_1,hcz17_2⟩:=cC3 BK127.out;obtain⟨hfz17_0,hfz17_1,hfz17_2⟩:=cF3 BK127.out)|((with_reducible refine gate_builtin (b:=.append) (xs:=#[.tmp 13,.tmp 15]) rfl ?_);at_builtin;refine Kd.R_append_rows (Kd.int .i64) (w0:=w) w.heap.size rfl (.tmp 13) (.tmp 15) 27 3 (.int .i64 0) 8 rfl Try.underlying27 info3 rfl (by decide) (by omega) v129 y128 ((rd_T34 l0_1 x9_1).f0) _ _ _ (fun _=>True) (fun _=>False) rfl rfl ?aO ?aR (fun _ _ h=>h) (fun _ h=>h.elim) ?aF ?aB ?aS ?aL ?_;(case aR=>exact bC HR126_0.out);(case aB=>exact(bS3 GE124.out GE125.out GE127.out));(case aF=>exact(fun _ _=>trivial));(case aO=>exact(bK HO130.out));(case aS=>exact(below_size (bS3 GE124.out GE125.out GE127.out)));(case aL=>have:=LMc9.out;omega);intro v132 w18 ho hb hg hat;rw[← Ny131.out] at ho;have n0_:=am (Kd.S_after (ok:=(fun k_=>k_≠gb127)) (by(with_reducible repeat (first|apply Kd.S_alloc|apply Kd.S_drewN|apply Kd.S_drew));exact Kd.S_mono HO_3.out (fun _ hk=>⟨hk.1.2,hk.2⟩)) hg hat);have n1_:=am (blk_grown (g:=gb124) (o:=.cells #[.int .i64 a0_0,.slice (some ad126) l0_1.length c0_1,.int .i64 a0_2] 25 (0,0)) (bL BK124.out) hg (Kd.R_ne HO130.out BK124.out (by decide)));have n2_:=am (blk_grown (g:=gb125) (o:=.cells #[.int .i64 0,.slice none 0 0,.int .i64 0] 25 (0,0)) (bL BK125.out) hg (Kd.R_ne HO130.out BK125.out (by decide)));have n3_:=am (blk_grown (g:=gb127) (o:=.cells #[.slice A126_0 ((rd_T34 l0_1 x9_1).f0).length c126_0,.int .i64 ((rd_T34 l0_1 x9_1).f1),.int .i64 ((rd_T34 l0_1 x9_1).f2)] 34 (0,0)) (bL BK127.out) hg (Kd.R_ne HO130.out BK127.out (by decide)));have n4_:=am (hb);have n5_:=am (ho);clear HO_3 BK124 BK125 BK127 HB HO130;have HO_3:=n0_;have BK124:=n1_;have BK125:=n2_;have BK127:=n3_;have HB:=n4_;have HO133:=n5_;clear n0_ n1_ n2_ n3_ n4_ n5_;clear ho hb hg hat;obtain⟨Ao19,co19,eo19⟩:=Kd.R_slice HO133.out;subst eo19;obtain⟨hcz20_0,hcz20_1,hcz20_2⟩:=cC3 BK127.out;obtain⟨hfz20_0,hfz20_1,hfz20_2⟩:=cF3 BK127.out)|((with_reducible refine gate_store (t:=27) (p:=17) rfl ?_);refine store_event (t:=27) (p:=17) (v:=?vo_w21) (w1:=(w18.setCell ⟨gb127,0,none⟩ (.slice Ao19 y131.length co19))) ?hg ?ho ?hn ?hr ?_;(case ho=>rfl);(case hg=>rfl);(case hn=>rfl);(case hr=>first|(go_simp;done)|(go_simp;rfl));intro w21 hw;have n0_:Aside0 (Kd.S k34 34 w21 w.heap.size (fun k_=>some k_≠(.slice Ao19 y131.length co19:Value).ownBlock∧k_≠gb127) u3 x3_1):=⟨(by rw[hw];exact(by(with_reducible repeat (first|apply Kd.S_alloc|apply Kd.S_drewN|apply Kd.S_drew));exact Kd.S_mono (Kd.S_far (p:=⟨gb127,0,none⟩) (Kd.S_mono HO_3.out (fun k_ hk=>(⟨hk,hk.1⟩:_∧k_≠gb127))) (fun _ hk=>hk.2) (.slice Ao19 y131.length co19)) (fun _ hk=>⟨hk.1.2,hk.1.1⟩)))⟩;have n1_:Aside0 (Kd.R (Kd.int .i64) 3 w21 w.heap.size (fun _=>True) (.slice Ao19 y131.length co19) y131):=⟨(by rw[hw];exact(by(with_reducible repeat (first|apply Kd.R_alloc|apply Kd.R_drewN|apply Kd.R_drew));exact Kd.R_mono (Kd.R_far (p:=⟨gb127,0,none⟩) (Kd.R_types HO133.out BK127.out (by decide)) (fun _ hk=>hk.2) (.slice Ao19 y131.length co19)) (fun _ hk=>trivial)))⟩;have n2_:Aside0 (w21.heap[gb124]?=some (.cells #[.int .i64 a0_0,.slice (some ad126) l0_1.length c0_1,.int .i64 a0_2] 25 (0,0))):=⟨(by rw[hw];exact(by(with_reducible repeat (first|refine blk_drewN ?_ _|refine blk_drew ?_|refine blk_alloc ?_ _));refine blk_far ?_ NB124_127.out _;(with_reducible repeat (first|refine blk_drewN ?_ _|refine blk_drew ?_|refine blk_alloc ?_ _));exact BK124.out))⟩;have n3_:Aside0 (w21.heap[gb125]?=some (.cells #[.int .i64 0,.slice none 0 0,.int .i64 0] 25 (0,0))):=⟨(by rw[hw];exact(by(with_reducible repeat (first|refine blk_drewN ?_ _|refine blk_drew ?_|refine blk_alloc ?_ _));refine blk_far ?_ NB125_127.out _;(with_reducible repeat (first|refine blk_drewN ?_ _|refine blk_drew ?_|refine blk_alloc ?_ _));exact BK125.out))⟩;have n4_:Aside0 (w21.heap[gb127]?=some (.cells #[.slice Ao19 y131.length co19,.int .i64 ((rd_T34 l0_1 x9_1).f1),.int .i64 ((rd_T34 l0_1 x9_1).f2)] 34 (0,0))):=⟨(by rw[hw];exact(by(with_reducible repeat (first|refine blk_drewN ?_ _|refine blk_drew ?_|refine blk_alloc ?_ _));refine blk_put (cs:=#[.slice A126_0 ((rd_T34 l0_1 x9_1).f0).length c126_0,.int .i64 ((rd_T34 l0_1 x9_1).f1),.int .i64 ((rd_T34 l0_1 x9_1).f2)]) ?_ 0 _ rfl;(with_reducible repeat (first|refine blk_drewN ?_ _|refine blk_drew ?_|refine blk_alloc ?_ _));exact BK127.out))⟩;have n5_:Aside0 (Below w.heap.size w w21):=⟨(by rw[hw];exact(bS3 GE124.out GE125.out GE127.out))⟩;clear hw HO_3 HO133 BK124 BK125 BK127 HB;have HO_3:=n0_;have HO133:=n1_;have BK124:=n2_;have BK125:=n3_;have BK127:=n4_;have HB:=n5_;clear n0_ n1_ n2_ n3_ n4_ n5_;obtain⟨hcz22_0,hcz22_1,hcz22_2⟩:=cC3 BK127.out;obtain⟨hfz22_0,hfz22_1,hfz22_2⟩:=cF3 BK127.out)|((with_reducible refine gate_builtin (b:=.append) (xs:=#[.tmp 18,.tmp 20]) rfl ?_);at_builtin;refine Kd.S_append k34 (w0:=w) w.heap.size rfl (.tmp 18) (.tmp 20) 23 34 (.agg #[(.slice none 0 0),(.int .i64 0),(.int .i64 0)]) 40 rfl Try.underlying23 info34 rfl (by decide) (by omega) u3 x3_1 (⟨y131,(rd_T34 l0_1 x9_1).f1,(rd_T34 l0_1 x9_1).f2⟩:S34) [.slice Ao19 y131.length co19,.int .i64 ((rd_T34 l0_1 x9_1).f1),.int .i64 ((rd_T34 l0_1 x9_1).f2)] (fun k_=>k_≠gb127) (fun k_=>some k_=(.slice Ao19 y131.length co19:Value).ownBlock) rfl rfl ?aP (fun k_ hk_=>((Kd.R_mono (ok':=fun k_=>((fun k_=>k_≠gb127)) k_∧some k_≠(u3:Value).ownBlock) (Kd.R_types (Kd.R_apart' (HO133.out) (Kd.S_typed HO_3.out) (by decide)) BK127.out (by decide)) (fun k_ hk=>⟨hk.2,hk.1.2⟩))).1 k_ hk_.symm) ?aF ?aO ?aB ?aS ?aL ?_;(case aP=>exact k34_mkM _ _ _ (⟨y131,(rd_T34 l0_1 x9_1).f1,(rd_T34 l0_1 x9_1).f2⟩:S34) (Kd.R_mono (Kd.R_tight rfl (Kd.R_mono (ok':=fun k_=>((fun k_=>k_≠gb127)) k_∧some k_≠(u3:Value).ownBlock) (Kd.R_types (Kd.R_apart' (HO133.out) (Kd.S_typed HO_3.out) (by decide)) BK127.out (by decide)) (fun k_ hk=>⟨hk.2,hk.1.2⟩))) (fun _ h_=>h_)));(case aB=>exact(bS3 GE124.out GE125.out GE127.out));(case aF=>exact(fun k_ hk=>Kd.freshB (g:=gb127) (o:=.cells #[.slice Ao19 y131.length co19,.int .i64 ((rd_T34 l0_1 x9_1).f1),.int .i64 ((rd_T34 l0_1 x9_1).f2)] 34 (0,0)) (bL BK127.out) k_ hk));(case aO=>exact(by(with_reducible repeat (first|apply Kd.S_alloc|apply Kd.S_drewN|apply Kd.S_drew));exact Kd.S_mono HO_3.out (fun k_ hk=>⟨hk.2,fun e_=>hk.1 e_⟩)));(case aS=>exact(below_size (bS3 GE124.out GE125.out GE127.out)));(case aL=>have:=LMc10.out;omega);intro v135 w23 ho hb hg hat;rw[← Ny134.out] at ho;have n0_:=am (blk_grown (g:=gb124) (o:=.cells #[.int .i64 a0_0,.slice (some ad126) l0_1.length c0_1,.int .i64 a0_2] 25 (0,0)) (bL BK124.out) hg (Kd.S_ne HO_3.out BK124.out (by decide)));have n1_:=am (blk_grown (g:=gb125) (o:=.cells #[.int .i64 0,.slice none 0 0,.int .i64 0] 25 (0,0)) (bL BK125.out) hg (Kd.S_ne HO_3.out BK125.out (by decide)));have n2_:=am (blk_grown (g:=gb127) (o:=.cells #[.slice Ao19 y131.length co19,.int .i64 ((rd_T34 l0_1 x9_1).f1),.int .i64 ((rd_T34 l0_1 x9_1).f2)] 34 (0,0)) (bL BK127.out) hg (Kd.S_away HO_3.out (fun _ hk=>hk.2)));have n3_:=am (hb);have n4_:=am (ho);clear BK124 BK125 BK127 HB HO_3 HO133;have BK124:=n0_;have BK125:=n1_;have BK127:=n2_;have HB:=n3_;have HO136:=n4_;clear n0_ n1_ n2_ n3_ n4_;clear ho hb hg hat))
        go_roundg k1
        case measure=>have:=HK1.out;omega
        case rel=>exact⟨(y134),(wrap64 (x9_1+1)),(bR),H',⟨by have:=HK1.out;omega⟩,⟨by(with_reducible repeat (first|apply Kd.S_alloc|apply Kd.S_drewN|apply Kd.S_drew));exact Kd.S_mono HO136.out (fun _ hk=>trivial)⟩,⟨by(with_reducible repeat (first|refine blk_drewN ?_ _|refine blk_drew ?_|refine blk_alloc ?_ _));exact BK124.out⟩,⟨by(with_reducible repeat (first|refine blk_drewN ?_ _|refine blk_drew ?_|refine blk_alloc ?_ _));exact BK125.out⟩,⟨bS3 GE124.out GE125.out GE127.out⟩⟩
       ·rw[if_neg c10] at H
        exact absurd H (by simp)
      ·rw[if_neg c9] at H
       exact absurd H (by simp)
     ·rw[if_neg c8] at H
      exact absurd H (by simp)
    ·rw[if_neg c7] at H
     exact absurd H (by simp)
   ·rw[if_neg c6] at H
    have c6b0:decide (x9_1 < (l0_1.length:Int))=false:=decide_eq_false c6
    clear c6
    simp only[Option.some.injEq,Prod.mk.injEq] at H
    obtain⟨rfl,rfl,rfl⟩:=H
    obtain⟨Ao24,co24,eo24⟩:=Kd.S_slice HO_3.out
    subst eo24
    have hnb25:=NB124_125.out
    have hnc25:=NB125_124.out
    obtain⟨hcz26_0,hcz26_1,hcz26_2⟩:=cC3 BK124.out
    obtain⟨hfz26_0,hfz26_1,hfz26_2⟩:=cF3 BK124.out
    obtain⟨hcz27_0,hcz27_1,hcz27_2⟩:=cC3 BK125.out
    obtain⟨hfz27_0,hfz27_1,hfz27_2⟩:=cF3 BK125.out
    go_wp2
    refine bodyPost_ret (results_cell_row rfl _ _ gb125 25 #[.int .i64 a0_0,.slice Ao24 x3_1.length co24,.int .i64 a0_2] (0,0) _ rfl (by(with_reducible repeat (first|refine blk_drewN ?_ _|refine blk_drew ?_|refine blk_alloc ?_ _));apply bU3;(with_reducible repeat (first|refine blk_drewN ?_ _|refine blk_drew ?_|refine blk_alloc ?_ _));refine blk_far ?_ NB125_124.out _;(with_reducible repeat (first|refine blk_drewN ?_ _|refine blk_drew ?_|refine blk_alloc ?_ _));exact BK125.out) Try.underlying25 rfl (by kernel_rfl)) rfl ?_
    exact⟨_,by first|rfl|(simp[errW_none,errW_some]<;>rfl)|(simp[*,errW_none,errW_some]<;>rfl),by(with_reducible repeat (first|apply Kd.S_alloc|apply Kd.S_drewN|apply Kd.S_drew));exact Kd.S_mono (Kd.S_far (p:=⟨gb125,2,none⟩) (Kd.S_far (p:=⟨gb125,1,none⟩) (Kd.S_far (p:=⟨gb125,0,none⟩) (Kd.S_far (p:=⟨gb124,1,none⟩) (Kd.S_types (Kd.S_types HO_3.out BK124.out (by decide)) BK125.out (by decide)) (fun _ hk=>hk.1.2) (.slice Ao24 x3_1.length co24)) (fun _ hk=>hk.2) (.int .i64 a0_0)) (fun _ hk=>hk.2) (.slice Ao24 x3_1.length co24)) (fun _ hk=>hk.2) (.int .i64 a0_2)) (fun _ hk=>trivial),bS2 GE124.out GE125.out⟩

end Go.Proofs.Ythghcoepkknkeaa.XFnFair
