-- Written by this session's own program (wip/xprint.py) out of the translation; Lean checks it.
import Derived.Test.YteneeohaoplpbaaXFnSprayx0
import Derived.Test.YteneeohaoplpbaaXFnSprayx4
import Derived.Test.YteneeohaoplpbaaXFnSprayx5
namespace Go.Proofs.Yteneeohaoplpbaa.XFnSpray
open Go.RowKit Go.Proofs.YteneeohaoplpbaaW.PrintWords Go.Proofs.YteneeohaoplpbaaW.PrintLast Go.Proofs.YteneeohaoplpbaaW.PrintMore
open Go.Proofs.YteneeohaoplpbaaW.PrintWords.Aside0 renaming mk → am
open List renaming setIfInBounds_toArray → zA, set_cons_zero → zB, set_cons_succ → zC
attribute [local go_sem] max2_int min2_int max_two min_two max_three min_three max_four min_four   -- for this text's walks alone
set_option linter.unusedVariables false
set_option linter.unusedSimpArgs false

/-! ### spec_GoodSpray: function 48 -/
mutual
def spec_GoodSpray.j0:Nat→Bool→List Int→Int→Bool→Option (Bool)
 | 0,_,_,_,_=>none
 | k+1,x32,x439000,x439001,x439002=>if x32=true then (some false) else (spec_GoodSpray.l0 k 0 x439000 (x439000.length:Int) 0)
def spec_GoodSpray.l0:Nat→Int→List Int→Int→Int→Option (Bool)
 | 0,_,_,_,_=>none
 | k+1,x3,x34,x35,x36=>if x36 < x35 then (if 0≤x36 then (if x36 < (x34.length:Int) then ((spec_l1In.f (rd x34 x36) 0 64).bind fun t442=>(if t442=true then (spec_GoodSpray.l0 k (wrap64 (x3+(rd x34 x36))) x34 x35 (wrap64 (x36+1))) else (some false))) else (none)) else (none)) else ((spec_l1In.f x3 1 64).bind fun t443=>(some t443))
end
def spec_GoodSpray.f (k:Nat) (l0_0:List Int) (a0_1:Int) (a0_2:Bool):Option (Bool):=(spec_l1In.f (l0_0.length:Int) 2 8).bind fun t439=>(if t439=true then (if a0_1 < 0 then (spec_GoodSpray.j0 k true l0_0 a0_1 a0_2) else (if a0_1 ≥ (l0_0.length:Int) then (spec_GoodSpray.j0 k true l0_0 a0_1 a0_2) else (if 0≤a0_1 then (if a0_1 < (l0_0.length:Int) then (spec_GoodSpray.j0 k ((rd l0_0 a0_1) != 0) l0_0 a0_1 a0_2) else (none)) else (none)))) else (spec_GoodSpray.j0 k true l0_0 a0_1 a0_2))
theorem spec_GoodSpray.mono_l : ∀ k,(∀ y0 y1 y2 y3,LeO (spec_GoodSpray.j0 k y0 y1 y2 y3) (spec_GoodSpray.j0 (k+1) y0 y1 y2 y3))∧(∀ y0 y1 y2 y3,LeO (spec_GoodSpray.l0 k y0 y1 y2 y3) (spec_GoodSpray.l0 (k+1) y0 y1 y2 y3))
 | 0=>⟨fun _ _ _ _ r h=>by simp[spec_GoodSpray.j0] at h,fun _ _ _ _ r h=>by simp[spec_GoodSpray.l0] at h⟩
 | k+1=>by
  obtain⟨ih0,ih1⟩:=spec_GoodSpray.mono_l k
  refine⟨?_,?_⟩
  ·intro y0 y1 y2 y3
   unfold spec_GoodSpray.j0
   repeat' first
   | (with_reducible exact ih0 _ _ _ _)
   | (with_reducible exact ih1 _ _ _ _)
   | (with_reducible exact LeO.refl _)
   | (with_reducible exact LeO.none _)
   | (with_reducible refine LeO.ite ?_ ?_)
   | (with_reducible refine LeO.bind ?_ (fun _ => ?_))
  ·intro y0 y1 y2 y3
   unfold spec_GoodSpray.l0
   repeat' first
   | (with_reducible exact ih0 _ _ _ _)
   | (with_reducible exact ih1 _ _ _ _)
   | (with_reducible exact LeO.refl _)
   | (with_reducible exact LeO.none _)
   | (with_reducible refine LeO.ite ?_ ?_)
   | (with_reducible refine LeO.bind ?_ (fun _ => ?_))
theorem spec_GoodSpray.mono : ∀ a0 a1 a2 k,LeO (spec_GoodSpray.f k a0 a1 a2) (spec_GoodSpray.f (k+1) a0 a1 a2):=by
 intro a0 a1 a2 k
 obtain⟨ih0,ih1⟩:=spec_GoodSpray.mono_l k
 unfold spec_GoodSpray.f
 repeat' first
  | (with_reducible exact ih0 _ _ _ _)
  | (with_reducible exact ih1 _ _ _ _)
  | (with_reducible exact LeO.refl _)
  | (with_reducible exact LeO.none _)
  | (with_reducible refine LeO.ite ?_ ?_)
  | (with_reducible refine LeO.bind ?_ (fun _ => ?_))
set_option maxHeartbeats 8000000 in
set_option maxRecDepth 100000 in
theorem spec_GoodSpray.calls (k:Nat) (A0_0:Option Addr) (c0_0:Nat) (l0_0:List Int) (a0_1:Int) (a0_2:Bool) (r:Bool) (w:World) (hr0_0:Kd.C (Kd.int .i64) w A0_0 l0_0.length l0_0) (hc0_0:l0_0.length≤c0_0) (h:spec_GoodSpray.f k l0_0 a0_1 a0_2=some r) :
  Calls Try.prog 48 #[.agg #[.slice A0_0 l0_0.length c0_0,.int .i64 a0_1,.bool a0_2]] w fun e w'=>e=.returned (.bool r)∧Below w.heap.size w w':=by
 have hu62:=Try.underlying62
 have HR0_0:=am hr0_0
 have HC0_0:=am hc0_0
 clear hr0_0 hc0_0
 have HB:=am (Below.refl w.heap.size w)
 have H:((spec_l1In.f (l0_0.length:Int) 2 8).bind fun t439=>(if t439=true then (if a0_1 < 0 then (spec_GoodSpray.j0 k true l0_0 a0_1 a0_2) else (if a0_1 ≥ (l0_0.length:Int) then (spec_GoodSpray.j0 k true l0_0 a0_1 a0_2) else (if 0≤a0_1 then (if a0_1 < (l0_0.length:Int) then (spec_GoodSpray.j0 k ((rd l0_0 a0_1) != 0) l0_0 a0_1 a0_2) else (none)) else (none)))) else (spec_GoodSpray.j0 k true l0_0 a0_1 a0_2)))=some r:=h
 clear h
 have HC2:=am H
 clear H
 go_enter Try.func48,Try.ntmps48
 go_upto_region 1 with (first|((with_reducible refine gate_dst (N:=1) rfl ?_);(try (refine gate_guard (by rfl) ?_;dsimp only));refine box_event ?hg (N:=1) ?hd (cs:=#[.slice A0_0 l0_0.length c0_0,.int .i64 a0_1,.bool a0_2]) (t:=62) ?hr ?_;(case hd=>rfl);(case hg=>rfl);(case hr=>first|(go_simp;done)|(go_simp;rfl));intro gb438 hg w3 hbox hb;have n0_:=am (below_step (bB) hb);have n1_:=am (hbox);have n2_:=am ((bG:w.heap.size≤gb438));have n3_:=am ((bG:w.heap.size≤gb438));clear HB;have HB:=n0_;have BK438:=n1_;have GW438:=n2_;have GE438:=n3_;clear n0_ n1_ n2_ n3_;clear hb hbox hg))
 (try simp only[Act.put,zA,zB,zC])
 go_cut [32] (fun v32 wc => ∃ (kq:Nat) (x32_1:Bool),v32=.bool x32_1∧Aside0 (spec_GoodSpray.j0 kq x32_1 l0_0 a0_1 a0_2=some r)∧Aside0 (kq≤k)∧Aside0 (wc.heap[gb438]?=some (.cells #[(.slice A0_0 l0_0.length c0_0),.int .i64 a0_1,.bool a0_2] 62 (0,0)))∧Aside0 (Below w.heap.size w wc))
 case first =>
  have H:=HC2.out
  clear HC2
  replace H:=bI_ H
  obtain⟨t439,A40,H⟩:=H
  have A4:=am A40
  clear A40
  by_cases c5:t439=true
  ·subst c5
   have H1:(if a0_1 < 0 then (spec_GoodSpray.j0 k true l0_0 a0_1 a0_2) else (if a0_1 ≥ (l0_0.length:Int) then (spec_GoodSpray.j0 k true l0_0 a0_1 a0_2) else (if 0≤a0_1 then (if a0_1 < (l0_0.length:Int) then (spec_GoodSpray.j0 k ((rd l0_0 a0_1) != 0) l0_0 a0_1 a0_2) else (none)) else (none))))=some r:=by rw[if_pos rfl] at H;exact H
   clear H
   have H:=H1
   clear H1
   by_cases c6:a0_1 < 0
   ·rw[if_pos c6] at H
    have c6b0:decide (a0_1 < 0)=true:=decide_eq_true c6
    clear c6
    (first|rw[c6b0]|(simp only[i64_w,i32_w];rw[c6b0])|skip)
    have H':=am H
    clear H
    obtain⟨hcz7_0,hcz7_1,hcz7_2⟩:=cC3 BK438.out
    obtain⟨hfz7_0,hfz7_1,hfz7_2⟩:=cF3 BK438.out
    go_wp2_with (first|((with_reducible refine gate_callee (f:=75) rfl ?_);refine goesA (some 9) rfl rfl Try.func75 #[.int .i64 (l0_0.length:Int),.int .i64 2,.int .i64 8] rfl ?_;(with_reducible refine(spec_l1In.calls (l0_0.length:Int) 2 8 true _ A4.out).mono ?_);rintro e w' ⟨rfl,⟨nd,rfl⟩⟩;refine⟨_,rfl,?_⟩))
    go_meet
    case rel=>exact⟨_,(true),(bR),H',⟨by first|omega|exact Nat.le_refl _⟩,⟨by(with_reducible repeat (first|refine blk_drewN ?_ _|refine blk_drew ?_|refine blk_alloc ?_ _));exact BK438.out⟩,⟨bS GE438.out⟩⟩
   ·rw[if_neg c6] at H
    have c6b0:decide (a0_1 < 0)=false:=decide_eq_false c6
    clear c6
    (first|rw[c6b0]|(simp only[i64_w,i32_w];rw[c6b0])|skip)
    by_cases c8:a0_1 ≥ (l0_0.length:Int)
    ·rw[if_pos c8] at H
     have c8b0:decide ((l0_0.length:Int)≤a0_1)=true:=decide_eq_true c8
     clear c8
     have H':=am H
     clear H
     obtain⟨hcz9_0,hcz9_1,hcz9_2⟩:=cC3 BK438.out
     obtain⟨hfz9_0,hfz9_1,hfz9_2⟩:=cF3 BK438.out
     go_wp2_with (first|((with_reducible refine gate_callee (f:=75) rfl ?_);refine goesA (some 9) rfl rfl Try.func75 #[.int .i64 (l0_0.length:Int),.int .i64 2,.int .i64 8] rfl ?_;(with_reducible refine(spec_l1In.calls (l0_0.length:Int) 2 8 true _ A4.out).mono ?_);rintro e w' ⟨rfl,⟨nd,rfl⟩⟩;refine⟨_,rfl,?_⟩))
     go_meet
     case rel=>exact⟨_,(true),(bR),H',⟨by first|omega|exact Nat.le_refl _⟩,⟨by(with_reducible repeat (first|refine blk_drewN ?_ _|refine blk_drew ?_|refine blk_alloc ?_ _));exact BK438.out⟩,⟨bS GE438.out⟩⟩
    ·rw[if_neg c8] at H
     have c8b0:decide ((l0_0.length:Int)≤a0_1)=false:=decide_eq_false c8
     clear c8
     by_cases c10:0≤a0_1
     ·rw[if_pos c10] at H
      have c10b0:decide (0≤a0_1)=true:=decide_eq_true c10
      clear c10
      by_cases c11:a0_1 < (l0_0.length:Int)
      ·rw[if_pos c11] at H
       have c11b0:decide (a0_1 < (l0_0.length:Int))=true:=decide_eq_true c11
       clear c11
       have H':=am H
       clear H
       obtain⟨hcz12_0,hcz12_1,hcz12_2⟩:=cC3 BK438.out
       obtain⟨hfz12_0,hfz12_1,hfz12_2⟩:=cF3 BK438.out
       go_wp2_with (first|((with_reducible refine gate_callee (f:=75) rfl ?_);refine goesA (some 9) rfl rfl Try.func75 #[.int .i64 (l0_0.length:Int),.int .i64 2,.int .i64 8] rfl ?_;(with_reducible refine(spec_l1In.calls (l0_0.length:Int) 2 8 true _ A4.out).mono ?_);rintro e w' ⟨rfl,⟨nd,rfl⟩⟩;refine⟨_,rfl,?_⟩;have p440:0≤(a0_1:Int):=bD_;have q440:a0_1 < (l0_0.length:Int):=bD_;obtain⟨ad440,e440,hx440_0⟩:=Kd.at_int HR0_0.out a0_1 p440 q440;cases e440;replace hx440_0:=bQ_ HB.out hx440_0;replace p440:=eq_true p440;replace q440:=eq_true q440))
       go_meet
       case rel=>exact⟨_,(((rd l0_0 a0_1) != 0)),(bR),H',⟨by first|omega|exact Nat.le_refl _⟩,⟨by(with_reducible repeat (first|refine blk_drewN ?_ _|refine blk_drew ?_|refine blk_alloc ?_ _));exact BK438.out⟩,⟨bS GE438.out⟩⟩
      ·rw[if_neg c11] at H
       exact absurd H (by simp)
     ·rw[if_neg c10] at H
      exact absurd H (by simp)
  ·replace c5:=Bool.eq_false_iff.mpr c5
   subst c5
   have H1:(spec_GoodSpray.j0 k true l0_0 a0_1 a0_2)=some r:=by rw[if_neg (show ¬ (false=true) by decide)] at H;exact H
   clear H
   have H:=H1
   clear H1
   have H':=am H
   clear H
   obtain⟨hcz13_0,hcz13_1,hcz13_2⟩:=cC3 BK438.out
   obtain⟨hfz13_0,hfz13_1,hfz13_2⟩:=cF3 BK438.out
   go_wp2_with (first|((with_reducible refine gate_callee (f:=75) rfl ?_);refine goesA (some 9) rfl rfl Try.func75 #[.int .i64 (l0_0.length:Int),.int .i64 2,.int .i64 8] rfl ?_;(with_reducible refine(spec_l1In.calls (l0_0.length:Int) 2 8 false _ A4.out).mono ?_);rintro e w' ⟨rfl,⟨nd,rfl⟩⟩;refine⟨_,rfl,?_⟩))
   go_meet
   case rel=>exact⟨_,(true),(bR),H',⟨by first|omega|exact Nat.le_refl _⟩,⟨by(with_reducible repeat (first|refine blk_drewN ?_ _|refine blk_drew ?_|refine blk_alloc ?_ _));exact BK438.out⟩,⟨bS GE438.out⟩⟩
 case rest =>
  clear HC2
  try clear c1
  try clear p2
  try clear c4
  try clear p4
  try clear q4
  try clear hx4
  try clear c5
  try clear c6
  try clear c6b0
  try clear c7
  try clear c8
  try clear c8b0
  try clear c10
  try clear c10b0
  try clear c11
  try clear c11b0
  try clear hcz12_0 hcz12_1 hcz12_2
  try clear hcz13_0 hcz13_1 hcz13_2
  try clear hcz7_0 hcz7_1 hcz7_2
  try clear hcz9_0 hcz9_1 hcz9_2
  try clear hfz12_0 hfz12_1 hfz12_2
  try clear hfz13_0 hfz13_1 hfz13_2
  try clear hfz7_0 hfz7_1 hfz7_2
  try clear hfz9_0 hfz9_1 hfz9_2
  try clear hx440_0
  try clear p440
  try clear q440
  obtain⟨kq,x32_1,rfl,HA,HJ1,BK438,HB⟩:=hcut
  cases kq with
  | zero=>exact absurd HA.out (by simp[spec_GoodSpray.j0])
  | succ kj1 =>
   have H:=HA.out
   clear HA
   simp only[spec_GoodSpray.j0] at H
   by_cases c14:x32_1=true
   ·subst c14
    have H1:(some false)=some r:=by rw[if_pos rfl] at H;exact H
    clear H
    have H:=H1
    clear H1
    obtain rfl:=Option.some.inj H
    go_wp2
    go_ret
    exact⟨bE,bS GE438.out⟩
   ·replace c14:=Bool.eq_false_iff.mpr c14
    subst c14
    have H1:(spec_GoodSpray.l0 kj1 0 l0_0 (l0_0.length:Int) 0)=some r:=by rw[if_neg (show ¬ (false=true) by decide)] at H;exact H
    clear H
    have H:=H1
    clear H1
    have H':=am H
    clear H
    obtain⟨hcz15_0,hcz15_1,hcz15_2⟩:=cC3 BK438.out
    obtain⟨hfz15_0,hfz15_1,hfz15_2⟩:=cF3 BK438.out
    go_wp2
    go_loopg [3,36] kj1 (fun kq v3 v36 w' => ∃ (x3_2:Int) (x36_2:Int),v3=.int .i64 x3_2∧v36=.int .i64 x36_2∧Aside0 (spec_GoodSpray.l0 kq x3_2 l0_0 (l0_0.length:Int) x36_2=some r)∧Aside0 (kq≤kj1)∧Aside0 (w'.heap[gb438]?=some (.cells #[(.slice A0_0 l0_0.length c0_0),.int .i64 a0_1,.bool a0_2] 62 (0,0)))∧Aside0 (Below w.heap.size w w'))
    case atStart=>exact⟨(0),(0),(bR),(bR),H',⟨Nat.le_refl _⟩,⟨by(with_reducible repeat (first|refine blk_drewN ?_ _|refine blk_drew ?_|refine blk_alloc ?_ _));exact BK438.out⟩,⟨bS GE438.out⟩⟩
    case round =>
     clear H'
     try clear c1
     try clear p2
     try clear c4
     try clear p4
     try clear q4
     try clear hx4
     try clear c5
     try clear c6
     try clear c6b0
     try clear c7
     try clear c8
     try clear c8b0
     try clear c10
     try clear c10b0
     try clear c11
     try clear c11b0
     try clear c14
     try clear hcz12_0 hcz12_1 hcz12_2
     try clear hcz13_0 hcz13_1 hcz13_2
     try clear hcz15_0 hcz15_1 hcz15_2
     try clear hcz7_0 hcz7_1 hcz7_2
     try clear hcz9_0 hcz9_1 hcz9_2
     try clear hfz12_0 hfz12_1 hfz12_2
     try clear hfz13_0 hfz13_1 hfz13_2
     try clear hfz15_0 hfz15_1 hfz15_2
     try clear hfz7_0 hfz7_1 hfz7_2
     try clear hfz9_0 hfz9_1 hfz9_2
     try clear hx440_0
     try clear p2
     try clear p4
     try clear p440
     try clear q4
     try clear q440
     obtain⟨x3_2,x36_2,rfl,rfl,HA,HK2,BK438,HB⟩:=hrel
     cases gk with
     | zero=>exact absurd HA.out (by simp[spec_GoodSpray.l0])
     | succ k2 =>
      have H:=HA.out
      clear HA
      simp only[spec_GoodSpray.l0] at H
      by_cases c16:x36_2 < (l0_0.length:Int)
      ·rw[if_pos c16] at H
       have c16b0:decide (x36_2 < (l0_0.length:Int))=true:=decide_eq_true c16
       clear c16
       by_cases c17:0≤x36_2
       ·rw[if_pos c17] at H
        have c17b0:decide (0≤x36_2)=true:=decide_eq_true c17
        clear c17
        by_cases c18:x36_2 < (l0_0.length:Int)
        ·rw[if_pos c18] at H
         have c18b0:decide (x36_2 < (l0_0.length:Int))=true:=decide_eq_true c18
         clear c18
         replace H:=bI_ H
         obtain⟨t442,A190,H⟩:=H
         have A19:=am A190
         clear A190
         by_cases c20:t442=true
         ·subst c20
          have H1:(spec_GoodSpray.l0 k2 (wrap64 (x3_2+(rd l0_0 x36_2))) l0_0 (l0_0.length:Int) (wrap64 (x36_2+1)))=some r:=by rw[if_pos rfl] at H;exact H
          clear H
          have H:=H1
          clear H1
          have H':=am H
          clear H
          have p441:0≤(x36_2:Int):=bD_
          have q441:x36_2 < (l0_0.length:Int):=bD_
          obtain⟨ad441,e441,hx441_0⟩:=Kd.at_int HR0_0.out x36_2 p441 q441
          cases e441
          replace hx441_0:=bQ_ HB.out hx441_0
          replace p441:=eq_true p441
          replace q441:=eq_true q441
          go_wp2_with (first|((with_reducible refine gate_callee (f:=75) rfl ?_);refine goesA (some 41) rfl rfl Try.func75 #[.int .i64 (rd l0_0 x36_2),.int .i64 0,.int .i64 64] rfl ?_;(with_reducible refine(spec_l1In.calls (rd l0_0 x36_2) 0 64 true _ A19.out).mono ?_);rintro e w' ⟨rfl,⟨nd,rfl⟩⟩;refine⟨_,rfl,?_⟩))
          go_roundg k2
          case measure=>have:=HJ1.out;have:=HK2.out;omega
          case rel=>exact⟨(wrap64 (x3_2+(rd l0_0 x36_2))),(wrap64 (x36_2+1)),(bR),(bR),H',⟨by have:=HJ1.out;have:=HK2.out;omega⟩,⟨by(with_reducible repeat (first|refine blk_drewN ?_ _|refine blk_drew ?_|refine blk_alloc ?_ _));exact BK438.out⟩,⟨bS GE438.out⟩⟩
         ·replace c20:=Bool.eq_false_iff.mpr c20
          subst c20
          have H1:(some false)=some r:=by rw[if_neg (show ¬ (false=true) by decide)] at H;exact H
          clear H
          have H:=H1
          clear H1
          obtain rfl:=Option.some.inj H
          have p441:0≤(x36_2:Int):=bD_
          have q441:x36_2 < (l0_0.length:Int):=bD_
          obtain⟨ad441,e441,hx441_0⟩:=Kd.at_int HR0_0.out x36_2 p441 q441
          cases e441
          replace hx441_0:=bQ_ HB.out hx441_0
          replace p441:=eq_true p441
          replace q441:=eq_true q441
          go_wp2_with (first|((with_reducible refine gate_callee (f:=75) rfl ?_);refine goesA (some 41) rfl rfl Try.func75 #[.int .i64 (rd l0_0 x36_2),.int .i64 0,.int .i64 64] rfl ?_;(with_reducible refine(spec_l1In.calls (rd l0_0 x36_2) 0 64 false _ A19.out).mono ?_);rintro e w' ⟨rfl,⟨nd,rfl⟩⟩;refine⟨_,rfl,?_⟩))
          go_ret
          exact⟨bE,bS GE438.out⟩
        ·rw[if_neg c18] at H
         exact absurd H (by simp)
       ·rw[if_neg c17] at H
        exact absurd H (by simp)
      ·rw[if_neg c16] at H
       have c16b0:decide (x36_2 < (l0_0.length:Int))=false:=decide_eq_false c16
       clear c16
       replace H:=bI_ H
       obtain⟨t443,A210,H⟩:=H
       have A21:=am A210
       clear A210
       obtain rfl:=Option.some.inj H
       go_wp2_with (first|((with_reducible refine gate_callee (f:=75) rfl ?_);refine goesA (some 48) rfl rfl Try.func75 #[.int .i64 x3_2,.int .i64 1,.int .i64 64] rfl ?_;(with_reducible refine(spec_l1In.calls x3_2 1 64 t443 _ A21.out).mono ?_);rintro e w' ⟨rfl,⟨nd,rfl⟩⟩;refine⟨_,rfl,?_⟩))
       go_ret
       exact⟨bE,bS GE438.out⟩

/-! ### spec_MeetBoth: function 47 -/
def spec_MeetBoth.f (k:Nat) (l0_0:List Int) (a0_1:Int) (a0_2:Bool) (a1_0:Int) (a1_1:Int):Option (List Int × Int × Bool × Bool):=(spec_GoodSpray.f k l0_0 a0_1 a0_2).bind fun t447=>(if t447=true then ((spec_l15Meet.f k l0_0 a0_1 a0_2 a1_0 a1_1).bind fun bt448=>(some (bt448.1,bt448.2.1,bt448.2.2.1,bt448.2.2.2))) else (some (([]:List Int),0,false,false)))
theorem spec_MeetBoth.mono : ∀ a0 a1 a2 a3 a4 k,LeO (spec_MeetBoth.f k a0 a1 a2 a3 a4) (spec_MeetBoth.f (k+1) a0 a1 a2 a3 a4):=by
 intro a0 a1 a2 a3 a4 k
 unfold spec_MeetBoth.f
 repeat' first
  | (with_reducible exact spec_GoodSpray.mono _ _ _ _)
  | (with_reducible exact spec_l15Meet.mono _ _ _ _ _ _)
  | (with_reducible exact LeO.refl _)
  | (with_reducible exact LeO.none _)
  | (with_reducible refine LeO.ite ?_ ?_)
  | (with_reducible refine LeO.bind ?_ (fun _ => ?_))
set_option maxHeartbeats 8000000 in
set_option maxRecDepth 100000 in
theorem spec_MeetBoth.calls (k:Nat) (A0_0:Option Addr) (c0_0:Nat) (l0_0:List Int) (a0_1:Int) (a0_2:Bool) (a1_0:Int) (a1_1:Int) (r1:List Int) (r2:Int) (r3:Bool) (r4:Bool) (w:World) (hr0_0:Kd.C (Kd.int .i64) w A0_0 l0_0.length l0_0) (hc0_0:l0_0.length≤c0_0) (h:spec_MeetBoth.f k l0_0 a0_1 a0_2 a1_0 a1_1=some (r1,r2,r3,r4)) :
  Calls Try.prog 47 #[.agg #[.slice A0_0 l0_0.length c0_0,.int .i64 a0_1,.bool a0_2],.agg #[.int .i64 a1_0,.int .i64 a1_1]] w fun e w' => ∃ v0_:Value,e=.returned (.tuple #[.agg #[v0_,.int .i64 r2,.bool r3],.bool r4])∧Kd.R (Kd.int .i64) 3 w' w.heap.size (fun _=>True) v0_ r1∧Below w.heap.size w w':=by
 have hu62:=Try.underlying62
 have hu72:=Try.underlying72
 have HR0_0:=am hr0_0
 have HC0_0:=am hc0_0
 clear hr0_0 hc0_0
 have HB:=am (Below.refl w.heap.size w)
 have H:((spec_GoodSpray.f k l0_0 a0_1 a0_2).bind fun t447=>(if t447=true then ((spec_l15Meet.f k l0_0 a0_1 a0_2 a1_0 a1_1).bind fun bt448=>(some (bt448.1,bt448.2.1,bt448.2.2.1,bt448.2.2.2))) else (some (([]:List Int),0,false,false))))=some (r1,r2,r3,r4):=h
 clear h
 replace H:=bI_ H
 obtain⟨t447,A30,H⟩:=H
 replace H:(if t447=true then ((spec_l15Meet.f k l0_0 a0_1 a0_2 a1_0 a1_1).bind fun bt448=>(some (bt448.1,bt448.2.1,bt448.2.2.1,bt448.2.2.2))) else (some (([]:List Int),0,false,false)))=some (r1,r2,r3,r4):=H
 have A3:=am A30
 clear A30
 by_cases c4:t447=true
 ·subst c4
  have H1:((spec_l15Meet.f k l0_0 a0_1 a0_2 a1_0 a1_1).bind fun bt448=>(some (bt448.1,bt448.2.1,bt448.2.2.1,bt448.2.2.2)))=some (r1,r2,r3,r4):=by rw[if_pos rfl] at H;exact H
  clear H
  have H:=H1
  clear H1
  replace H:=bI_ H
  obtain⟨⟨t448,t451,t452,t453⟩,A50,H⟩:=H
  replace H:(some (t448,t451,t452,t453))=some (r1,r2,r3,r4):=H
  have A5:=am A50
  clear A50
  simp only[Option.some.injEq,Prod.mk.injEq] at H
  obtain⟨rfl,rfl,rfl,rfl⟩:=H
  go_enter Try.func47,Try.ntmps47
  go_wp2_with (first|((with_reducible refine gate_dst (N:=2) rfl ?_);refine box_event ?hg (N:=2) ?hd (cs:=#[.slice A0_0 l0_0.length c0_0,.int .i64 a0_1,.bool a0_2]) (t:=62) ?hr ?_;(case hd=>rfl);(case hg=>rfl);(case hr=>first|(go_simp;done)|(go_simp;rfl));intro gb444 hg w6 hbox hb;have n0_:=am (below_step (bB) hb);have n1_:=am (hbox);have n2_:=am ((bG:w.heap.size≤gb444));have n3_:=am ((bG:w.heap.size≤gb444));clear HB;have HB:=n0_;have BK444:=n1_;have GW444:=n2_;have GE444:=n3_;clear n0_ n1_ n2_ n3_;clear hb hbox hg)|((with_reducible refine gate_dst (N:=3) rfl ?_);refine box_event ?hg (N:=3) ?hd (cs:=#[.int .i64 a1_0,.int .i64 a1_1]) (t:=72) ?hr ?_;(case hd=>rfl);(case hg=>rfl);(case hr=>first|(go_simp;done)|(go_simp;rfl));intro gb445 hg w7 hbox hb;have n0_:=am (bM BK444.out hb);have n1_:=am (below_step (bS GE444.out) hb);have n2_:=am (hbox);have n3_:=am ((by rw[hg];exact(below_size (bS GE444.out)):w.heap.size≤gb445));have n4_:=am ((by rw[hg];exact(below_size (bS GE444.out)):w.heap.size≤gb445));have n5_:=am ((bN BK444.out hg:gb444≠gb445));have n6_:=am ((bO BK444.out hg:gb445≠gb444));clear BK444 HB;have BK444:=n0_;have HB:=n1_;have BK445:=n2_;have GW445:=n3_;have GE445:=n4_;have NB444_445:=n5_;have NB445_444:=n6_;clear n0_ n1_ n2_ n3_ n4_ n5_ n6_;clear hb hbox hg)|((with_reducible refine gate_dst (N:=4) rfl ?_);refine box_event ?hg (N:=4) ?hd (cs:=#[.slice none 0 0,.int .i64 0,.bool false]) (t:=62) ?hr ?_;(case hd=>rfl);(case hg=>rfl);(case hr=>first|(go_simp;done)|(go_simp;rfl));intro gb446 hg w8 hbox hb;have n0_:=am (bM BK444.out hb);have n1_:=am (bM BK445.out hb);have n2_:=am (below_step (bS2 GE444.out GE445.out) hb);have n3_:=am (hbox);have n4_:=am ((by rw[hg];exact(below_size (bS2 GE444.out GE445.out)):w.heap.size≤gb446));have n5_:=am ((by rw[hg];exact(below_size (bS2 GE444.out GE445.out)):w.heap.size≤gb446));have n6_:=am ((bN BK444.out hg:gb444≠gb446));have n7_:=am ((bO BK444.out hg:gb446≠gb444));have n8_:=am ((bN BK445.out hg:gb445≠gb446));have n9_:=am ((bO BK445.out hg:gb446≠gb445));clear BK444 BK445 HB;have BK444:=n0_;have BK445:=n1_;have HB:=n2_;have BK446:=n3_;have GW446:=n4_;have GE446:=n5_;have NB444_446:=n6_;have NB446_444:=n7_;have NB445_446:=n8_;have NB446_445:=n9_;clear n0_ n1_ n2_ n3_ n4_ n5_ n6_ n7_ n8_ n9_;clear hb hbox hg;have hnb9:=NB444_445.out;have hnc9:=NB445_444.out;have hnb10:=NB444_446.out;have hnc10:=NB446_444.out;obtain⟨hcz11_0,hcz11_1,hcz11_2⟩:=cC3 BK444.out;obtain⟨hfz11_0,hfz11_1,hfz11_2⟩:=cF3 BK444.out)|((with_reducible refine gate_callee (f:=48) rfl ?_);refine goesA (some 7) rfl rfl Try.func48 #[.agg #[.slice A0_0 l0_0.length c0_0,.int .i64 a0_1,.bool a0_2]] rfl ?_;(with_reducible refine(spec_GoodSpray.calls k _ _ l0_0 a0_1 a0_2 true _ ?side1 ?side2 A3.out).mono ?_);(case side1=>exact bC HR0_0.out);(case side2=>exact HC0_0.out);rintro e w12 ⟨rfl,hb⟩;refine⟨_,rfl,?_⟩;have n0_:=am (bM BK444.out hb);have n1_:=am (bM BK445.out hb);have n2_:=am (bM BK446.out hb);have n3_:=am (below_step (bS3 GE444.out GE445.out GE446.out) hb);clear BK444 BK445 BK446 HB;have BK444:=n0_;have BK445:=n1_;have BK446:=n2_;have HB:=n3_;clear n0_ n1_ n2_ n3_;(try clear hb);(try clear hb2);(try clear hk);(try clear hi);obtain⟨hcz13_0,hcz13_1,hcz13_2⟩:=cC3 BK444.out;obtain⟨hfz13_0,hfz13_1,hfz13_2⟩:=cF3 BK444.out;have hnb14:=NB445_446.out;have hnc14:=NB446_445.out;obtain⟨hcz15_0,hcz15_1⟩:=cC2 BK445.out;obtain⟨hfz15_0,hfz15_1⟩:=cF2 BK445.out)|((with_reducible refine gate_callee (f:=109) rfl ?_);refine goesA (some 12) rfl rfl Try.func109 #[.agg #[.slice A0_0 l0_0.length c0_0,.int .i64 a0_1,.bool a0_2],.agg #[.int .i64 a1_0,.int .i64 a1_1]] rfl ?_;(with_reducible refine(spec_l15Meet.calls k _ _ l0_0 a0_1 a0_2 a1_0 a1_1 t448 t451 t452 t453 _ ?side1 ?side2 A5.out).mono ?_);(case side1=>exact bC HR0_0.out);(case side2=>exact HC0_0.out);rintro e w16 ⟨v449,rfl,ho0,hb⟩;refine⟨_,rfl,?_⟩;have n0_:=am (Kd.R_lower ho0 (below_size (bS3 GE444.out GE445.out GE446.out)));have n1_:=am (bM BK444.out hb);have n2_:=am (bM BK445.out hb);have n3_:=am (bM BK446.out hb);have n4_:=am (below_step (bS3 GE444.out GE445.out GE446.out) hb);clear BK444 BK445 BK446 HB;have HO450:=n0_;have BK444:=n1_;have BK445:=n2_;have BK446:=n3_;have HB:=n4_;clear n0_ n1_ n2_ n3_ n4_;(try clear hb);(try clear hb2);(try clear hk);(try clear hi);(try clear ho0);obtain⟨Ao17,co17,eo17⟩:=Kd.R_slice HO450.out;subst eo17;obtain⟨hcz18_0,hcz18_1,hcz18_2⟩:=cC3 BK446.out;obtain⟨hfz18_0,hfz18_1,hfz18_2⟩:=cF3 BK446.out))
  refine bodyPost_ret (results_ct rfl _ _ gb446 62 #[.slice Ao17 t448.length co17,.int .i64 t451,.bool t452] (0,0) _ rfl (by(with_reducible repeat (first|refine blk_drewN ?_ _|refine blk_drew ?_|refine blk_alloc ?_ _));apply bU3;(with_reducible repeat (first|refine blk_drewN ?_ _|refine blk_drew ?_|refine blk_alloc ?_ _));exact BK446.out) Try.underlying62 rfl (b4_)) rfl ?_
  exact⟨_,by first|rfl|(simp[errW_none,errW_some]<;>rfl)|(simp[*,errW_none,errW_some]<;>rfl),by(with_reducible repeat (first|apply Kd.R_alloc|apply Kd.R_drewN|apply Kd.R_drew));exact Kd.R_mono (Kd.R_far (p:=⟨gb446,2,none⟩) (Kd.R_far (p:=⟨gb446,1,none⟩) (Kd.R_far (p:=⟨gb446,0,none⟩) (Kd.R_types HO450.out BK446.out (b17_)) (fun _ hk=>hk.2) (.slice Ao17 t448.length co17)) (fun _ hk=>hk.2) (.int .i64 t451)) (fun _ hk=>hk.2) (.bool t452)) (fun _ hk=>trivial),bS3 GE444.out GE445.out GE446.out⟩
 ·replace c4:=Bool.eq_false_iff.mpr c4
  subst c4
  have H1:(some (([]:List Int),0,false,false))=some (r1,r2,r3,r4):=by rw[if_neg (show ¬ (false=true) by decide)] at H;exact H
  clear H
  have H:=H1
  clear H1
  simp only[Option.some.injEq,Prod.mk.injEq] at H
  obtain⟨rfl,rfl,rfl,rfl⟩:=H
  go_enter Try.func47,Try.ntmps47
  go_wp2_with (first|((with_reducible refine gate_dst (N:=2) rfl ?_);refine box_event ?hg (N:=2) ?hd (cs:=#[.slice A0_0 l0_0.length c0_0,.int .i64 a0_1,.bool a0_2]) (t:=62) ?hr ?_;(case hd=>rfl);(case hg=>rfl);(case hr=>first|(go_simp;done)|(go_simp;rfl));intro gb444 hg w19 hbox hb;have n0_:=am (below_step (bB) hb);have n1_:=am (hbox);have n2_:=am ((bG:w.heap.size≤gb444));have n3_:=am ((bG:w.heap.size≤gb444));clear HB;have HB:=n0_;have BK444:=n1_;have GW444:=n2_;have GE444:=n3_;clear n0_ n1_ n2_ n3_;clear hb hbox hg)|((with_reducible refine gate_dst (N:=3) rfl ?_);refine box_event ?hg (N:=3) ?hd (cs:=#[.int .i64 a1_0,.int .i64 a1_1]) (t:=72) ?hr ?_;(case hd=>rfl);(case hg=>rfl);(case hr=>first|(go_simp;done)|(go_simp;rfl));intro gb445 hg w20 hbox hb;have n0_:=am (bM BK444.out hb);have n1_:=am (below_step (bS GE444.out) hb);have n2_:=am (hbox);have n3_:=am ((by rw[hg];exact(below_size (bS GE444.out)):w.heap.size≤gb445));have n4_:=am ((by rw[hg];exact(below_size (bS GE444.out)):w.heap.size≤gb445));have n5_:=am ((bN BK444.out hg:gb444≠gb445));have n6_:=am ((bO BK444.out hg:gb445≠gb444));clear BK444 HB;have BK444:=n0_;have HB:=n1_;have BK445:=n2_;have GW445:=n3_;have GE445:=n4_;have NB444_445:=n5_;have NB445_444:=n6_;clear n0_ n1_ n2_ n3_ n4_ n5_ n6_;clear hb hbox hg)|((with_reducible refine gate_dst (N:=4) rfl ?_);refine box_event ?hg (N:=4) ?hd (cs:=#[.slice none 0 0,.int .i64 0,.bool false]) (t:=62) ?hr ?_;(case hd=>rfl);(case hg=>rfl);(case hr=>first|(go_simp;done)|(go_simp;rfl));intro gb446 hg w21 hbox hb;have n0_:=am (bM BK444.out hb);have n1_:=am (bM BK445.out hb);have n2_:=am (below_step (bS2 GE444.out GE445.out) hb);have n3_:=am (hbox);have n4_:=am ((by rw[hg];exact(below_size (bS2 GE444.out GE445.out)):w.heap.size≤gb446));have n5_:=am ((by rw[hg];exact(below_size (bS2 GE444.out GE445.out)):w.heap.size≤gb446));have n6_:=am ((bN BK444.out hg:gb444≠gb446));have n7_:=am ((bO BK444.out hg:gb446≠gb444));have n8_:=am ((bN BK445.out hg:gb445≠gb446));have n9_:=am ((bO BK445.out hg:gb446≠gb445));clear BK444 BK445 HB;have BK444:=n0_;have BK445:=n1_;have HB:=n2_;have BK446:=n3_;have GW446:=n4_;have GE446:=n5_;have NB444_446:=n6_;have NB446_444:=n7_;have NB445_446:=n8_;have NB446_445:=n9_;clear n0_ n1_ n2_ n3_ n4_ n5_ n6_ n7_ n8_ n9_;clear hb hbox hg;have hnb22:=NB444_445.out;have hnc22:=NB445_444.out;have hnb23:=NB444_446.out;have hnc23:=NB446_444.out;obtain⟨hcz24_0,hcz24_1,hcz24_2⟩:=cC3 BK444.out;obtain⟨hfz24_0,hfz24_1,hfz24_2⟩:=cF3 BK444.out)|((with_reducible refine gate_callee (f:=48) rfl ?_);refine goesA (some 7) rfl rfl Try.func48 #[.agg #[.slice A0_0 l0_0.length c0_0,.int .i64 a0_1,.bool a0_2]] rfl ?_;(with_reducible refine(spec_GoodSpray.calls k _ _ l0_0 a0_1 a0_2 false _ ?side1 ?side2 A3.out).mono ?_);(case side1=>exact bC HR0_0.out);(case side2=>exact HC0_0.out);rintro e w25 ⟨rfl,hb⟩;refine⟨_,rfl,?_⟩;have n0_:=am (bM BK444.out hb);have n1_:=am (bM BK445.out hb);have n2_:=am (bM BK446.out hb);have n3_:=am (below_step (bS3 GE444.out GE445.out GE446.out) hb);clear BK444 BK445 BK446 HB;have BK444:=n0_;have BK445:=n1_;have BK446:=n2_;have HB:=n3_;clear n0_ n1_ n2_ n3_;(try clear hb);(try clear hb2);(try clear hk);(try clear hi);have hnb26:=NB446_445.out;have hnc26:=NB445_446.out;obtain⟨hcz27_0,hcz27_1,hcz27_2⟩:=cC3 BK446.out;obtain⟨hfz27_0,hfz27_1,hfz27_2⟩:=cF3 BK446.out))
  refine bodyPost_ret (results_ct rfl _ _ gb446 62 #[.slice none 0 0,.int .i64 0,.bool false] (0,0) _ rfl (by(with_reducible repeat (first|refine blk_drewN ?_ _|refine blk_drew ?_|refine blk_alloc ?_ _));apply bU3;(with_reducible repeat (first|refine blk_drewN ?_ _|refine blk_drew ?_|refine blk_alloc ?_ _));exact BK446.out) Try.underlying62 rfl (b4_)) rfl ?_
  exact⟨_,by first|rfl|(simp[errW_none,errW_some]<;>rfl)|(simp[*,errW_none,errW_some]<;>rfl),by first|exact Kd.R_nil _ _ _ _ _|exact Kd.N_nil _ _ _ _ _|exact Kd.V_nil _ _ _ _ _|exact Kd.Q_nil _ _ _ _ _|exact Kd.S_nil _ _ _ _ _,bS3 GE444.out GE445.out GE446.out⟩

end Go.Proofs.Yteneeohaoplpbaa.XFnSpray
