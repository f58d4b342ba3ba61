-- Written by this session's own program (wip/xprint.py) out of the translation; Lean checks it.
import Derived.Test.YtnphabcbnpenjaaXFnExactMeetBothx0
import Derived.Test.YtnphabcbnpenjaaXFnExactMeetBothx1
namespace Go.Proofs.Ytnphabcbnpenjaa.XFnExactMeetBoth
open Go.RowKit Go.Proofs.YtnphabcbnpenjaaW.PrintWords Go.Proofs.YtnphabcbnpenjaaW.PrintLast Go.Proofs.YtnphabcbnpenjaaW.PrintMore
attribute [local go_sem] max2_int min2_int max_two min_two max_three min_three max_four min_four   -- for this text's walks alone
set_option linter.unusedVariables false
set_option linter.unusedSimpArgs false

/-! ### spec_GoodSpray: function 99 -/
mutual
def spec_GoodSpray.j0:Nat→Bool→List Int→Int→Bool→Option (Bool)
 | 0,_,_,_,_=>none
 | k+1,x32,x124000,x124001,x124002=>if x32=true then (some false) else (spec_GoodSpray.l0 k 0 x124000 (x124000.length:Int) 0)
def spec_GoodSpray.l0:Nat→Int→List Int→Int→Int→Option (Bool)
 | 0,_,_,_,_=>none
 | k+1,x3,x34,x35,x36=>if x36 < x35 then (if 0≤x36 then (if x36 < (x34.length:Int) then ((spec_l1In.f (rd x34 x36) 0 64).bind fun t127=>(if t127=true then (spec_GoodSpray.l0 k (wrap64 (x3+(rd x34 x36))) x34 x35 (wrap64 (x36+1))) else (some false))) else (none)) else (none)) else ((spec_l1In.f x3 1 64).bind fun t128=>(some t128))
end
def spec_GoodSpray.f (k:Nat) (l0_0:List Int) (a0_1:Int) (a0_2:Bool):Option (Bool):=(spec_l1In.f (l0_0.length:Int) 2 8).bind fun t124=>(if t124=true then (if a0_1 < 0 then (spec_GoodSpray.j0 k true l0_0 a0_1 a0_2) else (if a0_1 ≥ (l0_0.length:Int) then (spec_GoodSpray.j0 k true l0_0 a0_1 a0_2) else (if 0≤a0_1 then (if a0_1 < (l0_0.length:Int) then (spec_GoodSpray.j0 k ((rd l0_0 a0_1) != 0) l0_0 a0_1 a0_2) else (none)) else (none)))) else (spec_GoodSpray.j0 k true l0_0 a0_1 a0_2))
theorem spec_GoodSpray.mono_l : ∀ k,(∀ y0 y1 y2 y3,LeO (spec_GoodSpray.j0 k y0 y1 y2 y3) (spec_GoodSpray.j0 (k+1) y0 y1 y2 y3))∧(∀ y0 y1 y2 y3,LeO (spec_GoodSpray.l0 k y0 y1 y2 y3) (spec_GoodSpray.l0 (k+1) y0 y1 y2 y3))
 | 0=>⟨fun _ _ _ _ r h=>by simp[spec_GoodSpray.j0] at h,fun _ _ _ _ r h=>by simp[spec_GoodSpray.l0] at h⟩
 | k+1=>by
  obtain⟨ih0,ih1⟩:=spec_GoodSpray.mono_l k
  refine⟨?_,?_⟩
  ·intro y0 y1 y2 y3
   unfold spec_GoodSpray.j0
   repeat' first
   | (with_reducible exact ih0 _ _ _ _)
   | (with_reducible exact ih1 _ _ _ _)
   | (with_reducible exact LeO.refl _)
   | (with_reducible exact LeO.none _)
   | (with_reducible refine LeO.ite ?_ ?_)
   | (with_reducible refine LeO.bind ?_ (fun _ => ?_))
   | exact ih0 _ _ _ _
   | exact ih1 _ _ _ _
   | exact LeO.none _
   | refine LeO.ite ?_ ?_
   | refine LeO.bind ?_ (fun _ => ?_)
  ·intro y0 y1 y2 y3
   unfold spec_GoodSpray.l0
   repeat' first
   | (with_reducible exact ih0 _ _ _ _)
   | (with_reducible exact ih1 _ _ _ _)
   | (with_reducible exact LeO.refl _)
   | (with_reducible exact LeO.none _)
   | (with_reducible refine LeO.ite ?_ ?_)
   | (with_reducible refine LeO.bind ?_ (fun _ => ?_))
   | exact ih0 _ _ _ _
   | exact ih1 _ _ _ _
   | exact LeO.none _
   | refine LeO.ite ?_ ?_
   | refine LeO.bind ?_ (fun _ => ?_)
theorem spec_GoodSpray.mono : ∀ a0 a1 a2 k,LeO (spec_GoodSpray.f k a0 a1 a2) (spec_GoodSpray.f (k+1) a0 a1 a2):=by
 intro a0 a1 a2 k
 obtain⟨ih0,ih1⟩:=spec_GoodSpray.mono_l k
 unfold spec_GoodSpray.f
 repeat' first
  | (with_reducible exact ih0 _ _ _ _)
  | (with_reducible exact ih1 _ _ _ _)
  | (with_reducible exact LeO.refl _)
  | (with_reducible exact LeO.none _)
  | (with_reducible refine LeO.ite ?_ ?_)
  | (with_reducible refine LeO.bind ?_ (fun _ => ?_))
  | exact ih0 _ _ _ _
  | exact ih1 _ _ _ _
  | exact LeO.none _
  | refine LeO.ite ?_ ?_
  | refine LeO.bind ?_ (fun _ => ?_)
set_option maxHeartbeats 8000000 in
set_option maxRecDepth 100000 in
theorem spec_GoodSpray.calls (k:Nat) (A0_0:Option Addr) (c0_0:Nat) (l0_0:List Int) (a0_1:Int) (a0_2:Bool) (r:Bool) (w:World) (hr0_0:Kd.C (Kd.int .i64) w A0_0 l0_0.length l0_0) (hc0_0:l0_0.length≤c0_0) (h:spec_GoodSpray.f k l0_0 a0_1 a0_2=some r) :
  Calls Try.prog 99 #[.agg #[.slice A0_0 l0_0.length c0_0,.int .i64 a0_1,.bool a0_2]] w fun e w'=>e=.returned (.bool r)∧Below w.heap.size w w':=by
 have hu39:=Try.underlying39
 have HR0_0:=Aside0.mk hr0_0
 have HC0_0:=Aside0.mk hc0_0
 clear hr0_0 hc0_0
 have HB:=Aside0.mk (Below.refl w.heap.size w)
 have H:((spec_l1In.f (l0_0.length:Int) 2 8).bind fun t124=>(if t124=true then (if a0_1 < 0 then (spec_GoodSpray.j0 k true l0_0 a0_1 a0_2) else (if a0_1 ≥ (l0_0.length:Int) then (spec_GoodSpray.j0 k true l0_0 a0_1 a0_2) else (if 0≤a0_1 then (if a0_1 < (l0_0.length:Int) then (spec_GoodSpray.j0 k ((rd l0_0 a0_1) != 0) l0_0 a0_1 a0_2) else (none)) else (none)))) else (spec_GoodSpray.j0 k true l0_0 a0_1 a0_2)))=some r:=h
 clear h
 have HC2:=Aside0.mk H
 clear H
 go_enter Try.func99,Try.ntmps99
 go_upto_region 1 with (first|((with_reducible refine gate_dst (N:=1) rfl ?_);(try (refine gate_guard (by rfl) ?_;dsimp only));refine box_event ?hg (N:=1) ?hd (cs:=#[.slice A0_0 l0_0.length c0_0,.int .i64 a0_1,.bool a0_2]) (t:=39) ?hr ?_;(case hd=>rfl);(case hg=>rfl);(case hr=>first|(go_simp;done)|(go_simp;rfl));intro gb123 hg w3 hbox hb;have n0_:=Aside0.mk (below_step (bB) hb);have n1_:=Aside0.mk (hbox);have n2_:=Aside0.mk ((bG:w.heap.size≤gb123));have n3_:=Aside0.mk ((bG:w.heap.size≤gb123));clear HB;have HB:=n0_;have BK123:=n1_;have GW123:=n2_;have GE123:=n3_;clear n0_ n1_ n2_ n3_;clear hb hbox hg))
 (try simp only[Act.put,List.setIfInBounds_toArray,List.set_cons_zero,List.set_cons_succ])
 go_cut [32] (fun v32 wc => ∃ (kq:Nat) (x32_1:Bool),v32=.bool x32_1∧Aside0 (spec_GoodSpray.j0 kq x32_1 l0_0 a0_1 a0_2=some r)∧Aside0 (kq≤k)∧Aside0 (wc.heap[gb123]?=some (.cells #[(.slice A0_0 l0_0.length c0_0),.int .i64 a0_1,.bool a0_2] 39 (0,0)))∧Aside0 (Below w.heap.size w wc))
 case first =>
  have H:=HC2.out
  clear HC2
  replace H:=Option.bind_eq_some_iff.mp H
  obtain⟨t124,A40,H⟩:=H
  have A4:=Aside0.mk A40
  clear A40
  by_cases c5:t124=true
  ·subst c5
   have H1:(if a0_1 < 0 then (spec_GoodSpray.j0 k true l0_0 a0_1 a0_2) else (if a0_1 ≥ (l0_0.length:Int) then (spec_GoodSpray.j0 k true l0_0 a0_1 a0_2) else (if 0≤a0_1 then (if a0_1 < (l0_0.length:Int) then (spec_GoodSpray.j0 k ((rd l0_0 a0_1) != 0) l0_0 a0_1 a0_2) else (none)) else (none))))=some r:=by rw[if_pos rfl] at H;exact H
   clear H
   have H:=H1
   clear H1
   by_cases c6:a0_1 < 0
   ·rw[if_pos c6] at H
    have c6b0:decide (a0_1 < 0)=true:=decide_eq_true c6
    clear c6
    (first|rw[c6b0]|(simp only[i64_w,i32_w];rw[c6b0])|skip)
    have H':=Aside0.mk H
    clear H
    obtain⟨hcz7_0,hcz7_1,hcz7_2⟩:=cC3 BK123.out
    obtain⟨hfz7_0,hfz7_1,hfz7_2⟩:=cF3 BK123.out
    go_wp2_with (first|((with_reducible refine gate_callee (f:=91) rfl ?_);refine goesA (some 9) rfl rfl Try.func91 #[.int .i64 (l0_0.length:Int),.int .i64 2,.int .i64 8] rfl ?_;(with_reducible refine(spec_l1In.calls (l0_0.length:Int) 2 8 true _ A4.out).mono ?_);rintro e w' ⟨rfl,⟨nd,rfl⟩⟩;refine⟨_,rfl,?_⟩))
    go_meet
    case rel=>exact⟨_,(true),(bR),H',⟨by first|omega|exact Nat.le_refl _⟩,⟨by(with_reducible repeat (first|refine blk_drewN ?_ _|refine blk_drew ?_|refine blk_alloc ?_ _));exact BK123.out⟩,⟨bS GE123.out⟩⟩
   ·rw[if_neg c6] at H
    have c6b0:decide (a0_1 < 0)=false:=decide_eq_false c6
    clear c6
    (first|rw[c6b0]|(simp only[i64_w,i32_w];rw[c6b0])|skip)
    by_cases c8:a0_1 ≥ (l0_0.length:Int)
    ·rw[if_pos c8] at H
     have c8b0:decide ((l0_0.length:Int)≤a0_1)=true:=decide_eq_true c8
     clear c8
     have H':=Aside0.mk H
     clear H
     obtain⟨hcz9_0,hcz9_1,hcz9_2⟩:=cC3 BK123.out
     obtain⟨hfz9_0,hfz9_1,hfz9_2⟩:=cF3 BK123.out
     go_wp2_with (first|((with_reducible refine gate_callee (f:=91) rfl ?_);refine goesA (some 9) rfl rfl Try.func91 #[.int .i64 (l0_0.length:Int),.int .i64 2,.int .i64 8] rfl ?_;(with_reducible refine(spec_l1In.calls (l0_0.length:Int) 2 8 true _ A4.out).mono ?_);rintro e w' ⟨rfl,⟨nd,rfl⟩⟩;refine⟨_,rfl,?_⟩))
     go_meet
     case rel=>exact⟨_,(true),(bR),H',⟨by first|omega|exact Nat.le_refl _⟩,⟨by(with_reducible repeat (first|refine blk_drewN ?_ _|refine blk_drew ?_|refine blk_alloc ?_ _));exact BK123.out⟩,⟨bS GE123.out⟩⟩
    ·rw[if_neg c8] at H
     have c8b0:decide ((l0_0.length:Int)≤a0_1)=false:=decide_eq_false c8
     clear c8
     by_cases c10:0≤a0_1
     ·rw[if_pos c10] at H
      have c10b0:decide (0≤a0_1)=true:=decide_eq_true c10
      clear c10
      by_cases c11:a0_1 < (l0_0.length:Int)
      ·rw[if_pos c11] at H
       have c11b0:decide (a0_1 < (l0_0.length:Int))=true:=decide_eq_true c11
       clear c11
       have H':=Aside0.mk H
       clear H
       obtain⟨hcz12_0,hcz12_1,hcz12_2⟩:=cC3 BK123.out
       obtain⟨hfz12_0,hfz12_1,hfz12_2⟩:=cF3 BK123.out
       go_wp2_with (first|((with_reducible refine gate_callee (f:=91) rfl ?_);refine goesA (some 9) rfl rfl Try.func91 #[.int .i64 (l0_0.length:Int),.int .i64 2,.int .i64 8] rfl ?_;(with_reducible refine(spec_l1In.calls (l0_0.length:Int) 2 8 true _ A4.out).mono ?_);rintro e w' ⟨rfl,⟨nd,rfl⟩⟩;refine⟨_,rfl,?_⟩;have p125:0≤(a0_1:Int):=of_decide_eq_true (bD);have q125:a0_1 < (l0_0.length:Int):=of_decide_eq_true (bD);obtain⟨ad125,e125,hx125_0⟩:=Kd.at_int HR0_0.out a0_1 p125 q125;cases e125;replace hx125_0:=(HB.out.cell (World.block_lt_of_cell? w _ hx125_0)).trans hx125_0;replace p125:=eq_true p125;replace q125:=eq_true q125))
       go_meet
       case rel=>exact⟨_,(((rd l0_0 a0_1) != 0)),(bR),H',⟨by first|omega|exact Nat.le_refl _⟩,⟨by(with_reducible repeat (first|refine blk_drewN ?_ _|refine blk_drew ?_|refine blk_alloc ?_ _));exact BK123.out⟩,⟨bS GE123.out⟩⟩
      ·rw[if_neg c11] at H
       exact absurd H (by simp)
     ·rw[if_neg c10] at H
      exact absurd H (by simp)
  ·replace c5:=Bool.eq_false_iff.mpr c5
   subst c5
   have H1:(spec_GoodSpray.j0 k true l0_0 a0_1 a0_2)=some r:=by rw[if_neg (show ¬ (false=true) by decide)] at H;exact H
   clear H
   have H:=H1
   clear H1
   have H':=Aside0.mk H
   clear H
   obtain⟨hcz13_0,hcz13_1,hcz13_2⟩:=cC3 BK123.out
   obtain⟨hfz13_0,hfz13_1,hfz13_2⟩:=cF3 BK123.out
   go_wp2_with (first|((with_reducible refine gate_callee (f:=91) rfl ?_);refine goesA (some 9) rfl rfl Try.func91 #[.int .i64 (l0_0.length:Int),.int .i64 2,.int .i64 8] rfl ?_;(with_reducible refine(spec_l1In.calls (l0_0.length:Int) 2 8 false _ A4.out).mono ?_);rintro e w' ⟨rfl,⟨nd,rfl⟩⟩;refine⟨_,rfl,?_⟩))
   go_meet
   case rel=>exact⟨_,(true),(bR),H',⟨by first|omega|exact Nat.le_refl _⟩,⟨by(with_reducible repeat (first|refine blk_drewN ?_ _|refine blk_drew ?_|refine blk_alloc ?_ _));exact BK123.out⟩,⟨bS GE123.out⟩⟩
 case rest =>
  clear HC2
  try clear c1
  try clear p1
  try clear q1
  try clear hx1
  try clear p2
  try clear c5
  try clear c6
  try clear c6b0
  try clear c8
  try clear c8b0
  try clear c9
  try clear c10
  try clear c10b0
  try clear c11
  try clear c11b0
  try clear p12
  try clear q12
  try clear hx12
  try clear hcz12_0
  try clear hcz12_1
  try clear hcz12_2
  try clear hcz13_0
  try clear hcz13_1
  try clear hcz13_2
  try clear hcz7_0
  try clear hcz7_1
  try clear hcz7_2
  try clear hcz9_0
  try clear hcz9_1
  try clear hcz9_2
  try clear hfz12_0
  try clear hfz12_1
  try clear hfz12_2
  try clear hfz13_0
  try clear hfz13_1
  try clear hfz13_2
  try clear hfz7_0
  try clear hfz7_1
  try clear hfz7_2
  try clear hfz9_0
  try clear hfz9_1
  try clear hfz9_2
  try clear hx125_0
  try clear p125
  try clear q125
  obtain⟨kq,x32_1,rfl,HA,HJ1,BK123,HB⟩:=hcut
  cases kq with
  | zero=>exact absurd HA.out (by simp[spec_GoodSpray.j0])
  | succ kj1 =>
   have H:=HA.out
   clear HA
   simp only[spec_GoodSpray.j0] at H
   by_cases c14:x32_1=true
   ·subst c14
    have H1:(some false)=some r:=by rw[if_pos rfl] at H;exact H
    clear H
    have H:=H1
    clear H1
    obtain rfl:=Option.some.inj H
    go_wp2
    go_ret
    exact⟨bE,bS GE123.out⟩
   ·replace c14:=Bool.eq_false_iff.mpr c14
    subst c14
    have H1:(spec_GoodSpray.l0 kj1 0 l0_0 (l0_0.length:Int) 0)=some r:=by rw[if_neg (show ¬ (false=true) by decide)] at H;exact H
    clear H
    have H:=H1
    clear H1
    have H':=Aside0.mk H
    clear H
    obtain⟨hcz15_0,hcz15_1,hcz15_2⟩:=cC3 BK123.out
    obtain⟨hfz15_0,hfz15_1,hfz15_2⟩:=cF3 BK123.out
    go_wp2
    go_loopg [3,36] kj1 (fun kq v3 v36 w' => ∃ (x3_2:Int) (x36_2:Int),v3=.int .i64 x3_2∧v36=.int .i64 x36_2∧Aside0 (spec_GoodSpray.l0 kq x3_2 l0_0 (l0_0.length:Int) x36_2=some r)∧Aside0 (kq≤kj1)∧Aside0 (w'.heap[gb123]?=some (.cells #[(.slice A0_0 l0_0.length c0_0),.int .i64 a0_1,.bool a0_2] 39 (0,0)))∧Aside0 (Below w.heap.size w w'))
    case atStart=>exact⟨(0),(0),(bR),(bR),H',⟨Nat.le_refl _⟩,⟨by(with_reducible repeat (first|refine blk_drewN ?_ _|refine blk_drew ?_|refine blk_alloc ?_ _));exact BK123.out⟩,⟨bS GE123.out⟩⟩
    case round =>
     clear H'
     try clear c1
     try clear p1
     try clear q1
     try clear hx1
     try clear p2
     try clear c5
     try clear c6
     try clear c6b0
     try clear c8
     try clear c8b0
     try clear c9
     try clear c10
     try clear c10b0
     try clear c11
     try clear c11b0
     try clear p12
     try clear q12
     try clear hx12
     try clear c14
     try clear hcz12_0
     try clear hcz12_1
     try clear hcz12_2
     try clear hcz13_0
     try clear hcz13_1
     try clear hcz13_2
     try clear hcz15_0
     try clear hcz15_1
     try clear hcz15_2
     try clear hcz7_0
     try clear hcz7_1
     try clear hcz7_2
     try clear hcz9_0
     try clear hcz9_1
     try clear hcz9_2
     try clear hfz12_0
     try clear hfz12_1
     try clear hfz12_2
     try clear hfz13_0
     try clear hfz13_1
     try clear hfz13_2
     try clear hfz15_0
     try clear hfz15_1
     try clear hfz15_2
     try clear hfz7_0
     try clear hfz7_1
     try clear hfz7_2
     try clear hfz9_0
     try clear hfz9_1
     try clear hfz9_2
     try clear hx125_0
     try clear p1
     try clear p12
     try clear p125
     try clear p2
     try clear q1
     try clear q12
     try clear q125
     obtain⟨x3_2,x36_2,rfl,rfl,HA,HK2,BK123,HB⟩:=hrel
     cases gk with
     | zero=>exact absurd HA.out (by simp[spec_GoodSpray.l0])
     | succ k2 =>
      have H:=HA.out
      clear HA
      simp only[spec_GoodSpray.l0] at H
      by_cases c16:x36_2 < (l0_0.length:Int)
      ·rw[if_pos c16] at H
       have c16b0:decide (x36_2 < (l0_0.length:Int))=true:=decide_eq_true c16
       clear c16
       by_cases c17:0≤x36_2
       ·rw[if_pos c17] at H
        have c17b0:decide (0≤x36_2)=true:=decide_eq_true c17
        clear c17
        by_cases c18:x36_2 < (l0_0.length:Int)
        ·rw[if_pos c18] at H
         have c18b0:decide (x36_2 < (l0_0.length:Int))=true:=decide_eq_true c18
         clear c18
         replace H:=Option.bind_eq_some_iff.mp H
         obtain⟨t127,A190,H⟩:=H
         have A19:=Aside0.mk A190
         clear A190
         by_cases c20:t127=true
         ·subst c20
          have H1:(spec_GoodSpray.l0 k2 (wrap64 (x3_2+(rd l0_0 x36_2))) l0_0 (l0_0.length:Int) (wrap64 (x36_2+1)))=some r:=by rw[if_pos rfl] at H;exact H
          clear H
          have H:=H1
          clear H1
          have H':=Aside0.mk H
          clear H
          have p126:0≤(x36_2:Int):=of_decide_eq_true (bD)
          have q126:x36_2 < (l0_0.length:Int):=of_decide_eq_true (bD)
          obtain⟨ad126,e126,hx126_0⟩:=Kd.at_int HR0_0.out x36_2 p126 q126
          cases e126
          replace hx126_0:=(HB.out.cell (World.block_lt_of_cell? w _ hx126_0)).trans hx126_0
          replace p126:=eq_true p126
          replace q126:=eq_true q126
          go_wp2_with (first|((with_reducible refine gate_callee (f:=91) rfl ?_);refine goesA (some 41) rfl rfl Try.func91 #[.int .i64 (rd l0_0 x36_2),.int .i64 0,.int .i64 64] rfl ?_;(with_reducible refine(spec_l1In.calls (rd l0_0 x36_2) 0 64 true _ A19.out).mono ?_);rintro e w' ⟨rfl,⟨nd,rfl⟩⟩;refine⟨_,rfl,?_⟩))
          go_roundg k2
          case measure=>have:=HJ1.out;have:=HK2.out;omega
          case rel=>exact⟨(wrap64 (x3_2+(rd l0_0 x36_2))),(wrap64 (x36_2+1)),(bR),(bR),H',⟨by have:=HJ1.out;have:=HK2.out;omega⟩,⟨by(with_reducible repeat (first|refine blk_drewN ?_ _|refine blk_drew ?_|refine blk_alloc ?_ _));exact BK123.out⟩,⟨bS GE123.out⟩⟩
         ·replace c20:=Bool.eq_false_iff.mpr c20
          subst c20
          have H1:(some false)=some r:=by rw[if_neg (show ¬ (false=true) by decide)] at H;exact H
          clear H
          have H:=H1
          clear H1
          obtain rfl:=Option.some.inj H
          have p126:0≤(x36_2:Int):=of_decide_eq_true (bD)
          have q126:x36_2 < (l0_0.length:Int):=of_decide_eq_true (bD)
          obtain⟨ad126,e126,hx126_0⟩:=Kd.at_int HR0_0.out x36_2 p126 q126
          cases e126
          replace hx126_0:=(HB.out.cell (World.block_lt_of_cell? w _ hx126_0)).trans hx126_0
          replace p126:=eq_true p126
          replace q126:=eq_true q126
          go_wp2_with (first|((with_reducible refine gate_callee (f:=91) rfl ?_);refine goesA (some 41) rfl rfl Try.func91 #[.int .i64 (rd l0_0 x36_2),.int .i64 0,.int .i64 64] rfl ?_;(with_reducible refine(spec_l1In.calls (rd l0_0 x36_2) 0 64 false _ A19.out).mono ?_);rintro e w' ⟨rfl,⟨nd,rfl⟩⟩;refine⟨_,rfl,?_⟩))
          go_ret
          exact⟨bE,bS GE123.out⟩
        ·rw[if_neg c18] at H
         exact absurd H (by simp)
       ·rw[if_neg c17] at H
        exact absurd H (by simp)
      ·rw[if_neg c16] at H
       have c16b0:decide (x36_2 < (l0_0.length:Int))=false:=decide_eq_false c16
       clear c16
       replace H:=Option.bind_eq_some_iff.mp H
       obtain⟨t128,A210,H⟩:=H
       have A21:=Aside0.mk A210
       clear A210
       obtain rfl:=Option.some.inj H
       go_wp2_with (first|((with_reducible refine gate_callee (f:=91) rfl ?_);refine goesA (some 48) rfl rfl Try.func91 #[.int .i64 x3_2,.int .i64 1,.int .i64 64] rfl ?_;(with_reducible refine(spec_l1In.calls x3_2 1 64 t128 _ A21.out).mono ?_);rintro e w' ⟨rfl,⟨nd,rfl⟩⟩;refine⟨_,rfl,?_⟩))
       go_ret
       exact⟨bE,bS GE123.out⟩

/-! ### spec_l15Give: function 150 -/
def spec_l15Give.f (l0_0:List Int) (a0_1:Int) (a0_2:Bool) (a1:Int) (a2:Int):Option (List Int × Int × Bool):=if a2=a0_1 then (if a0_2=true then (some (l0_0,a0_1,true)) else (if 0≤a1 then (if a1 < (l0_0.length:Int) then (some (l0_0,a0_1,decide ((rd l0_0 a1) > 0))) else (none)) else (none))) else (if a1=a0_1 then (some (l0_0,a0_1,a0_2)) else (if 0≤a1 then (if a1 < (l0_0.length:Int) then (if (rd l0_0 a1) ≥ 2 then (if 0≤a2 then (if a2 < (l0_0.length:Int) then (if (rd l0_0 a2)=0 then ((some (l0_0.set (a2:Int).toNat (wrap64 (Int.tdiv (rd l0_0 a1) 2)):List Int)).bind fun y135=>(some ((y135.set (a1:Int).toNat (wrap64 ((rd y135 a1) - (rd y135 a2)))),a0_1,a0_2))) else (some (l0_0,a0_1,a0_2))) else (none)) else (none)) else (some (l0_0,a0_1,a0_2))) else (none)) else (none)))
def spec_l15Give.T5:Bool × List (List Nat × List Nat):=(true,[([],[]),([0],[0]),([],[]),([],[]),([3],[3]),([],[]),([4,5],[4,5]),([6],[6]),([7],[7]),([1,2,0,1,2,3,4,5,6,7,8],[1,2]),([9,8,0,1,2,3,4,5,6,7,8],[8,9])])
def spec_l15Give.B5:List Nat:=[0,1,0,0,8,0,56,120,248,511,1023]
theorem spec_l15Give.tab5:rtab .any (opsOf Try.f150 5)=spec_l15Give.T5:=by kernel_rfl
theorem spec_l15Give.bits5:waitsOk spec_l15Give.T5.2 spec_l15Give.B5=true:=by kernel_rfl
def spec_l15Give.T6:Bool × List (List Nat × List Nat):=(true,[([],[]),([0],[0]),([],[]),([1,2],[1,2]),([3],[3]),([],[]),([5],[5]),([],[]),([6,7],[6,7]),([8],[8]),([4,9],[4,9]),([1,2,0,1,2,3,4,5,6,7,8,9,10],[1,2]),([11,10,0,1,2,3,4,5,6,7,8,9,10],[10,11])])
def spec_l15Give.B6:List Nat:=[0,1,0,7,15,0,32,0,224,480,1023,2047,4095]
theorem spec_l15Give.tab6:rtab .any (opsOf Try.f150 6)=spec_l15Give.T6:=by kernel_rfl
theorem spec_l15Give.bits6:waitsOk spec_l15Give.T6.2 spec_l15Give.B6=true:=by kernel_rfl
set_option maxHeartbeats 8000000 in
set_option maxRecDepth 100000 in
theorem spec_l15Give.calls (P0_0_:Nat→Prop) (u9000_:Value) (l0_0:List Int) (a0_1:Int) (a0_2:Bool) (a1:Int) (a2:Int) (r1:List Int) (r2:Int) (r3:Bool) (w0 w:World) (hB:Below w0.heap.size w0 w) (ho0_0:Kd.R (Kd.int .i64) 3 w w0.heap.size P0_0_ u9000_ l0_0) (h:spec_l15Give.f l0_0 a0_1 a0_2 a1 a2=some (r1,r2,r3)) :
  Calls Try.prog 150 #[.agg #[u9000_,.int .i64 a0_1,.bool a0_2],.int .i64 a1,.int .i64 a2] w fun e w' => ∃ v0_:Value,e=.returned (.agg #[v0_,.int .i64 r2,.bool r3])∧Kd.R (Kd.int .i64) 3 w' w0.heap.size (fun k_=>(P0_0_ k_∨w.heap.size≤k_)) v0_ r1∧Below w0.heap.size w0 w'∧Kept w w' (fun k_=>P0_0_ k_):=by
 have hu39:=Try.underlying39
 have HO0_0:=Aside0.mk (show Kd.R (Kd.int .i64) 3 w w0.heap.size (fun k_=>(P0_0_ k_∨w.heap.size≤k_)) u9000_ l0_0 from Kd.R_mono ho0_0 (fun k_ hk=>(.inl hk)))
 have HK:=Aside0.mk (Kept.refl w (fun k_=>P0_0_ k_))
 have HW0:=Aside0.mk hB.size
 have HB:=Aside0.mk hB
 clear hB
 have H:(if a2=a0_1 then (if a0_2=true then (some (l0_0,a0_1,true)) else (if 0≤a1 then (if a1 < (l0_0.length:Int) then (some (l0_0,a0_1,decide ((rd l0_0 a1) > 0))) else (none)) else (none))) else (if a1=a0_1 then (some (l0_0,a0_1,a0_2)) else (if 0≤a1 then (if a1 < (l0_0.length:Int) then (if (rd l0_0 a1) ≥ 2 then (if 0≤a2 then (if a2 < (l0_0.length:Int) then (if (rd l0_0 a2)=0 then ((some (l0_0.set (a2:Int).toNat (wrap64 (Int.tdiv (rd l0_0 a1) 2)):List Int)).bind fun y135=>(some ((y135.set (a1:Int).toNat (wrap64 ((rd y135 a1) - (rd y135 a2)))),a0_1,a0_2))) else (some (l0_0,a0_1,a0_2))) else (none)) else (none)) else (some (l0_0,a0_1,a0_2))) else (none)) else (none))))=some (r1,r2,r3):=h
 clear h
 by_cases c4:a2=a0_1
 ·rw[if_pos c4] at H
  have c4b0:(a2 == a0_1)=true:=beq_iff_eq.mpr c4
  have c4b1:(a2 != a0_1)=false:=bne_eq_false_iff_eq.mpr c4
  clear c4
  by_cases c5:a0_2=true
  ·subst c5
   have H1:(some (l0_0,a0_1,true))=some (r1,r2,r3):=by rw[if_pos rfl] at H;exact H
   clear H
   have H:=H1
   clear H1
   simp only[Option.some.injEq,Prod.mk.injEq] at H
   obtain⟨rfl,rfl,rfl⟩:=H
   obtain⟨Ao6,co6,eo6⟩:=Kd.R_slice HO0_0.out
   subst eo6
   go_enter Try.func150,Try.ntmps150
   go_wp2_with (first|((with_reducible refine gate_dst (N:=3) rfl ?_);refine box_event ?hg (N:=3) ?hd (cs:=#[.slice Ao6 l0_0.length co6,.int .i64 a0_1,.bool true]) (t:=39) ?hr ?_;(case hd=>rfl);(case hg=>rfl);(case hr=>first|(go_simp;done)|(go_simp;rfl));intro gb129 hg w7 hbox hb;have n0_:=Aside0.mk (Kd.R_below (bK HO0_0.out) hb);have n1_:=Aside0.mk (Kept.below (S:=(fun k_=>P0_0_ k_)) (by repeat (first|(with_reducible first|exact HK.out|apply Kept.alloc|apply Kept.drewN|apply Kept.drew)|exact HK.out)) hb);have n2_:=Aside0.mk (below_step (bB) hb);have n3_:=Aside0.mk (hbox);have n4_:=Aside0.mk ((by rw[hg];exact(by first|exact HK.out.1|exact(show Kept w _ (fun k_=>P0_0_ k_) from by repeat (first|(with_reducible first|exact HK.out|apply Kept.alloc|apply Kept.drewN|apply Kept.drew)|exact HK.out)).1):w.heap.size≤gb129));have n5_:=Aside0.mk ((bG:w0.heap.size≤gb129));clear HO0_0 HK HB;have HO0_0:=n0_;have HK:=n1_;have HB:=n2_;have BK129:=n3_;have GW129:=n4_;have GE129:=n5_;clear n0_ n1_ n2_ n3_ n4_ n5_;clear hb hbox hg)|((with_reducible refine gate_dst (N:=6) rfl ?_);refine box_event ?hg (N:=6) ?hd (cs:=#[.slice none 0 0,.int .i64 0,.bool false]) (t:=39) ?hr ?_;(case hd=>rfl);(case hg=>rfl);(case hr=>first|(go_simp;done)|(go_simp;rfl));intro gb130 hg w8 hbox hb;have n0_:=Aside0.mk (Kd.R_below (bK HO0_0.out) hb);have n1_:=Aside0.mk (bM BK129.out hb);have n2_:=Aside0.mk (Kept.below (S:=(fun k_=>P0_0_ k_)) (by repeat (first|(with_reducible first|exact HK.out|apply Kept.alloc|apply Kept.drewN|apply Kept.drew|refine Kept.setCell ?_ (.inr GW129.out) _)|exact HK.out)) hb);have n3_:=Aside0.mk (below_step (bS GE129.out) hb);have n4_:=Aside0.mk (hbox);have n5_:=Aside0.mk ((by rw[hg];exact(by first|exact HK.out.1|exact(show Kept w _ (fun k_=>P0_0_ k_) from by repeat (first|(with_reducible first|exact HK.out|apply Kept.alloc|apply Kept.drewN|apply Kept.drew|refine Kept.setCell ?_ (.inr GW129.out) _)|exact HK.out)).1):w.heap.size≤gb130));have n6_:=Aside0.mk ((by rw[hg];exact(below_size (bS GE129.out)):w0.heap.size≤gb130));have n7_:=Aside0.mk ((bN BK129.out hg:gb129≠gb130));have n8_:=Aside0.mk ((bO BK129.out hg:gb130≠gb129));clear HO0_0 BK129 HK HB;have HO0_0:=n0_;have BK129:=n1_;have HK:=n2_;have HB:=n3_;have BK130:=n4_;have GW130:=n5_;have GE130:=n6_;have NB129_130:=n7_;have NB130_129:=n8_;clear n0_ n1_ n2_ n3_ n4_ n5_ n6_ n7_ n8_;clear hb hbox hg;have hnb9:=NB129_130.out;have hnc9:=NB130_129.out;obtain⟨hcz10_0,hcz10_1,hcz10_2⟩:=cC3 BK129.out;obtain⟨hfz10_0,hfz10_1,hfz10_2⟩:=cF3 BK129.out;obtain⟨hcz11_0,hcz11_1,hcz11_2⟩:=cC3 BK130.out;obtain⟨hfz11_0,hfz11_1,hfz11_2⟩:=cF3 BK130.out))
   refine bodyPost_ret (results_cell_row rfl _ _ gb130 39 #[.slice Ao6 l0_0.length co6,.int .i64 a0_1,.bool true] (0,0) _ rfl (by(with_reducible repeat (first|refine blk_drewN ?_ _|refine blk_drew ?_|refine blk_alloc ?_ _));refine blk_put (cs:=#[.slice Ao6 l0_0.length co6,.int .i64 a0_1,.bool false]) ?_ 2 _ rfl;(with_reducible repeat (first|refine blk_drewN ?_ _|refine blk_drew ?_|refine blk_alloc ?_ _));refine blk_put (cs:=#[.slice Ao6 l0_0.length co6,.int .i64 0,.bool false]) ?_ 1 _ rfl;(with_reducible repeat (first|refine blk_drewN ?_ _|refine blk_drew ?_|refine blk_alloc ?_ _));refine blk_put (cs:=#[.slice none 0 0,.int .i64 0,.bool false]) ?_ 0 _ rfl;(with_reducible repeat (first|refine blk_drewN ?_ _|refine blk_drew ?_|refine blk_alloc ?_ _));refine blk_far ?_ NB130_129.out _;(with_reducible repeat (first|refine blk_drewN ?_ _|refine blk_drew ?_|refine blk_alloc ?_ _));exact BK130.out) Try.underlying39 rfl (by kernel_rfl)) rfl ?_
   exact⟨_,by first|rfl|(simp[errW_none,errW_some]<;>rfl)|(simp[*,errW_none,errW_some]<;>rfl),by(with_reducible repeat (first|apply Kd.R_alloc|apply Kd.R_drewN|apply Kd.R_drew));exact Kd.R_mono (Kd.R_far (p:=⟨gb130,2,none⟩) (Kd.R_far (p:=⟨gb130,1,none⟩) (Kd.R_far (p:=⟨gb130,0,none⟩) (Kd.R_far (p:=⟨gb129,2,none⟩) (Kd.R_types (Kd.R_types HO0_0.out BK129.out (by decide)) BK130.out (by decide)) (fun _ hk=>hk.1.2) (.bool true)) (fun _ hk=>hk.2) (.slice Ao6 l0_0.length co6)) (fun _ hk=>hk.2) (.int .i64 a0_1)) (fun _ hk=>hk.2) (.bool true)) (fun _ hk=>hk.1.1),bS2 GE129.out GE130.out,by repeat (first|(with_reducible first|exact HK.out|apply Kept.alloc|apply Kept.drewN|apply Kept.drew|refine Kept.setCell ?_ (.inr GW129.out) _|refine Kept.setCell ?_ (.inr GW130.out) _)|exact HK.out)⟩
  ·replace c5:=Bool.eq_false_iff.mpr c5
   subst c5
   have H1:(if 0≤a1 then (if a1 < (l0_0.length:Int) then (some (l0_0,a0_1,decide ((rd l0_0 a1) > 0))) else (none)) else (none))=some (r1,r2,r3):=by rw[if_neg (show ¬ (false=true) by decide)] at H;exact H
   clear H
   have H:=H1
   clear H1
   by_cases c12:0≤a1
   ·rw[if_pos c12] at H
    have c12b0:decide (0≤a1)=true:=decide_eq_true c12
    clear c12
    by_cases c13:a1 < (l0_0.length:Int)
    ·rw[if_pos c13] at H
     have c13b0:decide (a1 < (l0_0.length:Int))=true:=decide_eq_true c13
     clear c13
     simp only[Option.some.injEq,Prod.mk.injEq] at H
     obtain⟨rfl,rfl,rfl⟩:=H
     obtain⟨Ao14,co14,eo14⟩:=Kd.R_slice HO0_0.out
     subst eo14
     go_enter Try.func150,Try.ntmps150
     go_wp2_with (first|((with_reducible refine gate_dst (N:=3) rfl ?_);refine box_event ?hg (N:=3) ?hd (cs:=#[.slice Ao14 l0_0.length co14,.int .i64 a0_1,.bool false]) (t:=39) ?hr ?_;(case hd=>rfl);(case hg=>rfl);(case hr=>first|(go_simp;done)|(go_simp;rfl));intro gb129 hg w15 hbox hb;have n0_:=Aside0.mk (Kd.R_below (bK HO0_0.out) hb);have n1_:=Aside0.mk (Kept.below (S:=(fun k_=>P0_0_ k_)) (by repeat (first|(with_reducible first|exact HK.out|apply Kept.alloc|apply Kept.drewN|apply Kept.drew)|exact HK.out)) hb);have n2_:=Aside0.mk (below_step (bB) hb);have n3_:=Aside0.mk (hbox);have n4_:=Aside0.mk ((by rw[hg];exact(by first|exact HK.out.1|exact(show Kept w _ (fun k_=>P0_0_ k_) from by repeat (first|(with_reducible first|exact HK.out|apply Kept.alloc|apply Kept.drewN|apply Kept.drew)|exact HK.out)).1):w.heap.size≤gb129));have n5_:=Aside0.mk ((bG:w0.heap.size≤gb129));clear HO0_0 HK HB;have HO0_0:=n0_;have HK:=n1_;have HB:=n2_;have BK129:=n3_;have GW129:=n4_;have GE129:=n5_;clear n0_ n1_ n2_ n3_ n4_ n5_;clear hb hbox hg)|((with_reducible refine gate_dst (N:=6) rfl ?_);refine box_event ?hg (N:=6) ?hd (cs:=#[.slice none 0 0,.int .i64 0,.bool false]) (t:=39) ?hr ?_;(case hd=>rfl);(case hg=>rfl);(case hr=>first|(go_simp;done)|(go_simp;rfl));intro gb130 hg w16 hbox hb;have n0_:=Aside0.mk (Kd.R_below (bK HO0_0.out) hb);have n1_:=Aside0.mk (bM BK129.out hb);have n2_:=Aside0.mk (Kept.below (S:=(fun k_=>P0_0_ k_)) (by repeat (first|(with_reducible first|exact HK.out|apply Kept.alloc|apply Kept.drewN|apply Kept.drew|refine Kept.setCell ?_ (.inr GW129.out) _)|exact HK.out)) hb);have n3_:=Aside0.mk (below_step (bS GE129.out) hb);have n4_:=Aside0.mk (hbox);have n5_:=Aside0.mk ((by rw[hg];exact(by first|exact HK.out.1|exact(show Kept w _ (fun k_=>P0_0_ k_) from by repeat (first|(with_reducible first|exact HK.out|apply Kept.alloc|apply Kept.drewN|apply Kept.drew|refine Kept.setCell ?_ (.inr GW129.out) _)|exact HK.out)).1):w.heap.size≤gb130));have n6_:=Aside0.mk ((by rw[hg];exact(below_size (bS GE129.out)):w0.heap.size≤gb130));have n7_:=Aside0.mk ((bN BK129.out hg:gb129≠gb130));have n8_:=Aside0.mk ((bO BK129.out hg:gb130≠gb129));clear HO0_0 BK129 HK HB;have HO0_0:=n0_;have BK129:=n1_;have HK:=n2_;have HB:=n3_;have BK130:=n4_;have GW130:=n5_;have GE130:=n6_;have NB129_130:=n7_;have NB130_129:=n8_;clear n0_ n1_ n2_ n3_ n4_ n5_ n6_ n7_ n8_;clear hb hbox hg;have hnb17:=NB129_130.out;have hnc17:=NB130_129.out;obtain⟨hcz18_0,hcz18_1,hcz18_2⟩:=cC3 BK129.out;obtain⟨hfz18_0,hfz18_1,hfz18_2⟩:=cF3 BK129.out;have p131:0≤(a1:Int):=of_decide_eq_true (bD);have q131:a1 < (l0_0.length:Int):=of_decide_eq_true (bD);obtain⟨ad131,e131,hx131_0⟩:=Kd.at_int (Kd.R_reads' HO0_0.out).2.2 a1 p131 q131;cases e131;replace p131:=eq_true p131;replace q131:=eq_true q131;obtain⟨hcz19_0,hcz19_1,hcz19_2⟩:=cC3 BK130.out;obtain⟨hfz19_0,hfz19_1,hfz19_2⟩:=cF3 BK130.out))
     refine bodyPost_ret (results_cell_row rfl _ _ gb130 39 #[.slice (some ad131) l0_0.length co14,.int .i64 a0_1,.bool (decide ((rd l0_0 a1) > 0))] (0,0) _ rfl (by(with_reducible repeat (first|refine blk_drewN ?_ _|refine blk_drew ?_|refine blk_alloc ?_ _));refine blk_put (cs:=#[.slice (some ad131) l0_0.length co14,.int .i64 a0_1,.bool false]) ?_ 2 _ rfl;(with_reducible repeat (first|refine blk_drewN ?_ _|refine blk_drew ?_|refine blk_alloc ?_ _));refine blk_put (cs:=#[.slice (some ad131) l0_0.length co14,.int .i64 0,.bool false]) ?_ 1 _ rfl;(with_reducible repeat (first|refine blk_drewN ?_ _|refine blk_drew ?_|refine blk_alloc ?_ _));refine blk_put (cs:=#[.slice none 0 0,.int .i64 0,.bool false]) ?_ 0 _ rfl;(with_reducible repeat (first|refine blk_drewN ?_ _|refine blk_drew ?_|refine blk_alloc ?_ _));refine blk_far ?_ NB130_129.out _;(with_reducible repeat (first|refine blk_drewN ?_ _|refine blk_drew ?_|refine blk_alloc ?_ _));exact BK130.out) Try.underlying39 rfl (by kernel_rfl)) rfl ?_
     exact⟨_,by first|rfl|(simp[errW_none,errW_some]<;>rfl)|(simp[*,errW_none,errW_some]<;>rfl),by(with_reducible repeat (first|apply Kd.R_alloc|apply Kd.R_drewN|apply Kd.R_drew));exact Kd.R_mono (Kd.R_far (p:=⟨gb130,2,none⟩) (Kd.R_far (p:=⟨gb130,1,none⟩) (Kd.R_far (p:=⟨gb130,0,none⟩) (Kd.R_far (p:=⟨gb129,2,none⟩) (Kd.R_types (Kd.R_types HO0_0.out BK129.out (by decide)) BK130.out (by decide)) (fun _ hk=>hk.1.2) (.bool (decide ((rd l0_0 a1) > 0)))) (fun _ hk=>hk.2) (.slice (some ad131) l0_0.length co14)) (fun _ hk=>hk.2) (.int .i64 a0_1)) (fun _ hk=>hk.2) (.bool (decide ((rd l0_0 a1) > 0)))) (fun _ hk=>hk.1.1),bS2 GE129.out GE130.out,by repeat (first|(with_reducible first|exact HK.out|apply Kept.alloc|apply Kept.drewN|apply Kept.drew|refine Kept.setCell ?_ (.inr GW129.out) _|refine Kept.setCell ?_ (.inr GW130.out) _)|exact HK.out)⟩
    ·rw[if_neg c13] at H
     exact absurd H (by simp)
   ·rw[if_neg c12] at H
    exact absurd H (by simp)
 ·rw[if_neg c4] at H
  have c4b0:(a2 == a0_1)=false:=beq_eq_false_iff_ne.mpr c4
  have c4b1:(a2 != a0_1)=true:=bne_iff_ne.mpr c4
  by_cases c20:a1=a0_1
  ·rw[if_pos c20] at H
   have c20b0:(a1 == a0_1)=true:=beq_iff_eq.mpr c20
   have c20b1:(a1 != a0_1)=false:=bne_eq_false_iff_eq.mpr c20
   clear c20
   simp only[Option.some.injEq,Prod.mk.injEq] at H
   obtain⟨rfl,rfl,rfl⟩:=H
   obtain⟨Ao21,co21,eo21⟩:=Kd.R_slice HO0_0.out
   subst eo21
   go_enter Try.func150,Try.ntmps150
   go_wp2_with (first|((with_reducible refine gate_dst (N:=3) rfl ?_);refine box_event ?hg (N:=3) ?hd (cs:=#[.slice Ao21 l0_0.length co21,.int .i64 a0_1,.bool a0_2]) (t:=39) ?hr ?_;(case hd=>rfl);(case hg=>rfl);(case hr=>first|(go_simp;done)|(go_simp;rfl));intro gb129 hg w22 hbox hb;have n0_:=Aside0.mk (Kd.R_below (bK HO0_0.out) hb);have n1_:=Aside0.mk (Kept.below (S:=(fun k_=>P0_0_ k_)) (by repeat (first|(with_reducible first|exact HK.out|apply Kept.alloc|apply Kept.drewN|apply Kept.drew)|exact HK.out)) hb);have n2_:=Aside0.mk (below_step (bB) hb);have n3_:=Aside0.mk (hbox);have n4_:=Aside0.mk ((by rw[hg];exact(by first|exact HK.out.1|exact(show Kept w _ (fun k_=>P0_0_ k_) from by repeat (first|(with_reducible first|exact HK.out|apply Kept.alloc|apply Kept.drewN|apply Kept.drew)|exact HK.out)).1):w.heap.size≤gb129));have n5_:=Aside0.mk ((bG:w0.heap.size≤gb129));clear HO0_0 HK HB;have HO0_0:=n0_;have HK:=n1_;have HB:=n2_;have BK129:=n3_;have GW129:=n4_;have GE129:=n5_;clear n0_ n1_ n2_ n3_ n4_ n5_;clear hb hbox hg)|((with_reducible refine gate_dst (N:=6) rfl ?_);refine box_event ?hg (N:=6) ?hd (cs:=#[.slice none 0 0,.int .i64 0,.bool false]) (t:=39) ?hr ?_;(case hd=>rfl);(case hg=>rfl);(case hr=>first|(go_simp;done)|(go_simp;rfl));intro gb130 hg w23 hbox hb;have n0_:=Aside0.mk (Kd.R_below (bK HO0_0.out) hb);have n1_:=Aside0.mk (bM BK129.out hb);have n2_:=Aside0.mk (Kept.below (S:=(fun k_=>P0_0_ k_)) (by repeat (first|(with_reducible first|exact HK.out|apply Kept.alloc|apply Kept.drewN|apply Kept.drew|refine Kept.setCell ?_ (.inr GW129.out) _)|exact HK.out)) hb);have n3_:=Aside0.mk (below_step (bS GE129.out) hb);have n4_:=Aside0.mk (hbox);have n5_:=Aside0.mk ((by rw[hg];exact(by first|exact HK.out.1|exact(show Kept w _ (fun k_=>P0_0_ k_) from by repeat (first|(with_reducible first|exact HK.out|apply Kept.alloc|apply Kept.drewN|apply Kept.drew|refine Kept.setCell ?_ (.inr GW129.out) _)|exact HK.out)).1):w.heap.size≤gb130));have n6_:=Aside0.mk ((by rw[hg];exact(below_size (bS GE129.out)):w0.heap.size≤gb130));have n7_:=Aside0.mk ((bN BK129.out hg:gb129≠gb130));have n8_:=Aside0.mk ((bO BK129.out hg:gb130≠gb129));clear HO0_0 BK129 HK HB;have HO0_0:=n0_;have BK129:=n1_;have HK:=n2_;have HB:=n3_;have BK130:=n4_;have GW130:=n5_;have GE130:=n6_;have NB129_130:=n7_;have NB130_129:=n8_;clear n0_ n1_ n2_ n3_ n4_ n5_ n6_ n7_ n8_;clear hb hbox hg;have hnb24:=NB129_130.out;have hnc24:=NB130_129.out;obtain⟨hcz25_0,hcz25_1,hcz25_2⟩:=cC3 BK129.out;obtain⟨hfz25_0,hfz25_1,hfz25_2⟩:=cF3 BK129.out;obtain⟨hcz26_0,hcz26_1,hcz26_2⟩:=cC3 BK130.out;obtain⟨hfz26_0,hfz26_1,hfz26_2⟩:=cF3 BK130.out))
   refine bodyPost_ret (results_cell_row rfl _ _ gb130 39 #[.slice Ao21 l0_0.length co21,.int .i64 a0_1,.bool a0_2] (0,0) _ rfl (by(with_reducible repeat (first|refine blk_drewN ?_ _|refine blk_drew ?_|refine blk_alloc ?_ _));refine blk_put (cs:=#[.slice Ao21 l0_0.length co21,.int .i64 a0_1,.bool false]) ?_ 2 _ rfl;(with_reducible repeat (first|refine blk_drewN ?_ _|refine blk_drew ?_|refine blk_alloc ?_ _));refine blk_put (cs:=#[.slice Ao21 l0_0.length co21,.int .i64 0,.bool false]) ?_ 1 _ rfl;(with_reducible repeat (first|refine blk_drewN ?_ _|refine blk_drew ?_|refine blk_alloc ?_ _));refine blk_put (cs:=#[.slice none 0 0,.int .i64 0,.bool false]) ?_ 0 _ rfl;(with_reducible repeat (first|refine blk_drewN ?_ _|refine blk_drew ?_|refine blk_alloc ?_ _));exact BK130.out) Try.underlying39 rfl (by kernel_rfl)) rfl ?_
   exact⟨_,by first|rfl|(simp[errW_none,errW_some]<;>rfl)|(simp[*,errW_none,errW_some]<;>rfl),by(with_reducible repeat (first|apply Kd.R_alloc|apply Kd.R_drewN|apply Kd.R_drew));exact Kd.R_mono (Kd.R_far (p:=⟨gb130,2,none⟩) (Kd.R_far (p:=⟨gb130,1,none⟩) (Kd.R_far (p:=⟨gb130,0,none⟩) (Kd.R_types HO0_0.out BK130.out (by decide)) (fun _ hk=>hk.2) (.slice Ao21 l0_0.length co21)) (fun _ hk=>hk.2) (.int .i64 a0_1)) (fun _ hk=>hk.2) (.bool a0_2)) (fun _ hk=>hk.1),bS2 GE129.out GE130.out,by repeat (first|(with_reducible first|exact HK.out|apply Kept.alloc|apply Kept.drewN|apply Kept.drew|refine Kept.setCell ?_ (.inr GW129.out) _|refine Kept.setCell ?_ (.inr GW130.out) _)|exact HK.out)⟩
  ·rw[if_neg c20] at H
   have c20b0:(a1 == a0_1)=false:=beq_eq_false_iff_ne.mpr c20
   have c20b1:(a1 != a0_1)=true:=bne_iff_ne.mpr c20
   by_cases c27:0≤a1
   ·rw[if_pos c27] at H
    have c27b0:decide (0≤a1)=true:=decide_eq_true c27
    clear c27
    by_cases c28:a1 < (l0_0.length:Int)
    ·rw[if_pos c28] at H
     have c28b0:decide (a1 < (l0_0.length:Int))=true:=decide_eq_true c28
     clear c28
     by_cases c29:(rd l0_0 a1) ≥ 2
     ·rw[if_pos c29] at H
      have c29b0:decide (2≤(rd l0_0 a1))=true:=decide_eq_true c29
      clear c29
      by_cases c30:0≤a2
      ·rw[if_pos c30] at H
       have c30b0:decide (0≤a2)=true:=decide_eq_true c30
       clear c30
       by_cases c31:a2 < (l0_0.length:Int)
       ·rw[if_pos c31] at H
        have c31b0:decide (a2 < (l0_0.length:Int))=true:=decide_eq_true c31
        clear c31
        by_cases c32:(rd l0_0 a2)=0
        ·rw[if_pos c32] at H
         have c32b0:((rd l0_0 a2) == 0)=true:=beq_iff_eq.mpr c32
         have c32b1:((rd l0_0 a2) != 0)=false:=bne_eq_false_iff_eq.mpr c32
         clear c32
         obtain⟨y135,hy135⟩ : ∃ y_:List Int,y_=(l0_0.set (a2:Int).toNat (wrap64 (Int.tdiv (rd l0_0 a1) 2))):=⟨_,rfl⟩
         replace H:(some ((y135.set (a1:Int).toNat (wrap64 ((rd y135 a1) - (rd y135 a2)))),a0_1,a0_2))=some (r1,r2,r3):=by first|(rw[hy135];with_reducible exact H)|(have H2_:=(Option.bind_some _ _).symm.trans H;rw[hy135];with_reducible exact H2_)|(have H2_:=(Option.bind_some _ _).symm.trans H;with_reducible exact H2_)|with_reducible exact H|(rw[hy135];exact H)|exact H
         have Ny135:=Aside0.mk hy135
         clear hy135
         obtain⟨y138,hy138⟩ : ∃ y_:List Int,y_=(y135.set (a1:Int).toNat (wrap64 ((rd y135 a1) - (rd y135 a2)))):=⟨_,rfl⟩
         replace H:(some (y138,a0_1,a0_2))=some (r1,r2,r3):=by first|(rw[hy138];with_reducible exact H)|(have H2_:=(Option.bind_some _ _).symm.trans H;rw[hy138];with_reducible exact H2_)|(have H2_:=(Option.bind_some _ _).symm.trans H;with_reducible exact H2_)|with_reducible exact H|(rw[hy138];exact H)|exact H
         have Ny138:=Aside0.mk hy138
         clear hy138
         simp only[Option.some.injEq,Prod.mk.injEq] at H
         obtain⟨rfl,rfl,rfl⟩:=H
         obtain⟨Ao35,co35,eo35⟩:=Kd.R_slice HO0_0.out
         subst eo35
         go_enter Try.func150,Try.ntmps150
         try go_wp2_with (first|((with_reducible refine gate_dst (N:=3) rfl ?_);refine box_event ?hg (N:=3) ?hd (cs:=#[.slice Ao35 l0_0.length co35,.int .i64 a0_1,.bool a0_2]) (t:=39) ?hr ?_;(case hd=>rfl);(case hg=>rfl);(case hr=>first|(go_simp;done)|(go_simp;rfl));intro gb129 hg w36 hbox hb;have n0_:=Aside0.mk (Kd.R_below (bK HO0_0.out) hb);have n1_:=Aside0.mk (Kept.below (S:=(fun k_=>P0_0_ k_)) (by repeat (first|(with_reducible first|exact HK.out|apply Kept.alloc|apply Kept.drewN|apply Kept.drew)|exact HK.out)) hb);have n2_:=Aside0.mk (below_step (bB) hb);have n3_:=Aside0.mk (hbox);have n4_:=Aside0.mk ((by rw[hg];exact(by first|exact HK.out.1|exact(show Kept w _ (fun k_=>P0_0_ k_) from by repeat (first|(with_reducible first|exact HK.out|apply Kept.alloc|apply Kept.drewN|apply Kept.drew)|exact HK.out)).1):w.heap.size≤gb129));have n5_:=Aside0.mk ((bG:w0.heap.size≤gb129));clear HO0_0 HK HB;have HO0_0:=n0_;have HK:=n1_;have HB:=n2_;have BK129:=n3_;have GW129:=n4_;have GE129:=n5_;clear n0_ n1_ n2_ n3_ n4_ n5_;clear hb hbox hg)|((with_reducible refine gate_dst (N:=6) rfl ?_);refine box_event ?hg (N:=6) ?hd (cs:=#[.slice none 0 0,.int .i64 0,.bool false]) (t:=39) ?hr ?_;(case hd=>rfl);(case hg=>rfl);(case hr=>first|(go_simp;done)|(go_simp;rfl));intro gb130 hg w37 hbox hb;have n0_:=Aside0.mk (Kd.R_below (bK HO0_0.out) hb);have n1_:=Aside0.mk (bM BK129.out hb);have n2_:=Aside0.mk (Kept.below (S:=(fun k_=>P0_0_ k_)) (by repeat (first|(with_reducible first|exact HK.out|apply Kept.alloc|apply Kept.drewN|apply Kept.drew|refine Kept.setCell ?_ (.inr GW129.out) _)|exact HK.out)) hb);have n3_:=Aside0.mk (below_step (bS GE129.out) hb);have n4_:=Aside0.mk (hbox);have n5_:=Aside0.mk ((by rw[hg];exact(by first|exact HK.out.1|exact(show Kept w _ (fun k_=>P0_0_ k_) from by repeat (first|(with_reducible first|exact HK.out|apply Kept.alloc|apply Kept.drewN|apply Kept.drew|refine Kept.setCell ?_ (.inr GW129.out) _)|exact HK.out)).1):w.heap.size≤gb130));have n6_:=Aside0.mk ((by rw[hg];exact(below_size (bS GE129.out)):w0.heap.size≤gb130));have n7_:=Aside0.mk ((bN BK129.out hg:gb129≠gb130));have n8_:=Aside0.mk ((bO BK129.out hg:gb130≠gb129));clear HO0_0 BK129 HK HB;have HO0_0:=n0_;have BK129:=n1_;have HK:=n2_;have HB:=n3_;have BK130:=n4_;have GW130:=n5_;have GE130:=n6_;have NB129_130:=n7_;have NB130_129:=n8_;clear n0_ n1_ n2_ n3_ n4_ n5_ n6_ n7_ n8_;clear hb hbox hg;have hnb38:=NB129_130.out;have hnc38:=NB130_129.out;obtain⟨hcz39_0,hcz39_1,hcz39_2⟩:=cC3 BK129.out;obtain⟨hfz39_0,hfz39_1,hfz39_2⟩:=cF3 BK129.out;have p132:0≤(a1:Int):=of_decide_eq_true (bD);have q132:a1 < (l0_0.length:Int):=of_decide_eq_true (bD);obtain⟨ad132,e132,hx132_0⟩:=Kd.at_int (Kd.R_reads' HO0_0.out).2.2 a1 p132 q132;cases e132;replace p132:=eq_true p132;replace q132:=eq_true q132;have p133:0≤(a2:Int):=of_decide_eq_true (bD);have q133:a2 < (l0_0.length:Int):=of_decide_eq_true (bD);obtain⟨ad133,e133,hx133_0⟩:=Kd.at_int (Kd.R_reads' HO0_0.out).2.2 a2 p133 q133;obtain rfl:ad132=ad133:=(by injection e133);replace p133:=eq_true p133;replace q133:=eq_true q133))
         (try (rw[drewN_self w37];generalize hq_:World.drewN w37 _=w37;have n0_:=Aside0.mk (Kd.R_at hq_ HO0_0.out);have n1_:=Aside0.mk (blk_at hq_ BK129.out);have n2_:=Aside0.mk (blk_at hq_ BK130.out);have n3_:=Aside0.mk (kept_at hq_ HK.out);have n4_:=Aside0.mk (below_at hq_ HB.out);clear hq_ HO0_0 BK129 BK130 HK HB;have HO0_0:=n0_;have BK129:=n1_;have BK130:=n2_;have HK:=n3_;have HB:=n4_;clear n0_ n1_ n2_ n3_ n4_))
         have n0_:=Aside0.mk (Kd.R_drew HO0_0.out)
         have n1_:=Aside0.mk (blk_drew BK129.out)
         have n2_:=Aside0.mk (blk_drew BK130.out)
         have n3_:=Aside0.mk (Kept.drew HK.out)
         have n4_:=Aside0.mk (below_drew1 HB.out)
         clear HO0_0 BK129 BK130 HK HB
         have HO0_0:=n0_
         have BK129:=n1_
         have BK130:=n2_
         have HK:=n3_
         have HB:=n4_
         clear n0_ n1_ n2_ n3_ n4_
         have p134:0≤(a1:Int):=of_decide_eq_true (bD)
         have q134:a1 < (l0_0.length:Int):=of_decide_eq_true (bD)
         obtain⟨ad134,e134,hx134_0⟩:=Kd.at_int (Kd.R_reads' HO0_0.out).2.2 a1 p134 q134
         obtain rfl:ad132=ad134:=(by injection e134)
         replace p134:=eq_true p134
         replace q134:=eq_true q134
         have p33:0≤(a2:Int):=of_decide_eq_true (bD)
         have q33:(a2:Int) < ((l0_0.length:Int):Int):=of_decide_eq_true (bD)
         obtain⟨go33,co33,eo33,gb33,gl33,cl33,HG33⟩:=Kd.R_form HO0_0.out (by omega)
         (first|cases eo33|(injection eo33 with ea_ en_ ec_;(first|subst ea_|(injection ea_ with ea_;subst ea_));subst ec_;clear en_))
         have GB33:=Aside0.mk gb33
         have GG33:=Aside0.mk HG33
         clear gb33 gl33 HG33
         have HMgo33:=Aside0.mk (show(P0_0_ go33∨w.heap.size≤go33) from (HO0_0.out.1 _ rfl))
         (first|simp only[add_plain] at hx132_0|skip)
         (first|simp only[add_plain] at hx133_0|skip)
         (first|simp only[add_plain] at hx134_0|skip)
         obtain⟨hx33_0,hf33_0⟩:=Kd.R_celln 0 HO0_0.out (a2:Int) p33 q33
         replace p33:=eq_true p33
         replace q33:=eq_true q33
         have HP41:=Kd.R_putn HO0_0.out (a2:Int) (wrap64 (Int.tdiv (rd l0_0 a1) 2))
         rw[← Ny135.out] at HP41
         have HQ41:=Aside0.mk HP41
         clear HP41
         refine start_ (n:=11) (S:=fun w'=>w'.cell? ⟨gb129,0,none⟩=some (.slice (some ⟨go33,0,none⟩) l0_0.length co35)∧w'.cell? ⟨gb129,1,none⟩=some (.int .i64 a0_1)∧w'.cell? ⟨gb129,2,none⟩=some (.bool a0_2)∧w'.cell? ⟨go33,(a1).toNat,none⟩=some (.int .i64 (rd l0_0 a1))) (ds:=[10]) #[false,false,false,false,false,false,false,false,false,false,false] (by kernel_rfl) rfl rfl ⟨(blk_cell BK129.out 0).trans rfl,(blk_cell BK129.out 1).trans rfl,(blk_cell BK129.out 2).trans rfl,hx134_0⟩ (fun hHeld => ?_);refine with_tabW spec_l15Give.tab5 spec_l15Give.bits5 (fun HT_ HW_ => ?_)
         generalize w37.drew=w40 at HO0_0 BK129 BK130 HK HB GG33 HQ41 hf33_0 hx132_0 hx133_0 hx134_0 hx33_0 hHeld ⊢
         refine pure_ (i:=0) (N:=some 43) (v:=?_) (a':=?_) #[true,false,false,false,false,false,false,false,false,false,false] rfl rfl (any_of HT_.out (by kernel_rfl)) (fun _ _ _ h=>h) (Or.inl ⟨by rfl,?_⟩) ?_ ?_
         rotate_left
         ·intro w'
          go_simp
          with_reducible rfl
         rotate_left
         ·simp only[Act.put,List.setIfInBounds_toArray,List.set_cons_zero,List.set_cons_succ,i64_w,i32_w]
          rfl
         refine pure_ (i:=2) (N:=some 45) (v:=?_) (a':=?_) #[true,false,true,false,false,false,false,false,false,false,false] rfl rfl (any_of HT_.out (by kernel_rfl)) (fun _ _ _ h=>h) (Or.inl ⟨by rfl,?_⟩) ?_ ?_
         rotate_left
         ·intro w'
          go_simp
          with_reducible rfl
         rotate_left
         ·simp only[Act.put,List.setIfInBounds_toArray,List.set_cons_zero,List.set_cons_succ,i64_w,i32_w]
          rfl
         refine pure_ (i:=3) (N:=some 46) (v:=?_) (a':=?_) #[true,false,true,true,false,false,false,false,false,false,false] rfl rfl (any_of HT_.out (by kernel_rfl)) (fun _ _ _ h=>h) (Or.inl ⟨by rfl,?_⟩) ?_ ?_
         rotate_left
         ·intro w'
          go_simp
          with_reducible rfl
         rotate_left
         ·simp only[Act.put,List.setIfInBounds_toArray,List.set_cons_zero,List.set_cons_succ,i64_w,i32_w]
          rfl
         refine pure_ (i:=5) (N:=some 48) (v:=?_) (a':=?_) #[true,false,true,true,false,true,false,false,false,false,false] rfl rfl (any_of HT_.out (by kernel_rfl)) (fun _ _ _ h=>h) (Or.inl ⟨by rfl,?_⟩) ?_ ?_
         rotate_left
         ·intro w'
          go_simp
          with_reducible rfl
         rotate_left
         ·simp only[Act.put,List.setIfInBounds_toArray,List.set_cons_zero,List.set_cons_succ,i64_w,i32_w]
          rfl
         refine take_ (i:=1) (N:=some 44) (v:=?_) (a':=?_) #[true,true,true,true,false,true,false,false,false,false,false] rfl rfl (take_ofW HT_.out HW_.out (by kernel_rfl)) (fun _ _ _ h=>h) (Or.inl ⟨by rfl,?_⟩) hHeld ?_ ?_
         rotate_left
         ·rintro w' ⟨s0,s1,s2,s3⟩
          go_simp
          with_reducible rfl
         rotate_left
         ·simp only[Act.put,List.setIfInBounds_toArray,List.set_cons_zero,List.set_cons_succ,i64_w,i32_w]
          rfl
         refine take_ (i:=4) (N:=some 47) (v:=?_) (a':=?_) #[true,true,true,true,true,true,false,false,false,false,false] rfl rfl (take_ofW HT_.out HW_.out (by kernel_rfl)) (fun _ _ _ h=>h) (Or.inl ⟨by rfl,?_⟩) hHeld ?_ ?_
         rotate_left
         ·rintro w' ⟨s0,s1,s2,s3⟩
          go_simp
          with_reducible rfl
         rotate_left
         ·simp only[Act.put,List.setIfInBounds_toArray,List.set_cons_zero,List.set_cons_succ,i64_w,i32_w]
          rfl
         refine pure_ (i:=6) (N:=some 49) (v:=?_) (a':=?_) #[true,true,true,true,true,true,true,false,false,false,false] rfl rfl (any_of HT_.out (by kernel_rfl)) (fun _ _ _ h=>h) (Or.inl ⟨by rfl,?_⟩) ?_ ?_
         rotate_left
         ·intro w'
          go_simp
          with_reducible rfl
         rotate_left
         ·simp only[Act.put,List.setIfInBounds_toArray,List.set_cons_zero,List.set_cons_succ,i64_w,i32_w]
          rfl
         refine take_ (i:=7) (N:=some 50) (v:=?_) (a':=?_) #[true,true,true,true,true,true,true,true,false,false,false] rfl rfl (take_ofW HT_.out HW_.out (by kernel_rfl)) (fun _ _ _ h=>h) (Or.inl ⟨by rfl,?_⟩) hHeld ?_ ?_
         rotate_left
         ·rintro w' ⟨s0,s1,s2,s3⟩
          go_simp
          with_reducible rfl
         rotate_left
         ·simp only[Act.put,List.setIfInBounds_toArray,List.set_cons_zero,List.set_cons_succ,i64_w,i32_w]
          rfl
         refine pure_ (i:=8) (N:=some 51) (v:=?_) (a':=?_) #[true,true,true,true,true,true,true,true,true,false,false] rfl rfl (any_of HT_.out (by kernel_rfl)) (fun _ _ _ h=>h) (Or.inl ⟨by rfl,?_⟩) ?_ ?_
         rotate_left
         ·intro w'
          go_simp
          with_reducible rfl
         rotate_left
         ·simp only[Act.put,List.setIfInBounds_toArray,List.set_cons_zero,List.set_cons_succ,i64_w,i32_w]
          rfl
         refine pure_ (i:=9) (N:=some 52) (v:=?_) (a':=?_) #[true,true,true,true,true,true,true,true,true,true,false] rfl rfl (any_of HT_.out (by kernel_rfl)) (fun _ _ _ h=>h) (Or.inl ⟨by rfl,?_⟩) ?_ ?_
         rotate_left
         ·intro w'
          go_simp
          with_reducible rfl
         rotate_left
         ·simp only[Act.put,List.setIfInBounds_toArray,List.set_cons_zero,List.set_cons_succ,i64_w,i32_w]
          rfl
         refine last_ (i:=10) (N:=none) #[true,true,true,true,true,true,true,true,true,true,true] rfl rfl (one_of HT_.out (by kernel_rfl)) (by decide) (fun K hK => ?_)
         refine skip_ (w1:=?_) (by rfl) rfl ?_ ?_
         rotate_left
         ·go_simp
          rfl
         refine hK.out _ _ ?_
         clear hK K
         refine done_ (done_of HT_.out (by kernel_rfl)) ?_
         have n0_:Aside0 (Kd.R (Kd.int .i64) 3 (w40.setCell ⟨go33,(a2:Int).toNat,none⟩ (.int .i64 (wrap64 (Int.tdiv (rd l0_0 a1) 2)))) w0.heap.size (fun k_=>(P0_0_ k_∨w.heap.size≤k_)) (.slice (some ⟨go33,0,none⟩) l0_0.length co35) y135):=⟨by(with_reducible repeat (first|apply Kd.R_alloc|apply Kd.R_drewN|apply Kd.R_drew));exact HQ41.out⟩
         have n1_:Aside0 ((w40.setCell ⟨go33,(a2:Int).toNat,none⟩ (.int .i64 (wrap64 (Int.tdiv (rd l0_0 a1) 2)))).heap[gb129]?=some (.cells #[.slice (some ⟨go33,0,none⟩) l0_0.length co35,.int .i64 a0_1,.bool a0_2] 39 (0,0))):=⟨by(with_reducible repeat (first|refine blk_drewN ?_ _|refine blk_drew ?_|refine blk_alloc ?_ _));refine blk_far ?_ (by have h_:=Kd.R_ne HO0_0.out BK129.out (by decide);intro e_;exact h_ (by rw[e_];rfl)) _;(with_reducible repeat (first|refine blk_drewN ?_ _|refine blk_drew ?_|refine blk_alloc ?_ _));exact BK129.out⟩
         have n2_:Aside0 ((w40.setCell ⟨go33,(a2:Int).toNat,none⟩ (.int .i64 (wrap64 (Int.tdiv (rd l0_0 a1) 2)))).heap[gb130]?=some (.cells #[.slice none 0 0,.int .i64 0,.bool false] 39 (0,0))):=⟨by(with_reducible repeat (first|refine blk_drewN ?_ _|refine blk_drew ?_|refine blk_alloc ?_ _));refine blk_far ?_ (by have h_:=Kd.R_ne HO0_0.out BK130.out (by decide);intro e_;exact h_ (by rw[e_];rfl)) _;(with_reducible repeat (first|refine blk_drewN ?_ _|refine blk_drew ?_|refine blk_alloc ?_ _));exact BK130.out⟩
         have n3_:Aside0 (Kept w (w40.setCell ⟨go33,(a2:Int).toNat,none⟩ (.int .i64 (wrap64 (Int.tdiv (rd l0_0 a1) 2)))) (fun k_=>P0_0_ k_)):=⟨by repeat (first|(with_reducible first|exact HK.out|apply Kept.alloc|apply Kept.drewN|apply Kept.drew|refine Kept.setCell ?_ HMgo33.out _|refine Kept.setCell ?_ (.inr GW129.out) _|refine Kept.setCell ?_ (.inr GW130.out) _)|exact HK.out)⟩
         have n4_:Aside0 (Below w0.heap.size w0 (w40.setCell ⟨go33,(a2:Int).toNat,none⟩ (.int .i64 (wrap64 (Int.tdiv (rd l0_0 a1) 2))))):=⟨bS3 GB33.out GE129.out GE130.out⟩
         (try clear HO0_0)
         (try clear BK129)
         (try clear BK130)
         (try clear HK)
         (try clear HB)
         generalize (w40.setCell ⟨go33,(a2:Int).toNat,none⟩ (.int .i64 (wrap64 (Int.tdiv (rd l0_0 a1) 2))))=w42 at n0_ n1_ n2_ n3_ n4_ ⊢
         have HO0_0:=n0_
         have BK129:=n1_
         have BK130:=n2_
         have HK:=n3_
         have HB:=n4_
         clear n0_ n1_ n2_ n3_ n4_
         try go_wp2
         (try (rw[drewN_self w42];generalize hq_:World.drewN w42 _=w42;have n0_:=Aside0.mk (Kd.R_at hq_ HO0_0.out);have n1_:=Aside0.mk (blk_at hq_ BK129.out);have n2_:=Aside0.mk (blk_at hq_ BK130.out);have n3_:=Aside0.mk (kept_at hq_ HK.out);have n4_:=Aside0.mk (below_at hq_ HB.out);clear hq_ HO0_0 BK129 BK130 HK HB;have HO0_0:=n0_;have BK129:=n1_;have BK130:=n2_;have HK:=n3_;have HB:=n4_;clear n0_ n1_ n2_ n3_ n4_))
         have n0_:=Aside0.mk (Kd.R_drew HO0_0.out)
         have n1_:=Aside0.mk (blk_drew BK129.out)
         have n2_:=Aside0.mk (blk_drew BK130.out)
         have n3_:=Aside0.mk (Kept.drew HK.out)
         have n4_:=Aside0.mk (below_drew1 HB.out)
         clear HO0_0 BK129 BK130 HK HB
         have HO0_0:=n0_
         have BK129:=n1_
         have BK130:=n2_
         have HK:=n3_
         have HB:=n4_
         clear n0_ n1_ n2_ n3_ n4_
         have p136:0≤(a1:Int):=of_decide_eq_true (bD)
         have q136:a1 < (y135.length:Int):=(by have h_:(a1:Int) < ((l0_0.length:Int):Int):=of_decide_eq_true (bD);first|(have e_:=(Kd.R_reads' HO0_0.out).1;omega)|simpa only[Ny135.out,List.length_set] using h_)
         have ql136:((a1:Int) < ((l0_0.length:Int):Int))=True:=eq_true (of_decide_eq_true (bD))
         obtain⟨ad136,e136,hx136_0⟩:=Kd.at_int (Kd.R_reads' HO0_0.out).2.2 a1 p136 q136
         obtain rfl:(⟨go33,0,none⟩:Addr)=ad136:=(by injection e136)
         (first|simp only[add_plain] at hx136_0|simp only[add_at] at hx136_0|simp only[Addr.add,Nat.zero_add] at hx136_0|skip)
         replace p136:=eq_true p136
         replace q136:=eq_true q136
         have p137:0≤(a2:Int):=of_decide_eq_true (bD)
         have q137:a2 < (y135.length:Int):=(by have h_:(a2:Int) < ((l0_0.length:Int):Int):=of_decide_eq_true (bD);first|(have e_:=(Kd.R_reads' HO0_0.out).1;omega)|simpa only[Ny135.out,List.length_set] using h_)
         have ql137:((a2:Int) < ((l0_0.length:Int):Int))=True:=eq_true (of_decide_eq_true (bD))
         obtain⟨ad137,e137,hx137_0⟩:=Kd.at_int (Kd.R_reads' HO0_0.out).2.2 a2 p137 q137
         obtain rfl:(⟨go33,0,none⟩:Addr)=ad137:=(by injection e137)
         (first|simp only[add_plain] at hx137_0|simp only[add_at] at hx137_0|simp only[Addr.add,Nat.zero_add] at hx137_0|skip)
         replace p137:=eq_true p137
         replace q137:=eq_true q137
         have p34:0≤(a1:Int):=of_decide_eq_true (bD)
         have q34:(a1:Int) < ((l0_0.length:Int):Int):=of_decide_eq_true (bD)
         obtain⟨hx34_0,hf34_0⟩:=Kd.R_celln 0 HO0_0.out (a1:Int) p34 q34
         replace p34:=eq_true p34
         replace q34:=eq_true q34
         have HP44:=Kd.R_putn HO0_0.out (a1:Int) (wrap64 ((rd y135 a1) - (rd y135 a2)))
         rw[← Ny138.out] at HP44
         have HQ44:=Aside0.mk HP44
         clear HP44
         refine start_ (n:=13) (S:=fun w'=>w'.cell? ⟨gb129,0,none⟩=some (.slice (some ⟨go33,0,none⟩) l0_0.length co35)∧w'.cell? ⟨gb129,1,none⟩=some (.int .i64 a0_1)∧w'.cell? ⟨gb129,2,none⟩=some (.bool a0_2)∧w'.cell? ⟨go33,(a1).toNat,none⟩=some (.int .i64 (rd y135 a1))∧w'.cell? ⟨go33,(a2).toNat,none⟩=some (.int .i64 (rd y135 a2))) (ds:=[12]) #[false,false,false,false,false,false,false,false,false,false,false,false,false] (by kernel_rfl) rfl rfl ⟨(blk_cell BK129.out 0).trans rfl,(blk_cell BK129.out 1).trans rfl,(blk_cell BK129.out 2).trans rfl,hx136_0,hx137_0⟩ (fun hHeld => ?_);refine with_tabW spec_l15Give.tab6 spec_l15Give.bits6 (fun HT_ HW_ => ?_)
         generalize w42.drew=w43 at HO0_0 BK129 BK130 HK HB HQ44 hf34_0 hx136_0 hx137_0 hx34_0 hHeld ⊢
         refine pure_ (i:=0) (N:=some 53) (v:=?_) (a':=?_) #[true,false,false,false,false,false,false,false,false,false,false,false,false] rfl rfl (any_of HT_.out (by kernel_rfl)) (fun _ _ _ h=>h) (Or.inl ⟨by rfl,?_⟩) ?_ ?_
         rotate_left
         ·intro w'
          go_simp
          with_reducible rfl
         rotate_left
         ·simp only[Act.put,List.setIfInBounds_toArray,List.set_cons_zero,List.set_cons_succ,i64_w,i32_w]
          rfl
         refine pure_ (i:=2) (N:=some 55) (v:=?_) (a':=?_) #[true,false,true,false,false,false,false,false,false,false,false,false,false] rfl rfl (any_of HT_.out (by kernel_rfl)) (fun _ _ _ h=>h) (Or.inl ⟨by rfl,?_⟩) ?_ ?_
         rotate_left
         ·intro w'
          go_simp
          with_reducible rfl
         rotate_left
         ·simp only[Act.put,List.setIfInBounds_toArray,List.set_cons_zero,List.set_cons_succ,i64_w,i32_w]
          rfl
         refine pure_ (i:=5) (N:=some 58) (v:=?_) (a':=?_) #[true,false,true,false,false,true,false,false,false,false,false,false,false] rfl rfl (any_of HT_.out (by kernel_rfl)) (fun _ _ _ h=>h) (Or.inl ⟨by rfl,?_⟩) ?_ ?_
         rotate_left
         ·intro w'
          go_simp
          with_reducible rfl
         rotate_left
         ·simp only[Act.put,List.setIfInBounds_toArray,List.set_cons_zero,List.set_cons_succ,i64_w,i32_w]
          rfl
         refine pure_ (i:=7) (N:=some 60) (v:=?_) (a':=?_) #[true,false,true,false,false,true,false,true,false,false,false,false,false] rfl rfl (any_of HT_.out (by kernel_rfl)) (fun _ _ _ h=>h) (Or.inl ⟨by rfl,?_⟩) ?_ ?_
         rotate_left
         ·intro w'
          go_simp
          with_reducible rfl
         rotate_left
         ·simp only[Act.put,List.setIfInBounds_toArray,List.set_cons_zero,List.set_cons_succ,i64_w,i32_w]
          rfl
         refine take_ (i:=1) (N:=some 54) (v:=?_) (a':=?_) #[true,true,true,false,false,true,false,true,false,false,false,false,false] rfl rfl (take_ofW HT_.out HW_.out (by kernel_rfl)) (fun _ _ _ h=>h) (Or.inl ⟨by rfl,?_⟩) hHeld ?_ ?_
         rotate_left
         ·rintro w' ⟨s0,s1,s2,s3,s4⟩
          go_simp
          with_reducible rfl
         rotate_left
         ·simp only[Act.put,List.setIfInBounds_toArray,List.set_cons_zero,List.set_cons_succ,i64_w,i32_w]
          rfl
         refine pure_ (i:=3) (N:=some 56) (v:=?_) (a':=?_) #[true,true,true,true,false,true,false,true,false,false,false,false,false] rfl rfl (any_of HT_.out (by kernel_rfl)) (fun _ _ _ h=>h) (Or.inl ⟨by rfl,?_⟩) ?_ ?_
         rotate_left
         ·intro w'
          go_simp
          with_reducible rfl
         rotate_left
         ·simp only[Act.put,List.setIfInBounds_toArray,List.set_cons_zero,List.set_cons_succ,i64_w,i32_w]
          rfl
         refine take_ (i:=4) (N:=some 57) (v:=?_) (a':=?_) #[true,true,true,true,true,true,false,true,false,false,false,false,false] rfl rfl (take_ofW HT_.out HW_.out (by kernel_rfl)) (fun _ _ _ h=>h) (Or.inl ⟨by rfl,?_⟩) hHeld ?_ ?_
         rotate_left
         ·rintro w' ⟨s0,s1,s2,s3,s4⟩
          go_simp
          with_reducible rfl
         rotate_left
         ·simp only[Act.put,List.setIfInBounds_toArray,List.set_cons_zero,List.set_cons_succ,i64_w,i32_w]
          rfl
         refine take_ (i:=6) (N:=some 59) (v:=?_) (a':=?_) #[true,true,true,true,true,true,true,true,false,false,false,false,false] rfl rfl (take_ofW HT_.out HW_.out (by kernel_rfl)) (fun _ _ _ h=>h) (Or.inl ⟨by rfl,?_⟩) hHeld ?_ ?_
         rotate_left
         ·rintro w' ⟨s0,s1,s2,s3,s4⟩
          go_simp
          with_reducible rfl
         rotate_left
         ·simp only[Act.put,List.setIfInBounds_toArray,List.set_cons_zero,List.set_cons_succ,i64_w,i32_w]
          rfl
         refine pure_ (i:=8) (N:=some 61) (v:=?_) (a':=?_) #[true,true,true,true,true,true,true,true,true,false,false,false,false] rfl rfl (any_of HT_.out (by kernel_rfl)) (fun _ _ _ h=>h) (Or.inl ⟨by rfl,?_⟩) ?_ ?_
         rotate_left
         ·intro w'
          go_simp
          with_reducible rfl
         rotate_left
         ·simp only[Act.put,List.setIfInBounds_toArray,List.set_cons_zero,List.set_cons_succ,i64_w,i32_w]
          rfl
         refine take_ (i:=9) (N:=some 62) (v:=?_) (a':=?_) #[true,true,true,true,true,true,true,true,true,true,false,false,false] rfl rfl (take_ofW HT_.out HW_.out (by kernel_rfl)) (fun _ _ _ h=>h) (Or.inl ⟨by rfl,?_⟩) hHeld ?_ ?_
         rotate_left
         ·rintro w' ⟨s0,s1,s2,s3,s4⟩
          go_simp
          with_reducible rfl
         rotate_left
         ·simp only[Act.put,List.setIfInBounds_toArray,List.set_cons_zero,List.set_cons_succ,i64_w,i32_w]
          rfl
         refine pure_ (i:=10) (N:=some 63) (v:=?_) (a':=?_) #[true,true,true,true,true,true,true,true,true,true,true,false,false] rfl rfl (any_of HT_.out (by kernel_rfl)) (fun _ _ _ h=>h) (Or.inl ⟨by rfl,?_⟩) ?_ ?_
         rotate_left
         ·intro w'
          go_simp
          with_reducible rfl
         rotate_left
         ·simp only[Act.put,List.setIfInBounds_toArray,List.set_cons_zero,List.set_cons_succ,i64_w,i32_w]
          rfl
         refine pure_ (i:=11) (N:=some 64) (v:=?_) (a':=?_) #[true,true,true,true,true,true,true,true,true,true,true,true,false] rfl rfl (any_of HT_.out (by kernel_rfl)) (fun _ _ _ h=>h) (Or.inl ⟨by rfl,?_⟩) ?_ ?_
         rotate_left
         ·intro w'
          go_simp
          with_reducible rfl
         rotate_left
         ·simp only[Act.put,List.setIfInBounds_toArray,List.set_cons_zero,List.set_cons_succ,i64_w,i32_w]
          rfl
         refine last_ (i:=12) (N:=none) #[true,true,true,true,true,true,true,true,true,true,true,true,true] rfl rfl (one_of HT_.out (by kernel_rfl)) (by decide) (fun K hK => ?_)
         refine skip_ (w1:=?_) (by rfl) rfl ?_ ?_
         rotate_left
         ·go_simp
          rfl
         refine hK.out _ _ ?_
         clear hK K
         refine done_ (done_of HT_.out (by kernel_rfl)) ?_
         have n0_:Aside0 (Kd.R (Kd.int .i64) 3 (w43.setCell ⟨go33,(a1:Int).toNat,none⟩ (.int .i64 (wrap64 ((rd y135 a1) - (rd y135 a2))))) w0.heap.size (fun k_=>(P0_0_ k_∨w.heap.size≤k_)) (.slice (some ⟨go33,0,none⟩) l0_0.length co35) y138):=⟨by(with_reducible repeat (first|apply Kd.R_alloc|apply Kd.R_drewN|apply Kd.R_drew));exact HQ44.out⟩
         have n1_:Aside0 ((w43.setCell ⟨go33,(a1:Int).toNat,none⟩ (.int .i64 (wrap64 ((rd y135 a1) - (rd y135 a2))))).heap[gb129]?=some (.cells #[.slice (some ⟨go33,0,none⟩) l0_0.length co35,.int .i64 a0_1,.bool a0_2] 39 (0,0))):=⟨by(with_reducible repeat (first|refine blk_drewN ?_ _|refine blk_drew ?_|refine blk_alloc ?_ _));refine blk_far ?_ (by have h_:=Kd.R_ne HO0_0.out BK129.out (by decide);intro e_;exact h_ (by rw[e_];rfl)) _;(with_reducible repeat (first|refine blk_drewN ?_ _|refine blk_drew ?_|refine blk_alloc ?_ _));exact BK129.out⟩
         have n2_:Aside0 ((w43.setCell ⟨go33,(a1:Int).toNat,none⟩ (.int .i64 (wrap64 ((rd y135 a1) - (rd y135 a2))))).heap[gb130]?=some (.cells #[.slice none 0 0,.int .i64 0,.bool false] 39 (0,0))):=⟨by(with_reducible repeat (first|refine blk_drewN ?_ _|refine blk_drew ?_|refine blk_alloc ?_ _));refine blk_far ?_ (by have h_:=Kd.R_ne HO0_0.out BK130.out (by decide);intro e_;exact h_ (by rw[e_];rfl)) _;(with_reducible repeat (first|refine blk_drewN ?_ _|refine blk_drew ?_|refine blk_alloc ?_ _));exact BK130.out⟩
         have n3_:Aside0 (Kept w (w43.setCell ⟨go33,(a1:Int).toNat,none⟩ (.int .i64 (wrap64 ((rd y135 a1) - (rd y135 a2))))) (fun k_=>P0_0_ k_)):=⟨by repeat (first|(with_reducible first|exact HK.out|apply Kept.alloc|apply Kept.drewN|apply Kept.drew|refine Kept.setCell ?_ HMgo33.out _|refine Kept.setCell ?_ (.inr GW129.out) _|refine Kept.setCell ?_ (.inr GW130.out) _)|exact HK.out)⟩
         have n4_:Aside0 (Below w0.heap.size w0 (w43.setCell ⟨go33,(a1:Int).toNat,none⟩ (.int .i64 (wrap64 ((rd y135 a1) - (rd y135 a2)))))):=⟨bS3 GB33.out GE129.out GE130.out⟩
         (try clear HO0_0)
         (try clear BK129)
         (try clear BK130)
         (try clear HK)
         (try clear HB)
         generalize (w43.setCell ⟨go33,(a1:Int).toNat,none⟩ (.int .i64 (wrap64 ((rd y135 a1) - (rd y135 a2)))))=w45 at n0_ n1_ n2_ n3_ n4_ ⊢
         have HO0_0:=n0_
         have BK129:=n1_
         have BK130:=n2_
         have HK:=n3_
         have HB:=n4_
         clear n0_ n1_ n2_ n3_ n4_
         obtain⟨hcz46_0,hcz46_1,hcz46_2⟩:=cC3 BK129.out
         obtain⟨hfz46_0,hfz46_1,hfz46_2⟩:=cF3 BK129.out
         obtain⟨hcz47_0,hcz47_1,hcz47_2⟩:=cC3 BK130.out
         obtain⟨hfz47_0,hfz47_1,hfz47_2⟩:=cF3 BK130.out
         try go_wp2
         refine bodyPost_ret (results_cell_row rfl _ _ gb130 39 #[.slice (some ⟨go33,0,none⟩) l0_0.length co35,.int .i64 a0_1,.bool a0_2] (0,0) _ rfl (by(with_reducible repeat (first|refine blk_drewN ?_ _|refine blk_drew ?_|refine blk_alloc ?_ _));refine blk_put (cs:=#[.slice (some ⟨go33,0,none⟩) l0_0.length co35,.int .i64 a0_1,.bool false]) ?_ 2 _ rfl;(with_reducible repeat (first|refine blk_drewN ?_ _|refine blk_drew ?_|refine blk_alloc ?_ _));refine blk_put (cs:=#[.slice (some ⟨go33,0,none⟩) l0_0.length co35,.int .i64 0,.bool false]) ?_ 1 _ rfl;(with_reducible repeat (first|refine blk_drewN ?_ _|refine blk_drew ?_|refine blk_alloc ?_ _));refine blk_put (cs:=#[.slice none 0 0,.int .i64 0,.bool false]) ?_ 0 _ rfl;(with_reducible repeat (first|refine blk_drewN ?_ _|refine blk_drew ?_|refine blk_alloc ?_ _));exact BK130.out) Try.underlying39 rfl (by kernel_rfl)) rfl ?_
         exact⟨_,by first|rfl|(simp[errW_none,errW_some]<;>rfl)|(simp[*,errW_none,errW_some]<;>rfl),by(with_reducible repeat (first|apply Kd.R_alloc|apply Kd.R_drewN|apply Kd.R_drew));exact Kd.R_mono (Kd.R_far (p:=⟨gb130,2,none⟩) (Kd.R_far (p:=⟨gb130,1,none⟩) (Kd.R_far (p:=⟨gb130,0,none⟩) (Kd.R_types HO0_0.out BK130.out (by decide)) (fun _ hk=>hk.2) (.slice (some ⟨go33,0,none⟩) l0_0.length co35)) (fun _ hk=>hk.2) (.int .i64 a0_1)) (fun _ hk=>hk.2) (.bool a0_2)) (fun _ hk=>hk.1),bS2 GE129.out GE130.out,by repeat (first|(with_reducible first|exact HK.out|apply Kept.alloc|apply Kept.drewN|apply Kept.drew|refine Kept.setCell ?_ (.inr GW129.out) _|refine Kept.setCell ?_ (.inr GW130.out) _)|exact HK.out)⟩
        ·rw[if_neg c32] at H
         have c32b0:((rd l0_0 a2) == 0)=false:=beq_eq_false_iff_ne.mpr c32
         have c32b1:((rd l0_0 a2) != 0)=true:=bne_iff_ne.mpr c32
         simp only[Option.some.injEq,Prod.mk.injEq] at H
         obtain⟨rfl,rfl,rfl⟩:=H
         obtain⟨Ao48,co48,eo48⟩:=Kd.R_slice HO0_0.out
         subst eo48
         go_enter Try.func150,Try.ntmps150
         go_wp2_with (first|((with_reducible refine gate_dst (N:=3) rfl ?_);refine box_event ?hg (N:=3) ?hd (cs:=#[.slice Ao48 l0_0.length co48,.int .i64 a0_1,.bool a0_2]) (t:=39) ?hr ?_;(case hd=>rfl);(case hg=>rfl);(case hr=>first|(go_simp;done)|(go_simp;rfl));intro gb129 hg w49 hbox hb;have n0_:=Aside0.mk (Kd.R_below (bK HO0_0.out) hb);have n1_:=Aside0.mk (Kept.below (S:=(fun k_=>P0_0_ k_)) (by repeat (first|(with_reducible first|exact HK.out|apply Kept.alloc|apply Kept.drewN|apply Kept.drew)|exact HK.out)) hb);have n2_:=Aside0.mk (below_step (bB) hb);have n3_:=Aside0.mk (hbox);have n4_:=Aside0.mk ((by rw[hg];exact(by first|exact HK.out.1|exact(show Kept w _ (fun k_=>P0_0_ k_) from by repeat (first|(with_reducible first|exact HK.out|apply Kept.alloc|apply Kept.drewN|apply Kept.drew)|exact HK.out)).1):w.heap.size≤gb129));have n5_:=Aside0.mk ((bG:w0.heap.size≤gb129));clear HO0_0 HK HB;have HO0_0:=n0_;have HK:=n1_;have HB:=n2_;have BK129:=n3_;have GW129:=n4_;have GE129:=n5_;clear n0_ n1_ n2_ n3_ n4_ n5_;clear hb hbox hg)|((with_reducible refine gate_dst (N:=6) rfl ?_);refine box_event ?hg (N:=6) ?hd (cs:=#[.slice none 0 0,.int .i64 0,.bool false]) (t:=39) ?hr ?_;(case hd=>rfl);(case hg=>rfl);(case hr=>first|(go_simp;done)|(go_simp;rfl));intro gb130 hg w50 hbox hb;have n0_:=Aside0.mk (Kd.R_below (bK HO0_0.out) hb);have n1_:=Aside0.mk (bM BK129.out hb);have n2_:=Aside0.mk (Kept.below (S:=(fun k_=>P0_0_ k_)) (by repeat (first|(with_reducible first|exact HK.out|apply Kept.alloc|apply Kept.drewN|apply Kept.drew|refine Kept.setCell ?_ (.inr GW129.out) _)|exact HK.out)) hb);have n3_:=Aside0.mk (below_step (bS GE129.out) hb);have n4_:=Aside0.mk (hbox);have n5_:=Aside0.mk ((by rw[hg];exact(by first|exact HK.out.1|exact(show Kept w _ (fun k_=>P0_0_ k_) from by repeat (first|(with_reducible first|exact HK.out|apply Kept.alloc|apply Kept.drewN|apply Kept.drew|refine Kept.setCell ?_ (.inr GW129.out) _)|exact HK.out)).1):w.heap.size≤gb130));have n6_:=Aside0.mk ((by rw[hg];exact(below_size (bS GE129.out)):w0.heap.size≤gb130));have n7_:=Aside0.mk ((bN BK129.out hg:gb129≠gb130));have n8_:=Aside0.mk ((bO BK129.out hg:gb130≠gb129));clear HO0_0 BK129 HK HB;have HO0_0:=n0_;have BK129:=n1_;have HK:=n2_;have HB:=n3_;have BK130:=n4_;have GW130:=n5_;have GE130:=n6_;have NB129_130:=n7_;have NB130_129:=n8_;clear n0_ n1_ n2_ n3_ n4_ n5_ n6_ n7_ n8_;clear hb hbox hg;have hnb51:=NB129_130.out;have hnc51:=NB130_129.out;obtain⟨hcz52_0,hcz52_1,hcz52_2⟩:=cC3 BK129.out;obtain⟨hfz52_0,hfz52_1,hfz52_2⟩:=cF3 BK129.out;have p132:0≤(a1:Int):=of_decide_eq_true (bD);have q132:a1 < (l0_0.length:Int):=of_decide_eq_true (bD);obtain⟨ad132,e132,hx132_0⟩:=Kd.at_int (Kd.R_reads' HO0_0.out).2.2 a1 p132 q132;cases e132;replace p132:=eq_true p132;replace q132:=eq_true q132;have p133:0≤(a2:Int):=of_decide_eq_true (bD);have q133:a2 < (l0_0.length:Int):=of_decide_eq_true (bD);obtain⟨ad133,e133,hx133_0⟩:=Kd.at_int (Kd.R_reads' HO0_0.out).2.2 a2 p133 q133;obtain rfl:ad132=ad133:=(by injection e133);replace p133:=eq_true p133;replace q133:=eq_true q133;obtain⟨hcz53_0,hcz53_1,hcz53_2⟩:=cC3 BK130.out;obtain⟨hfz53_0,hfz53_1,hfz53_2⟩:=cF3 BK130.out))
         refine bodyPost_ret (results_cell_row rfl _ _ gb130 39 #[.slice (some ad132) l0_0.length co48,.int .i64 a0_1,.bool a0_2] (0,0) _ rfl (by(with_reducible repeat (first|refine blk_drewN ?_ _|refine blk_drew ?_|refine blk_alloc ?_ _));refine blk_put (cs:=#[.slice (some ad132) l0_0.length co48,.int .i64 a0_1,.bool false]) ?_ 2 _ rfl;(with_reducible repeat (first|refine blk_drewN ?_ _|refine blk_drew ?_|refine blk_alloc ?_ _));refine blk_put (cs:=#[.slice (some ad132) l0_0.length co48,.int .i64 0,.bool false]) ?_ 1 _ rfl;(with_reducible repeat (first|refine blk_drewN ?_ _|refine blk_drew ?_|refine blk_alloc ?_ _));refine blk_put (cs:=#[.slice none 0 0,.int .i64 0,.bool false]) ?_ 0 _ rfl;(with_reducible repeat (first|refine blk_drewN ?_ _|refine blk_drew ?_|refine blk_alloc ?_ _));exact BK130.out) Try.underlying39 rfl (by kernel_rfl)) rfl ?_
         exact⟨_,by first|rfl|(simp[errW_none,errW_some]<;>rfl)|(simp[*,errW_none,errW_some]<;>rfl),by(with_reducible repeat (first|apply Kd.R_alloc|apply Kd.R_drewN|apply Kd.R_drew));exact Kd.R_mono (Kd.R_far (p:=⟨gb130,2,none⟩) (Kd.R_far (p:=⟨gb130,1,none⟩) (Kd.R_far (p:=⟨gb130,0,none⟩) (Kd.R_types HO0_0.out BK130.out (by decide)) (fun _ hk=>hk.2) (.slice (some ad132) l0_0.length co48)) (fun _ hk=>hk.2) (.int .i64 a0_1)) (fun _ hk=>hk.2) (.bool a0_2)) (fun _ hk=>hk.1),bS2 GE129.out GE130.out,by repeat (first|(with_reducible first|exact HK.out|apply Kept.alloc|apply Kept.drewN|apply Kept.drew|refine Kept.setCell ?_ (.inr GW129.out) _|refine Kept.setCell ?_ (.inr GW130.out) _)|exact HK.out)⟩
       ·rw[if_neg c31] at H
        exact absurd H (by simp)
      ·rw[if_neg c30] at H
       exact absurd H (by simp)
     ·rw[if_neg c29] at H
      have c29b0:decide (2≤(rd l0_0 a1))=false:=decide_eq_false c29
      clear c29
      simp only[Option.some.injEq,Prod.mk.injEq] at H
      obtain⟨rfl,rfl,rfl⟩:=H
      obtain⟨Ao54,co54,eo54⟩:=Kd.R_slice HO0_0.out
      subst eo54
      go_enter Try.func150,Try.ntmps150
      go_wp2_with (first|((with_reducible refine gate_dst (N:=3) rfl ?_);refine box_event ?hg (N:=3) ?hd (cs:=#[.slice Ao54 l0_0.length co54,.int .i64 a0_1,.bool a0_2]) (t:=39) ?hr ?_;(case hd=>rfl);(case hg=>rfl);(case hr=>first|(go_simp;done)|(go_simp;rfl));intro gb129 hg w55 hbox hb;have n0_:=Aside0.mk (Kd.R_below (bK HO0_0.out) hb);have n1_:=Aside0.mk (Kept.below (S:=(fun k_=>P0_0_ k_)) (by repeat (first|(with_reducible first|exact HK.out|apply Kept.alloc|apply Kept.drewN|apply Kept.drew)|exact HK.out)) hb);have n2_:=Aside0.mk (below_step (bB) hb);have n3_:=Aside0.mk (hbox);have n4_:=Aside0.mk ((by rw[hg];exact(by first|exact HK.out.1|exact(show Kept w _ (fun k_=>P0_0_ k_) from by repeat (first|(with_reducible first|exact HK.out|apply Kept.alloc|apply Kept.drewN|apply Kept.drew)|exact HK.out)).1):w.heap.size≤gb129));have n5_:=Aside0.mk ((bG:w0.heap.size≤gb129));clear HO0_0 HK HB;have HO0_0:=n0_;have HK:=n1_;have HB:=n2_;have BK129:=n3_;have GW129:=n4_;have GE129:=n5_;clear n0_ n1_ n2_ n3_ n4_ n5_;clear hb hbox hg)|((with_reducible refine gate_dst (N:=6) rfl ?_);refine box_event ?hg (N:=6) ?hd (cs:=#[.slice none 0 0,.int .i64 0,.bool false]) (t:=39) ?hr ?_;(case hd=>rfl);(case hg=>rfl);(case hr=>first|(go_simp;done)|(go_simp;rfl));intro gb130 hg w56 hbox hb;have n0_:=Aside0.mk (Kd.R_below (bK HO0_0.out) hb);have n1_:=Aside0.mk (bM BK129.out hb);have n2_:=Aside0.mk (Kept.below (S:=(fun k_=>P0_0_ k_)) (by repeat (first|(with_reducible first|exact HK.out|apply Kept.alloc|apply Kept.drewN|apply Kept.drew|refine Kept.setCell ?_ (.inr GW129.out) _)|exact HK.out)) hb);have n3_:=Aside0.mk (below_step (bS GE129.out) hb);have n4_:=Aside0.mk (hbox);have n5_:=Aside0.mk ((by rw[hg];exact(by first|exact HK.out.1|exact(show Kept w _ (fun k_=>P0_0_ k_) from by repeat (first|(with_reducible first|exact HK.out|apply Kept.alloc|apply Kept.drewN|apply Kept.drew|refine Kept.setCell ?_ (.inr GW129.out) _)|exact HK.out)).1):w.heap.size≤gb130));have n6_:=Aside0.mk ((by rw[hg];exact(below_size (bS GE129.out)):w0.heap.size≤gb130));have n7_:=Aside0.mk ((bN BK129.out hg:gb129≠gb130));have n8_:=Aside0.mk ((bO BK129.out hg:gb130≠gb129));clear HO0_0 BK129 HK HB;have HO0_0:=n0_;have BK129:=n1_;have HK:=n2_;have HB:=n3_;have BK130:=n4_;have GW130:=n5_;have GE130:=n6_;have NB129_130:=n7_;have NB130_129:=n8_;clear n0_ n1_ n2_ n3_ n4_ n5_ n6_ n7_ n8_;clear hb hbox hg;have hnb57:=NB129_130.out;have hnc57:=NB130_129.out;obtain⟨hcz58_0,hcz58_1,hcz58_2⟩:=cC3 BK129.out;obtain⟨hfz58_0,hfz58_1,hfz58_2⟩:=cF3 BK129.out;have p132:0≤(a1:Int):=of_decide_eq_true (bD);have q132:a1 < (l0_0.length:Int):=of_decide_eq_true (bD);obtain⟨ad132,e132,hx132_0⟩:=Kd.at_int (Kd.R_reads' HO0_0.out).2.2 a1 p132 q132;cases e132;replace p132:=eq_true p132;replace q132:=eq_true q132;obtain⟨hcz59_0,hcz59_1,hcz59_2⟩:=cC3 BK130.out;obtain⟨hfz59_0,hfz59_1,hfz59_2⟩:=cF3 BK130.out))
      refine bodyPost_ret (results_cell_row rfl _ _ gb130 39 #[.slice (some ad132) l0_0.length co54,.int .i64 a0_1,.bool a0_2] (0,0) _ rfl (by(with_reducible repeat (first|refine blk_drewN ?_ _|refine blk_drew ?_|refine blk_alloc ?_ _));refine blk_put (cs:=#[.slice (some ad132) l0_0.length co54,.int .i64 a0_1,.bool false]) ?_ 2 _ rfl;(with_reducible repeat (first|refine blk_drewN ?_ _|refine blk_drew ?_|refine blk_alloc ?_ _));refine blk_put (cs:=#[.slice (some ad132) l0_0.length co54,.int .i64 0,.bool false]) ?_ 1 _ rfl;(with_reducible repeat (first|refine blk_drewN ?_ _|refine blk_drew ?_|refine blk_alloc ?_ _));refine blk_put (cs:=#[.slice none 0 0,.int .i64 0,.bool false]) ?_ 0 _ rfl;(with_reducible repeat (first|refine blk_drewN ?_ _|refine blk_drew ?_|refine blk_alloc ?_ _));exact BK130.out) Try.underlying39 rfl (by kernel_rfl)) rfl ?_
      exact⟨_,by first|rfl|(simp[errW_none,errW_some]<;>rfl)|(simp[*,errW_none,errW_some]<;>rfl),by(with_reducible repeat (first|apply Kd.R_alloc|apply Kd.R_drewN|apply Kd.R_drew));exact Kd.R_mono (Kd.R_far (p:=⟨gb130,2,none⟩) (Kd.R_far (p:=⟨gb130,1,none⟩) (Kd.R_far (p:=⟨gb130,0,none⟩) (Kd.R_types HO0_0.out BK130.out (by decide)) (fun _ hk=>hk.2) (.slice (some ad132) l0_0.length co54)) (fun _ hk=>hk.2) (.int .i64 a0_1)) (fun _ hk=>hk.2) (.bool a0_2)) (fun _ hk=>hk.1),bS2 GE129.out GE130.out,by repeat (first|(with_reducible first|exact HK.out|apply Kept.alloc|apply Kept.drewN|apply Kept.drew|refine Kept.setCell ?_ (.inr GW129.out) _|refine Kept.setCell ?_ (.inr GW130.out) _)|exact HK.out)⟩
    ·rw[if_neg c28] at H
     exact absurd H (by simp)
   ·rw[if_neg c27] at H
    exact absurd H (by simp)

end Go.Proofs.Ytnphabcbnpenjaa.XFnExactMeetBoth
