-- Written by this session's own program (wip/xprint.py) out of the translation; Lean checks it.
import Derived.Test.YtjmanpicdeebgaaXFnExactTreeForx0
namespace Go.Proofs.Ytjmanpicdeebgaa.XFnExactTreeFor
open Go.RowKit Go.Proofs.YtjmanpicdeebgaaW.PrintWords Go.Proofs.YtjmanpicdeebgaaW.PrintLast Go.Proofs.YtjmanpicdeebgaaW.PrintMore
attribute [local go_sem] max2_int min2_int max_two min_two max_three min_three max_four min_four   -- for this text's walks alone
set_option linter.unusedVariables false
set_option linter.unusedSimpArgs false

/-! ### laws_szContactS: function 47 -/
def laws_szContactS.f (l0:List (S167)) (a1:Int):Option (Int):=if (wrap64 (a1 - (l0.length:Int))) < 0 then (some (-1)) else (some (wrap64 (a1 - (l0.length:Int))))
set_option maxHeartbeats 8000000 in
set_option maxRecDepth 100000 in
theorem laws_szContactS.calls (A0:Option Addr) (c0:Nat) (l0:List (S167)) (a1:Int) (r:Int) (w:World) (hr0:Kd.C k167 w A0 l0.length l0) (hc0:l0.length≤c0) (h:laws_szContactS.f l0 a1=some r) :
  Calls Try.prog 47 #[.slice A0 l0.length c0,.int .i64 a1] w fun e w'=>e=.returned (.int .i64 r)∧Drawn0 w w':=by
 have HR0:=Aside0.mk hr0
 have HC0:=Aside0.mk hc0
 clear hr0 hc0
 have H:(if (wrap64 (a1 - (l0.length:Int))) < 0 then (some (-1)) else (some (wrap64 (a1 - (l0.length:Int)))))=some r:=h
 clear h
 by_cases c3:(wrap64 (a1 - (l0.length:Int))) < 0
 ·rw[if_pos c3] at H
  have c3b0:decide ((wrap64 (a1 - (l0.length:Int))) < 0)=true:=decide_eq_true c3
  clear c3
  obtain rfl:=Option.some.inj H
  go_enter Try.func47,Try.ntmps47
  go_wp2
  go_ret
  exact⟨bR,bW⟩
 ·rw[if_neg c3] at H
  have c3b0:decide ((wrap64 (a1 - (l0.length:Int))) < 0)=false:=decide_eq_false c3
  clear c3
  obtain rfl:=Option.some.inj H
  go_enter Try.func47,Try.ntmps47
  go_wp2
  go_ret
  exact⟨bR,bW⟩

/-! ### laws_szBundle: function 48 -/
def laws_szBundle.f (a0_0:Int) (a0_1:Int) (a0_2:Bool) (a0_3:Int) (a0_4:Int) (a0_5:Int) (a0_6:Int) (a0_7:Int) (a0_8:Int) (a0_9:ByteArray) (a1:Int):Option (Int):=if (wrap64 (a1 - (a0_9.size:Int))) < 0 then (some (-1)) else (some (wrap64 (a1 - (a0_9.size:Int))))
set_option maxHeartbeats 8000000 in
set_option maxRecDepth 100000 in
theorem laws_szBundle.calls (a0_0:Int) (a0_1:Int) (a0_2:Bool) (a0_3:Int) (a0_4:Int) (a0_5:Int) (a0_6:Int) (a0_7:Int) (a0_8:Int) (a0_9:ByteArray) (a1:Int) (r:Int) (w:World) (h:laws_szBundle.f a0_0 a0_1 a0_2 a0_3 a0_4 a0_5 a0_6 a0_7 a0_8 a0_9 a1=some r) :
  Calls Try.prog 48 #[.agg #[.int .i64 a0_0,.int .i64 a0_1,.bool a0_2,.int .i64 a0_3,.int .i64 a0_4,.int .i64 a0_5,.int .i64 a0_6,.int .i64 a0_7,.int .i64 a0_8,.string a0_9],.int .i64 a1] w fun e w'=>e=.returned (.int .i64 r)∧Below w.heap.size w w':=by
 have hu73:=Try.underlying73
 have HB:=Aside0.mk (Below.refl w.heap.size w)
 have H:(if (wrap64 (a1 - (a0_9.size:Int))) < 0 then (some (-1)) else (some (wrap64 (a1 - (a0_9.size:Int)))))=some r:=h
 clear h
 by_cases c3:(wrap64 (a1 - (a0_9.size:Int))) < 0
 ·rw[if_pos c3] at H
  have c3b0:decide ((wrap64 (a1 - (a0_9.size:Int))) < 0)=true:=decide_eq_true c3
  clear c3
  obtain rfl:=Option.some.inj H
  go_enter Try.func48,Try.ntmps48
  go_wp2_with (first|((with_reducible refine gate_dst (N:=2) rfl ?_);refine box_event ?hg (N:=2) ?hd (cs:=#[.int .i64 a0_0,.int .i64 a0_1,.bool a0_2,.int .i64 a0_3,.int .i64 a0_4,.int .i64 a0_5,.int .i64 a0_6,.int .i64 a0_7,.int .i64 a0_8,.string a0_9]) (t:=73) ?hr ?_;(case hd=>rfl);(case hg=>rfl);(case hr=>first|(go_simp;done)|(go_simp;rfl));intro gb101 hg w4 hbox hb;have n0_:=Aside0.mk (below_step (bB) hb);have n1_:=Aside0.mk (hbox);have n2_:=Aside0.mk ((bG:w.heap.size≤gb101));have n3_:=Aside0.mk ((bG:w.heap.size≤gb101));clear HB;have HB:=n0_;have BK101:=n1_;have GW101:=n2_;have GE101:=n3_;clear n0_ n1_ n2_ n3_;clear hb hbox hg;obtain⟨hcz5_0,hcz5_1,hcz5_2,hcz5_3,hcz5_4,hcz5_5,hcz5_6,hcz5_7,hcz5_8,hcz5_9⟩:=cC10 BK101.out;obtain⟨hfz5_0,hfz5_1,hfz5_2,hfz5_3,hfz5_4,hfz5_5,hfz5_6,hfz5_7,hfz5_8,hfz5_9⟩:=cF10 BK101.out))
  go_ret
  exact⟨bE,bS GE101.out⟩
 ·rw[if_neg c3] at H
  have c3b0:decide ((wrap64 (a1 - (a0_9.size:Int))) < 0)=false:=decide_eq_false c3
  clear c3
  obtain rfl:=Option.some.inj H
  go_enter Try.func48,Try.ntmps48
  go_wp2_with (first|((with_reducible refine gate_dst (N:=2) rfl ?_);refine box_event ?hg (N:=2) ?hd (cs:=#[.int .i64 a0_0,.int .i64 a0_1,.bool a0_2,.int .i64 a0_3,.int .i64 a0_4,.int .i64 a0_5,.int .i64 a0_6,.int .i64 a0_7,.int .i64 a0_8,.string a0_9]) (t:=73) ?hr ?_;(case hd=>rfl);(case hg=>rfl);(case hr=>first|(go_simp;done)|(go_simp;rfl));intro gb101 hg w6 hbox hb;have n0_:=Aside0.mk (below_step (bB) hb);have n1_:=Aside0.mk (hbox);have n2_:=Aside0.mk ((bG:w.heap.size≤gb101));have n3_:=Aside0.mk ((bG:w.heap.size≤gb101));clear HB;have HB:=n0_;have BK101:=n1_;have GW101:=n2_;have GE101:=n3_;clear n0_ n1_ n2_ n3_;clear hb hbox hg;obtain⟨hcz7_0,hcz7_1,hcz7_2,hcz7_3,hcz7_4,hcz7_5,hcz7_6,hcz7_7,hcz7_8,hcz7_9⟩:=cC10 BK101.out;obtain⟨hfz7_0,hfz7_1,hfz7_2,hfz7_3,hfz7_4,hfz7_5,hfz7_6,hfz7_7,hfz7_8,hfz7_9⟩:=cF10 BK101.out))
  go_ret
  exact⟨bE,bS GE101.out⟩

/-! ### spec_l1Some: function 160 -/
def spec_l1Some.l0:Nat→List Int→Int→List Int→Int→Int→Option (Bool)
 | 0,_,_,_,_,_=>none
 | k+1,x0,x1,x7,x8,x9=>if x9 < x8 then (if 0≤x9 then (if x9 < (x7.length:Int) then (if (rd x7 x9) < 0 then (some false) else (if (rd x7 x9) ≥ x1 then (some false) else (if x9 > 0 then (if 0≤(wrap64 (x9 - 1)) then (if (wrap64 (x9 - 1)) < (x0.length:Int) then (if (rd x0 (wrap64 (x9 - 1))) ≥ (rd x7 x9) then (some false) else (spec_l1Some.l0 k x0 x1 x7 x8 (wrap64 (x9+1)))) else (none)) else (none)) else (spec_l1Some.l0 k x0 x1 x7 x8 (wrap64 (x9+1)))))) else (none)) else (none)) else (some true)
def spec_l1Some.f (k:Nat) (l0:List Int) (a1:Int):Option (Bool):=spec_l1Some.l0 k l0 a1 l0 (l0.length:Int) 0
theorem spec_l1Some.mono_l : ∀ k,(∀ y0 y1 y2 y3 y4,LeO (spec_l1Some.l0 k y0 y1 y2 y3 y4) (spec_l1Some.l0 (k+1) y0 y1 y2 y3 y4))
 | 0=>fun _ _ _ _ _ r h=>by simp[spec_l1Some.l0] at h
 | k+1=>by
  have ih0:=spec_l1Some.mono_l k
  ·intro y0 y1 y2 y3 y4
   unfold spec_l1Some.l0
   repeat' first
   | (with_reducible exact ih0 _ _ _ _ _)
   | (with_reducible exact LeO.refl _)
   | (with_reducible exact LeO.none _)
   | (with_reducible refine LeO.ite ?_ ?_)
   | (with_reducible refine LeO.bind ?_ (fun _ => ?_))
   | exact ih0 _ _ _ _ _
   | exact LeO.none _
   | refine LeO.ite ?_ ?_
   | refine LeO.bind ?_ (fun _ => ?_)
theorem spec_l1Some.mono : ∀ a0 a1 k,LeO (spec_l1Some.f k a0 a1) (spec_l1Some.f (k+1) a0 a1):=by
 intro a0 a1 k
 have ih0:=spec_l1Some.mono_l k
 unfold spec_l1Some.f
 repeat' first
  | (with_reducible exact ih0 _ _ _ _ _)
  | (with_reducible exact LeO.refl _)
  | (with_reducible exact LeO.none _)
  | (with_reducible refine LeO.ite ?_ ?_)
  | (with_reducible refine LeO.bind ?_ (fun _ => ?_))
  | exact ih0 _ _ _ _ _
  | exact LeO.none _
  | refine LeO.ite ?_ ?_
  | refine LeO.bind ?_ (fun _ => ?_)
set_option maxHeartbeats 8000000 in
set_option maxRecDepth 100000 in
theorem spec_l1Some.calls (k:Nat) (A0:Option Addr) (c0:Nat) (l0:List Int) (a1:Int) (r:Bool) (w:World) (hr0:Kd.C (Kd.int .i64) w A0 l0.length l0) (hc0:l0.length≤c0) (h:spec_l1Some.f k l0 a1=some r) :
  Calls Try.prog 160 #[.slice A0 l0.length c0,.int .i64 a1] w fun e w'=>e=.returned (.bool r)∧Drawn0 w w':=by
 have HR0:=Aside0.mk hr0
 have HC0:=Aside0.mk hc0
 clear hr0 hc0
 have H:(spec_l1Some.l0 k l0 a1 l0 (l0.length:Int) 0)=some r:=h
 clear h
 have H':=Aside0.mk H
 clear H
 go_enter Try.func160,Try.ntmps160
 go_wp2
 go_loopg [9] k (fun kq v9 w' => ∃ (x9_1:Int),v9=.int .i64 x9_1∧Aside0 (spec_l1Some.l0 kq l0 a1 l0 (l0.length:Int) x9_1=some r)∧Aside0 (kq≤k)∧Drawn0 w w')
 case atStart=>exact⟨(0),(bR),H',⟨Nat.le_refl _⟩,bW⟩
 case round =>
  clear H'
  try clear c1
  try clear p2
  obtain⟨x9_1,rfl,HA,HK1,⟨m1,rfl⟩⟩:=hrel
  cases gk with
  | zero=>exact absurd HA.out (by simp[spec_l1Some.l0])
  | succ k1 =>
   have H:=HA.out
   clear HA
   simp only[spec_l1Some.l0] at H
   by_cases c3:x9_1 < (l0.length:Int)
   ·rw[if_pos c3] at H
    have c3b0:decide (x9_1 < (l0.length:Int))=true:=decide_eq_true c3
    clear c3
    by_cases c4:0≤x9_1
    ·rw[if_pos c4] at H
     have c4b0:decide (0≤x9_1)=true:=decide_eq_true c4
     clear c4
     by_cases c5:x9_1 < (l0.length:Int)
     ·rw[if_pos c5] at H
      have c5b0:decide (x9_1 < (l0.length:Int))=true:=decide_eq_true c5
      clear c5
      by_cases c6:(rd l0 x9_1) < 0
      ·rw[if_pos c6] at H
       have c6b0:decide ((rd l0 x9_1) < 0)=true:=decide_eq_true c6
       clear c6
       obtain rfl:=Option.some.inj H
       have p102:0≤(x9_1:Int):=of_decide_eq_true (bD)
       have q102:x9_1 < (l0.length:Int):=of_decide_eq_true (bD)
       obtain⟨ad102,e102,hx102_0⟩:=Kd.at_int HR0.out x9_1 p102 q102
       cases e102
       replace p102:=eq_true p102
       replace q102:=eq_true q102
       go_wp2
       go_ret
       exact⟨bR,bW⟩
      ·rw[if_neg c6] at H
       have c6b0:decide ((rd l0 x9_1) < 0)=false:=decide_eq_false c6
       clear c6
       by_cases c7:(rd l0 x9_1) ≥ a1
       ·rw[if_pos c7] at H
        have c7b0:decide (a1≤(rd l0 x9_1))=true:=decide_eq_true c7
        clear c7
        obtain rfl:=Option.some.inj H
        have p102:0≤(x9_1:Int):=of_decide_eq_true (bD)
        have q102:x9_1 < (l0.length:Int):=of_decide_eq_true (bD)
        obtain⟨ad102,e102,hx102_0⟩:=Kd.at_int HR0.out x9_1 p102 q102
        cases e102
        replace p102:=eq_true p102
        replace q102:=eq_true q102
        go_wp2
        go_ret
        exact⟨bR,bW⟩
       ·rw[if_neg c7] at H
        have c7b0:decide (a1≤(rd l0 x9_1))=false:=decide_eq_false c7
        clear c7
        by_cases c8:x9_1 > 0
        ·rw[if_pos c8] at H
         have c8b0:decide (0 < x9_1)=true:=decide_eq_true c8
         clear c8
         obtain⟨ji9,hji9⟩ : ∃ j_:Int,(wrap64 (x9_1 - 1))=j_:=⟨_,rfl⟩
         replace H:(if 0≤(ji9) then (if (ji9) < (l0.length:Int) then (if (rd l0 (ji9)) ≥ (rd l0 x9_1) then (some false) else (spec_l1Some.l0 k1 l0 a1 l0 (l0.length:Int) (wrap64 (x9_1+1)))) else (none)) else (none))=some r:=by first|(rw[hji9] at H;exact H)|(simp only[hji9] at H ⊢;exact H)
         have hji9w:(IntKind.i64.wrap (x9_1 - 1))=ji9:=(i64_w _).trans hji9
         by_cases c10:0≤(ji9)
         ·rw[if_pos c10] at H
          have c10b0:decide (0≤(ji9))=true:=decide_eq_true c10
          clear c10
          by_cases c11:(ji9) < (l0.length:Int)
          ·rw[if_pos c11] at H
           have c11b0:decide ((ji9) < (l0.length:Int))=true:=decide_eq_true c11
           clear c11
           by_cases c12:(rd l0 (ji9)) ≥ (rd l0 x9_1)
           ·rw[if_pos c12] at H
            have c12b0:decide ((rd l0 x9_1)≤(rd l0 (ji9)))=true:=decide_eq_true c12
            clear c12
            obtain rfl:=Option.some.inj H
            have p102:0≤(x9_1:Int):=of_decide_eq_true (bD)
            have q102:x9_1 < (l0.length:Int):=of_decide_eq_true (bD)
            obtain⟨ad102,e102,hx102_0⟩:=Kd.at_int HR0.out x9_1 p102 q102
            cases e102
            replace p102:=eq_true p102
            replace q102:=eq_true q102
            have p103:0≤((ji9):Int):=of_decide_eq_true (bD)
            have q103:(ji9) < (l0.length:Int):=of_decide_eq_true (bD)
            obtain⟨ad103,e103,hx103_0⟩:=Kd.at_int HR0.out (ji9) p103 q103
            obtain rfl:ad102=ad103:=(by injection e103)
            replace p103:=eq_true p103
            replace q103:=eq_true q103
            go_wp2
            go_ret
            exact⟨by first|rfl|(simp;done)|(simp only[← hji9]<;>(first|rfl|simp))|(simp[*];done),bW⟩
           ·rw[if_neg c12] at H
            have c12b0:decide ((rd l0 x9_1)≤(rd l0 (ji9)))=false:=decide_eq_false c12
            clear c12
            have H':=Aside0.mk H
            clear H
            have p102:0≤(x9_1:Int):=of_decide_eq_true (bD)
            have q102:x9_1 < (l0.length:Int):=of_decide_eq_true (bD)
            obtain⟨ad102,e102,hx102_0⟩:=Kd.at_int HR0.out x9_1 p102 q102
            cases e102
            replace p102:=eq_true p102
            replace q102:=eq_true q102
            have p103:0≤((ji9):Int):=of_decide_eq_true (bD)
            have q103:(ji9) < (l0.length:Int):=of_decide_eq_true (bD)
            obtain⟨ad103,e103,hx103_0⟩:=Kd.at_int HR0.out (ji9) p103 q103
            obtain rfl:ad102=ad103:=(by injection e103)
            replace p103:=eq_true p103
            replace q103:=eq_true q103
            go_wp2
            go_roundg k1
            case measure=>have:=HK1.out;omega
            case rel=>exact⟨(wrap64 (x9_1+1)),(bR),H',⟨by have:=HK1.out;omega⟩,bW⟩
          ·rw[if_neg c11] at H
           exact absurd H (by simp)
         ·rw[if_neg c10] at H
          exact absurd H (by simp)
        ·rw[if_neg c8] at H
         have c8b0:decide (0 < x9_1)=false:=decide_eq_false c8
         clear c8
         have H':=Aside0.mk H
         clear H
         have p102:0≤(x9_1:Int):=of_decide_eq_true (bD)
         have q102:x9_1 < (l0.length:Int):=of_decide_eq_true (bD)
         obtain⟨ad102,e102,hx102_0⟩:=Kd.at_int HR0.out x9_1 p102 q102
         cases e102
         replace p102:=eq_true p102
         replace q102:=eq_true q102
         go_wp2
         go_roundg k1
         case measure=>have:=HK1.out;omega
         case rel=>exact⟨(wrap64 (x9_1+1)),(bR),H',⟨by have:=HK1.out;omega⟩,bW⟩
     ·rw[if_neg c5] at H
      exact absurd H (by simp)
    ·rw[if_neg c4] at H
     exact absurd H (by simp)
   ·rw[if_neg c3] at H
    have c3b0:decide (x9_1 < (l0.length:Int))=false:=decide_eq_false c3
    clear c3
    obtain rfl:=Option.some.inj H
    go_wp2
    go_ret
    exact⟨bR,bW⟩

/-! ### spec_l1In: function 104 -/
def spec_l1In.f (a0:Int) (a1:Int) (a2:Int):Option (Bool):=if a0 ≥ a1 then (some (decide (a0≤a2))) else (some false)
set_option maxHeartbeats 8000000 in
set_option maxRecDepth 100000 in
theorem spec_l1In.calls (a0:Int) (a1:Int) (a2:Int) (r:Bool) (w:World) (h:spec_l1In.f a0 a1 a2=some r) :
  Calls Try.prog 104 #[.int .i64 a0,.int .i64 a1,.int .i64 a2] w fun e w'=>e=.returned (.bool r)∧Drawn0 w w':=by
 have H:(if a0 ≥ a1 then (some (decide (a0≤a2))) else (some false))=some r:=h
 clear h
 by_cases c4:a0 ≥ a1
 ·rw[if_pos c4] at H
  have c4b0:decide (a1≤a0)=true:=decide_eq_true c4
  clear c4
  obtain rfl:=Option.some.inj H
  go_enter Try.func104,Try.ntmps104
  go_wp2
  go_ret
  exact⟨bR,bW⟩
 ·rw[if_neg c4] at H
  have c4b0:decide (a1≤a0)=false:=decide_eq_false c4
  clear c4
  obtain rfl:=Option.some.inj H
  go_enter Try.func104,Try.ntmps104
  go_wp2
  go_ret
  exact⟨bR,bW⟩

/-! ### spec_l6Node: function 229 -/
def spec_l6Node.f (a0:Int):Option (Bool):=if a0 ≥ 0 then (some (decide (a0 < 8))) else (some false)
set_option maxHeartbeats 8000000 in
set_option maxRecDepth 100000 in
theorem spec_l6Node.calls (a0:Int) (r:Bool) (w:World) (h:spec_l6Node.f a0=some r) :
  Calls Try.prog 229 #[.int .i64 a0] w fun e w'=>e=.returned (.bool r)∧Drawn0 w w':=by
 have H:(if a0 ≥ 0 then (some (decide (a0 < 8))) else (some false))=some r:=h
 clear h
 by_cases c2:a0 ≥ 0
 ·rw[if_pos c2] at H
  have c2b0:decide (0≤a0)=true:=decide_eq_true c2
  clear c2
  obtain rfl:=Option.some.inj H
  go_enter Try.func229,Try.ntmps229
  go_wp2
  go_ret
  exact⟨bR,bW⟩
 ·rw[if_neg c2] at H
  have c2b0:decide (0≤a0)=false:=decide_eq_false c2
  clear c2
  obtain rfl:=Option.some.inj H
  go_enter Try.func229,Try.ntmps229
  go_wp2
  go_ret
  exact⟨bR,bW⟩

/-! ### spec_l6When: function 230 -/
def spec_l6When.f (a0:Int):Option (Bool):=(spec_l1In.f a0 0 1000).bind fun t104=>(some t104)
set_option maxHeartbeats 8000000 in
set_option maxRecDepth 100000 in
theorem spec_l6When.calls (a0:Int) (r:Bool) (w:World) (h:spec_l6When.f a0=some r) :
  Calls Try.prog 230 #[.int .i64 a0] w fun e w'=>e=.returned (.bool r)∧Drawn0 w w':=by
 have H:((spec_l1In.f a0 0 1000).bind fun t104=>(some t104))=some r:=h
 clear h
 replace H:=Option.bind_eq_some_iff.mp H
 obtain⟨t104,A20,H⟩:=H
 have A2:=Aside0.mk A20
 clear A20
 obtain rfl:=Option.some.inj H
 go_enter Try.func230,Try.ntmps230
 go_wp2_with (first|((with_reducible refine gate_callee (f:=104) rfl ?_);refine goesA (some 4) rfl rfl Try.func104 #[.int .i64 a0,.int .i64 0,.int .i64 1000] rfl ?_;(with_reducible refine(spec_l1In.calls a0 0 1000 t104 _ A2.out).mono ?_);rintro e w' ⟨rfl,⟨nd,rfl⟩⟩;refine⟨_,rfl,?_⟩))
 go_ret
 exact⟨bR,bW⟩

/-! ### spec_GoodPlan: function 227 -/
def spec_GoodPlan.l0:Nat→List (S165)→List (S165)→Int→Int→Option (Bool)
 | 0,_,_,_,_=>none
 | k+1,x0,x5,x6,x7=>if x7 < x6 then (if 0≤x7 then (if x7 < (x5.length:Int) then ((spec_l6Node.f ((rd_T165 x5 x7).f0)).bind fun t107=>(if t107=true then ((spec_l6Node.f ((rd_T165 x5 x7).f1)).bind fun t108=>(if t108=true then (if ((rd_T165 x5 x7).f0)=((rd_T165 x5 x7).f1) then (some false) else ((spec_l6When.f ((rd_T165 x5 x7).f3)).bind fun t109=>(if t109=true then (if ((rd_T165 x5 x7).f2) < 0 then (some false) else (if ((rd_T165 x5 x7).f2) ≥ ((rd_T165 x5 x7).f3) then (some false) else ((spec_l1In.f ((rd_T165 x5 x7).f4) 0 100).bind fun t110=>(if t110=true then (spec_GoodPlan.l0 k x0 x5 x6 (wrap64 (x7+1))) else (some false))))) else (some false)))) else (some false))) else (some false))) else (none)) else (none)) else (some (decide ((x0.length:Int)≤20)))
def spec_GoodPlan.f (k:Nat) (l0:List (S165)):Option (Bool):=spec_GoodPlan.l0 k l0 l0 (l0.length:Int) 0
theorem spec_GoodPlan.mono_l : ∀ k,(∀ y0 y1 y2 y3,LeO (spec_GoodPlan.l0 k y0 y1 y2 y3) (spec_GoodPlan.l0 (k+1) y0 y1 y2 y3))
 | 0=>fun _ _ _ _ r h=>by simp[spec_GoodPlan.l0] at h
 | k+1=>by
  have ih0:=spec_GoodPlan.mono_l k
  ·intro y0 y1 y2 y3
   unfold spec_GoodPlan.l0
   repeat' first
   | (with_reducible exact ih0 _ _ _ _)
   | (with_reducible exact LeO.refl _)
   | (with_reducible exact LeO.none _)
   | (with_reducible refine LeO.ite ?_ ?_)
   | (with_reducible refine LeO.bind ?_ (fun _ => ?_))
   | exact ih0 _ _ _ _
   | exact LeO.none _
   | refine LeO.ite ?_ ?_
   | refine LeO.bind ?_ (fun _ => ?_)
theorem spec_GoodPlan.mono : ∀ a0 k,LeO (spec_GoodPlan.f k a0) (spec_GoodPlan.f (k+1) a0):=by
 intro a0 k
 have ih0:=spec_GoodPlan.mono_l k
 unfold spec_GoodPlan.f
 repeat' first
  | (with_reducible exact ih0 _ _ _ _)
  | (with_reducible exact LeO.refl _)
  | (with_reducible exact LeO.none _)
  | (with_reducible refine LeO.ite ?_ ?_)
  | (with_reducible refine LeO.bind ?_ (fun _ => ?_))
  | exact ih0 _ _ _ _
  | exact LeO.none _
  | refine LeO.ite ?_ ?_
  | refine LeO.bind ?_ (fun _ => ?_)
set_option maxHeartbeats 8000000 in
set_option maxRecDepth 100000 in
theorem spec_GoodPlan.calls (k:Nat) (A0:Option Addr) (c0:Nat) (l0:List (S165)) (r:Bool) (w:World) (hr0:Kd.C k165 w A0 l0.length l0) (hc0:l0.length≤c0) (h:spec_GoodPlan.f k l0=some r) :
  Calls Try.prog 227 #[.slice A0 l0.length c0] w fun e w'=>e=.returned (.bool r)∧Below w.heap.size w w':=by
 have hu165:=Try.underlying165
 have HR0:=Aside0.mk hr0
 have HC0:=Aside0.mk hc0
 clear hr0 hc0
 have HB:=Aside0.mk (Below.refl w.heap.size w)
 have H:(spec_GoodPlan.l0 k l0 l0 (l0.length:Int) 0)=some r:=h
 clear h
 have H':=Aside0.mk H
 clear H
 go_enter Try.func227,Try.ntmps227
 go_wp2
 go_loopg [7] k (fun kq v7 w' => ∃ (x7_1:Int),v7=.int .i64 x7_1∧Aside0 (spec_GoodPlan.l0 kq l0 l0 (l0.length:Int) x7_1=some r)∧Aside0 (kq≤k)∧Aside0 (Below w.heap.size w w'))
 case atStart=>exact⟨(0),(bR),H',⟨Nat.le_refl _⟩,⟨by repeat (first|(with_reducible first|exact HB.out|apply below_alloc|apply pw_below_drewN|apply below_drew1)|exact HB.out)⟩⟩
 case round =>
  clear H'
  obtain⟨x7_1,rfl,HA,HK1,HB⟩:=hrel
  cases gk with
  | zero=>exact absurd HA.out (by simp[spec_GoodPlan.l0])
  | succ k1 =>
   have H:=HA.out
   clear HA
   simp only[spec_GoodPlan.l0] at H
   by_cases c2:x7_1 < (l0.length:Int)
   ·rw[if_pos c2] at H
    have c2b0:decide (x7_1 < (l0.length:Int))=true:=decide_eq_true c2
    clear c2
    by_cases c3:0≤x7_1
    ·rw[if_pos c3] at H
     have c3b0:decide (0≤x7_1)=true:=decide_eq_true c3
     clear c3
     by_cases c4:x7_1 < (l0.length:Int)
     ·rw[if_pos c4] at H
      have c4b0:decide (x7_1 < (l0.length:Int))=true:=decide_eq_true c4
      clear c4
      replace H:=Option.bind_eq_some_iff.mp H
      obtain⟨t107,A50,H⟩:=H
      have A5:=Aside0.mk A50
      clear A50
      by_cases c6:t107=true
      ·subst c6
       have H1:((spec_l6Node.f ((rd_T165 l0 x7_1).f1)).bind fun t108=>(if t108=true then (if ((rd_T165 l0 x7_1).f0)=((rd_T165 l0 x7_1).f1) then (some false) else ((spec_l6When.f ((rd_T165 l0 x7_1).f3)).bind fun t109=>(if t109=true then (if ((rd_T165 l0 x7_1).f2) < 0 then (some false) else (if ((rd_T165 l0 x7_1).f2) ≥ ((rd_T165 l0 x7_1).f3) then (some false) else ((spec_l1In.f ((rd_T165 l0 x7_1).f4) 0 100).bind fun t110=>(if t110=true then (spec_GoodPlan.l0 k1 l0 l0 (l0.length:Int) (wrap64 (x7_1+1))) else (some false))))) else (some false)))) else (some false)))=some r:=by rw[if_pos rfl] at H;exact H
       clear H
       have H:=H1
       clear H1
       replace H:=Option.bind_eq_some_iff.mp H
       obtain⟨t108,A70,H⟩:=H
       have A7:=Aside0.mk A70
       clear A70
       by_cases c8:t108=true
       ·subst c8
        have H1:(if ((rd_T165 l0 x7_1).f0)=((rd_T165 l0 x7_1).f1) then (some false) else ((spec_l6When.f ((rd_T165 l0 x7_1).f3)).bind fun t109=>(if t109=true then (if ((rd_T165 l0 x7_1).f2) < 0 then (some false) else (if ((rd_T165 l0 x7_1).f2) ≥ ((rd_T165 l0 x7_1).f3) then (some false) else ((spec_l1In.f ((rd_T165 l0 x7_1).f4) 0 100).bind fun t110=>(if t110=true then (spec_GoodPlan.l0 k1 l0 l0 (l0.length:Int) (wrap64 (x7_1+1))) else (some false))))) else (some false))))=some r:=by rw[if_pos rfl] at H;exact H
        clear H
        have H:=H1
        clear H1
        by_cases c9:((rd_T165 l0 x7_1).f0)=((rd_T165 l0 x7_1).f1)
        ·rw[if_pos c9] at H
         have c9b0:(((rd_T165 l0 x7_1).f0) == ((rd_T165 l0 x7_1).f1))=true:=beq_iff_eq.mpr c9
         have c9b1:(((rd_T165 l0 x7_1).f0) != ((rd_T165 l0 x7_1).f1))=false:=bne_eq_false_iff_eq.mpr c9
         clear c9
         obtain rfl:=Option.some.inj H
         have p105:0≤(x7_1:Int):=of_decide_eq_true (bD)
         have q105:x7_1 < (l0.length:Int):=of_decide_eq_true (bD)
         obtain⟨ad105,e105,hx105_0,hx105_1,hx105_2,hx105_3,hx105_4⟩:=at_T165 HR0.out x7_1 p105 q105
         cases e105
         replace hx105_0:=(HB.out.cell (World.block_lt_of_cell? w _ hx105_0)).trans hx105_0
         replace hx105_1:=(HB.out.cell (World.block_lt_of_cell? w _ hx105_1)).trans hx105_1
         replace hx105_2:=(HB.out.cell (World.block_lt_of_cell? w _ hx105_2)).trans hx105_2
         replace hx105_3:=(HB.out.cell (World.block_lt_of_cell? w _ hx105_3)).trans hx105_3
         replace hx105_4:=(HB.out.cell (World.block_lt_of_cell? w _ hx105_4)).trans hx105_4
         replace p105:=eq_true p105
         replace q105:=eq_true q105
         go_wp2_with (first|((with_reducible refine gate_dst (N:=4) rfl ?_);refine box_event ?hg (N:=4) ?hd (cs:=#[.int .i64 0,.int .i64 0,.int .i64 0,.int .i64 0,.int .i64 0]) (t:=165) ?hr ?_;(case hd=>rfl);(case hg=>rfl);(case hr=>first|(go_simp;done)|(go_simp;rfl));intro gb106 hg w10 hbox hb;have n0_:=Aside0.mk (below_step (bB) hb);have n1_:=Aside0.mk (hbox);have n2_:=Aside0.mk ((bG:w.heap.size≤gb106));have n3_:=Aside0.mk ((bG:w.heap.size≤gb106));clear HB;have HB:=n0_;have BK106:=n1_;have GW106:=n2_;have GE106:=n3_;clear n0_ n1_ n2_ n3_;clear hb hbox hg;obtain⟨hcz11_0,hcz11_1,hcz11_2,hcz11_3,hcz11_4⟩:=cC5 BK106.out;obtain⟨hfz11_0,hfz11_1,hfz11_2,hfz11_3,hfz11_4⟩:=cF5 BK106.out)|((with_reducible refine gate_callee (f:=229) rfl ?_);refine goesA (some 13) rfl rfl Try.func229 #[.int .i64 ((rd_T165 l0 x7_1).f0)] rfl ?_;(with_reducible refine(spec_l6Node.calls ((rd_T165 l0 x7_1).f0) true _ A5.out).mono ?_);rintro e w' ⟨rfl,⟨nd,rfl⟩⟩;refine⟨_,rfl,?_⟩)|(go_at_call 229;(with_reducible refine(spec_l6Node.calls ((rd_T165 l0 x7_1).f1) true _ A7.out).mono ?_);rintro e w' ⟨rfl,⟨nd,rfl⟩⟩))
         go_ret
         exact⟨bE,bS GE106.out⟩
        ·rw[if_neg c9] at H
         have c9b0:(((rd_T165 l0 x7_1).f0) == ((rd_T165 l0 x7_1).f1))=false:=beq_eq_false_iff_ne.mpr c9
         have c9b1:(((rd_T165 l0 x7_1).f0) != ((rd_T165 l0 x7_1).f1))=true:=bne_iff_ne.mpr c9
         replace H:=Option.bind_eq_some_iff.mp H
         obtain⟨t109,A120,H⟩:=H
         have A12:=Aside0.mk A120
         clear A120
         by_cases c13:t109=true
         ·subst c13
          have H1:(if ((rd_T165 l0 x7_1).f2) < 0 then (some false) else (if ((rd_T165 l0 x7_1).f2) ≥ ((rd_T165 l0 x7_1).f3) then (some false) else ((spec_l1In.f ((rd_T165 l0 x7_1).f4) 0 100).bind fun t110=>(if t110=true then (spec_GoodPlan.l0 k1 l0 l0 (l0.length:Int) (wrap64 (x7_1+1))) else (some false)))))=some r:=by rw[if_pos rfl] at H;exact H
          clear H
          have H:=H1
          clear H1
          by_cases c14:((rd_T165 l0 x7_1).f2) < 0
          ·rw[if_pos c14] at H
           have c14b0:decide (((rd_T165 l0 x7_1).f2) < 0)=true:=decide_eq_true c14
           clear c14
           obtain rfl:=Option.some.inj H
           have p105:0≤(x7_1:Int):=of_decide_eq_true (bD)
           have q105:x7_1 < (l0.length:Int):=of_decide_eq_true (bD)
           obtain⟨ad105,e105,hx105_0,hx105_1,hx105_2,hx105_3,hx105_4⟩:=at_T165 HR0.out x7_1 p105 q105
           cases e105
           replace hx105_0:=(HB.out.cell (World.block_lt_of_cell? w _ hx105_0)).trans hx105_0
           replace hx105_1:=(HB.out.cell (World.block_lt_of_cell? w _ hx105_1)).trans hx105_1
           replace hx105_2:=(HB.out.cell (World.block_lt_of_cell? w _ hx105_2)).trans hx105_2
           replace hx105_3:=(HB.out.cell (World.block_lt_of_cell? w _ hx105_3)).trans hx105_3
           replace hx105_4:=(HB.out.cell (World.block_lt_of_cell? w _ hx105_4)).trans hx105_4
           replace p105:=eq_true p105
           replace q105:=eq_true q105
           go_wp2_with (first|((with_reducible refine gate_dst (N:=4) rfl ?_);refine box_event ?hg (N:=4) ?hd (cs:=#[.int .i64 0,.int .i64 0,.int .i64 0,.int .i64 0,.int .i64 0]) (t:=165) ?hr ?_;(case hd=>rfl);(case hg=>rfl);(case hr=>first|(go_simp;done)|(go_simp;rfl));intro gb106 hg w15 hbox hb;have n0_:=Aside0.mk (below_step (bB) hb);have n1_:=Aside0.mk (hbox);have n2_:=Aside0.mk ((bG:w.heap.size≤gb106));have n3_:=Aside0.mk ((bG:w.heap.size≤gb106));clear HB;have HB:=n0_;have BK106:=n1_;have GW106:=n2_;have GE106:=n3_;clear n0_ n1_ n2_ n3_;clear hb hbox hg;obtain⟨hcz16_0,hcz16_1,hcz16_2,hcz16_3,hcz16_4⟩:=cC5 BK106.out;obtain⟨hfz16_0,hfz16_1,hfz16_2,hfz16_3,hfz16_4⟩:=cF5 BK106.out)|((with_reducible refine gate_callee (f:=229) rfl ?_);refine goesA (some 13) rfl rfl Try.func229 #[.int .i64 ((rd_T165 l0 x7_1).f0)] rfl ?_;(with_reducible refine(spec_l6Node.calls ((rd_T165 l0 x7_1).f0) true _ A5.out).mono ?_);rintro e w' ⟨rfl,⟨nd,rfl⟩⟩;refine⟨_,rfl,?_⟩)|(go_at_call 229;(with_reducible refine(spec_l6Node.calls ((rd_T165 l0 x7_1).f1) true _ A7.out).mono ?_);rintro e w' ⟨rfl,⟨nd,rfl⟩⟩)|(go_at_call 230;(with_reducible refine(spec_l6When.calls ((rd_T165 l0 x7_1).f3) true _ A12.out).mono ?_);rintro e w' ⟨rfl,⟨nd,rfl⟩⟩))
           go_ret
           exact⟨bE,bS GE106.out⟩
          ·rw[if_neg c14] at H
           have c14b0:decide (((rd_T165 l0 x7_1).f2) < 0)=false:=decide_eq_false c14
           clear c14
           by_cases c17:((rd_T165 l0 x7_1).f2) ≥ ((rd_T165 l0 x7_1).f3)
           ·rw[if_pos c17] at H
            have c17b0:decide (((rd_T165 l0 x7_1).f3)≤((rd_T165 l0 x7_1).f2))=true:=decide_eq_true c17
            clear c17
            obtain rfl:=Option.some.inj H
            have p105:0≤(x7_1:Int):=of_decide_eq_true (bD)
            have q105:x7_1 < (l0.length:Int):=of_decide_eq_true (bD)
            obtain⟨ad105,e105,hx105_0,hx105_1,hx105_2,hx105_3,hx105_4⟩:=at_T165 HR0.out x7_1 p105 q105
            cases e105
            replace hx105_0:=(HB.out.cell (World.block_lt_of_cell? w _ hx105_0)).trans hx105_0
            replace hx105_1:=(HB.out.cell (World.block_lt_of_cell? w _ hx105_1)).trans hx105_1
            replace hx105_2:=(HB.out.cell (World.block_lt_of_cell? w _ hx105_2)).trans hx105_2
            replace hx105_3:=(HB.out.cell (World.block_lt_of_cell? w _ hx105_3)).trans hx105_3
            replace hx105_4:=(HB.out.cell (World.block_lt_of_cell? w _ hx105_4)).trans hx105_4
            replace p105:=eq_true p105
            replace q105:=eq_true q105
            go_wp2_with (first|((with_reducible refine gate_dst (N:=4) rfl ?_);refine box_event ?hg (N:=4) ?hd (cs:=#[.int .i64 0,.int .i64 0,.int .i64 0,.int .i64 0,.int .i64 0]) (t:=165) ?hr ?_;(case hd=>rfl);(case hg=>rfl);(case hr=>first|(go_simp;done)|(go_simp;rfl));intro gb106 hg w18 hbox hb;have n0_:=Aside0.mk (below_step (bB) hb);have n1_:=Aside0.mk (hbox);have n2_:=Aside0.mk ((bG:w.heap.size≤gb106));have n3_:=Aside0.mk ((bG:w.heap.size≤gb106));clear HB;have HB:=n0_;have BK106:=n1_;have GW106:=n2_;have GE106:=n3_;clear n0_ n1_ n2_ n3_;clear hb hbox hg;obtain⟨hcz19_0,hcz19_1,hcz19_2,hcz19_3,hcz19_4⟩:=cC5 BK106.out;obtain⟨hfz19_0,hfz19_1,hfz19_2,hfz19_3,hfz19_4⟩:=cF5 BK106.out)|((with_reducible refine gate_callee (f:=229) rfl ?_);refine goesA (some 13) rfl rfl Try.func229 #[.int .i64 ((rd_T165 l0 x7_1).f0)] rfl ?_;(with_reducible refine(spec_l6Node.calls ((rd_T165 l0 x7_1).f0) true _ A5.out).mono ?_);rintro e w' ⟨rfl,⟨nd,rfl⟩⟩;refine⟨_,rfl,?_⟩)|(go_at_call 229;(with_reducible refine(spec_l6Node.calls ((rd_T165 l0 x7_1).f1) true _ A7.out).mono ?_);rintro e w' ⟨rfl,⟨nd,rfl⟩⟩)|(go_at_call 230;(with_reducible refine(spec_l6When.calls ((rd_T165 l0 x7_1).f3) true _ A12.out).mono ?_);rintro e w' ⟨rfl,⟨nd,rfl⟩⟩))
            go_ret
            exact⟨bE,bS GE106.out⟩
           ·rw[if_neg c17] at H
            have c17b0:decide (((rd_T165 l0 x7_1).f3)≤((rd_T165 l0 x7_1).f2))=false:=decide_eq_false c17
            clear c17
            replace H:=Option.bind_eq_some_iff.mp H
            obtain⟨t110,A200,H⟩:=H
            have A20:=Aside0.mk A200
            clear A200
            by_cases c21:t110=true
            ·subst c21
             have H1:(spec_GoodPlan.l0 k1 l0 l0 (l0.length:Int) (wrap64 (x7_1+1)))=some r:=by rw[if_pos rfl] at H;exact H
             clear H
             have H:=H1
             clear H1
             have H':=Aside0.mk H
             clear H
             have p105:0≤(x7_1:Int):=of_decide_eq_true (bD)
             have q105:x7_1 < (l0.length:Int):=of_decide_eq_true (bD)
             obtain⟨ad105,e105,hx105_0,hx105_1,hx105_2,hx105_3,hx105_4⟩:=at_T165 HR0.out x7_1 p105 q105
             cases e105
             replace hx105_0:=(HB.out.cell (World.block_lt_of_cell? w _ hx105_0)).trans hx105_0
             replace hx105_1:=(HB.out.cell (World.block_lt_of_cell? w _ hx105_1)).trans hx105_1
             replace hx105_2:=(HB.out.cell (World.block_lt_of_cell? w _ hx105_2)).trans hx105_2
             replace hx105_3:=(HB.out.cell (World.block_lt_of_cell? w _ hx105_3)).trans hx105_3
             replace hx105_4:=(HB.out.cell (World.block_lt_of_cell? w _ hx105_4)).trans hx105_4
             replace p105:=eq_true p105
             replace q105:=eq_true q105
             go_wp2_with (first|((with_reducible refine gate_dst (N:=4) rfl ?_);refine box_event ?hg (N:=4) ?hd (cs:=#[.int .i64 0,.int .i64 0,.int .i64 0,.int .i64 0,.int .i64 0]) (t:=165) ?hr ?_;(case hd=>rfl);(case hg=>rfl);(case hr=>first|(go_simp;done)|(go_simp;rfl));intro gb106 hg w22 hbox hb;have n0_:=Aside0.mk (below_step (bB) hb);have n1_:=Aside0.mk (hbox);have n2_:=Aside0.mk ((bG:w.heap.size≤gb106));have n3_:=Aside0.mk ((bG:w.heap.size≤gb106));clear HB;have HB:=n0_;have BK106:=n1_;have GW106:=n2_;have GE106:=n3_;clear n0_ n1_ n2_ n3_;clear hb hbox hg;obtain⟨hcz23_0,hcz23_1,hcz23_2,hcz23_3,hcz23_4⟩:=cC5 BK106.out;obtain⟨hfz23_0,hfz23_1,hfz23_2,hfz23_3,hfz23_4⟩:=cF5 BK106.out)|((with_reducible refine gate_callee (f:=229) rfl ?_);refine goesA (some 13) rfl rfl Try.func229 #[.int .i64 ((rd_T165 l0 x7_1).f0)] rfl ?_;(with_reducible refine(spec_l6Node.calls ((rd_T165 l0 x7_1).f0) true _ A5.out).mono ?_);rintro e w' ⟨rfl,⟨nd,rfl⟩⟩;refine⟨_,rfl,?_⟩)|(go_at_call 229;(with_reducible refine(spec_l6Node.calls ((rd_T165 l0 x7_1).f1) true _ A7.out).mono ?_);rintro e w' ⟨rfl,⟨nd,rfl⟩⟩)|(go_at_call 230;(with_reducible refine(spec_l6When.calls ((rd_T165 l0 x7_1).f3) true _ A12.out).mono ?_);rintro e w' ⟨rfl,⟨nd,rfl⟩⟩)|(go_at_call 104;(with_reducible refine(spec_l1In.calls ((rd_T165 l0 x7_1).f4) 0 100 true _ A20.out).mono ?_);rintro e w' ⟨rfl,⟨nd,rfl⟩⟩))
             go_roundg k1
             case measure=>have:=HK1.out;omega
             case rel=>exact⟨(wrap64 (x7_1+1)),(bR),H',⟨by have:=HK1.out;omega⟩,⟨bS GE106.out⟩⟩
            ·replace c21:=Bool.eq_false_iff.mpr c21
             subst c21
             have H1:(some false)=some r:=by rw[if_neg (show ¬ (false=true) by decide)] at H;exact H
             clear H
             have H:=H1
             clear H1
             obtain rfl:=Option.some.inj H
             have p105:0≤(x7_1:Int):=of_decide_eq_true (bD)
             have q105:x7_1 < (l0.length:Int):=of_decide_eq_true (bD)
             obtain⟨ad105,e105,hx105_0,hx105_1,hx105_2,hx105_3,hx105_4⟩:=at_T165 HR0.out x7_1 p105 q105
             cases e105
             replace hx105_0:=(HB.out.cell (World.block_lt_of_cell? w _ hx105_0)).trans hx105_0
             replace hx105_1:=(HB.out.cell (World.block_lt_of_cell? w _ hx105_1)).trans hx105_1
             replace hx105_2:=(HB.out.cell (World.block_lt_of_cell? w _ hx105_2)).trans hx105_2
             replace hx105_3:=(HB.out.cell (World.block_lt_of_cell? w _ hx105_3)).trans hx105_3
             replace hx105_4:=(HB.out.cell (World.block_lt_of_cell? w _ hx105_4)).trans hx105_4
             replace p105:=eq_true p105
             replace q105:=eq_true q105
             go_wp2_with (first|((with_reducible refine gate_dst (N:=4) rfl ?_);refine box_event ?hg (N:=4) ?hd (cs:=#[.int .i64 0,.int .i64 0,.int .i64 0,.int .i64 0,.int .i64 0]) (t:=165) ?hr ?_;(case hd=>rfl);(case hg=>rfl);(case hr=>first|(go_simp;done)|(go_simp;rfl));intro gb106 hg w24 hbox hb;have n0_:=Aside0.mk (below_step (bB) hb);have n1_:=Aside0.mk (hbox);have n2_:=Aside0.mk ((bG:w.heap.size≤gb106));have n3_:=Aside0.mk ((bG:w.heap.size≤gb106));clear HB;have HB:=n0_;have BK106:=n1_;have GW106:=n2_;have GE106:=n3_;clear n0_ n1_ n2_ n3_;clear hb hbox hg;obtain⟨hcz25_0,hcz25_1,hcz25_2,hcz25_3,hcz25_4⟩:=cC5 BK106.out;obtain⟨hfz25_0,hfz25_1,hfz25_2,hfz25_3,hfz25_4⟩:=cF5 BK106.out)|((with_reducible refine gate_callee (f:=229) rfl ?_);refine goesA (some 13) rfl rfl Try.func229 #[.int .i64 ((rd_T165 l0 x7_1).f0)] rfl ?_;(with_reducible refine(spec_l6Node.calls ((rd_T165 l0 x7_1).f0) true _ A5.out).mono ?_);rintro e w' ⟨rfl,⟨nd,rfl⟩⟩;refine⟨_,rfl,?_⟩)|(go_at_call 229;(with_reducible refine(spec_l6Node.calls ((rd_T165 l0 x7_1).f1) true _ A7.out).mono ?_);rintro e w' ⟨rfl,⟨nd,rfl⟩⟩)|(go_at_call 230;(with_reducible refine(spec_l6When.calls ((rd_T165 l0 x7_1).f3) true _ A12.out).mono ?_);rintro e w' ⟨rfl,⟨nd,rfl⟩⟩)|(go_at_call 104;(with_reducible refine(spec_l1In.calls ((rd_T165 l0 x7_1).f4) 0 100 false _ A20.out).mono ?_);rintro e w' ⟨rfl,⟨nd,rfl⟩⟩))
             go_ret
             exact⟨bE,bS GE106.out⟩
         ·replace c13:=Bool.eq_false_iff.mpr c13
          subst c13
          have H1:(some false)=some r:=by rw[if_neg (show ¬ (false=true) by decide)] at H;exact H
          clear H
          have H:=H1
          clear H1
          obtain rfl:=Option.some.inj H
          have p105:0≤(x7_1:Int):=of_decide_eq_true (bD)
          have q105:x7_1 < (l0.length:Int):=of_decide_eq_true (bD)
          obtain⟨ad105,e105,hx105_0,hx105_1,hx105_2,hx105_3,hx105_4⟩:=at_T165 HR0.out x7_1 p105 q105
          cases e105
          replace hx105_0:=(HB.out.cell (World.block_lt_of_cell? w _ hx105_0)).trans hx105_0
          replace hx105_1:=(HB.out.cell (World.block_lt_of_cell? w _ hx105_1)).trans hx105_1
          replace hx105_2:=(HB.out.cell (World.block_lt_of_cell? w _ hx105_2)).trans hx105_2
          replace hx105_3:=(HB.out.cell (World.block_lt_of_cell? w _ hx105_3)).trans hx105_3
          replace hx105_4:=(HB.out.cell (World.block_lt_of_cell? w _ hx105_4)).trans hx105_4
          replace p105:=eq_true p105
          replace q105:=eq_true q105
          go_wp2_with (first|((with_reducible refine gate_dst (N:=4) rfl ?_);refine box_event ?hg (N:=4) ?hd (cs:=#[.int .i64 0,.int .i64 0,.int .i64 0,.int .i64 0,.int .i64 0]) (t:=165) ?hr ?_;(case hd=>rfl);(case hg=>rfl);(case hr=>first|(go_simp;done)|(go_simp;rfl));intro gb106 hg w26 hbox hb;have n0_:=Aside0.mk (below_step (bB) hb);have n1_:=Aside0.mk (hbox);have n2_:=Aside0.mk ((bG:w.heap.size≤gb106));have n3_:=Aside0.mk ((bG:w.heap.size≤gb106));clear HB;have HB:=n0_;have BK106:=n1_;have GW106:=n2_;have GE106:=n3_;clear n0_ n1_ n2_ n3_;clear hb hbox hg;obtain⟨hcz27_0,hcz27_1,hcz27_2,hcz27_3,hcz27_4⟩:=cC5 BK106.out;obtain⟨hfz27_0,hfz27_1,hfz27_2,hfz27_3,hfz27_4⟩:=cF5 BK106.out)|((with_reducible refine gate_callee (f:=229) rfl ?_);refine goesA (some 13) rfl rfl Try.func229 #[.int .i64 ((rd_T165 l0 x7_1).f0)] rfl ?_;(with_reducible refine(spec_l6Node.calls ((rd_T165 l0 x7_1).f0) true _ A5.out).mono ?_);rintro e w' ⟨rfl,⟨nd,rfl⟩⟩;refine⟨_,rfl,?_⟩)|(go_at_call 229;(with_reducible refine(spec_l6Node.calls ((rd_T165 l0 x7_1).f1) true _ A7.out).mono ?_);rintro e w' ⟨rfl,⟨nd,rfl⟩⟩)|(go_at_call 230;(with_reducible refine(spec_l6When.calls ((rd_T165 l0 x7_1).f3) false _ A12.out).mono ?_);rintro e w' ⟨rfl,⟨nd,rfl⟩⟩))
          go_ret
          exact⟨bE,bS GE106.out⟩
       ·replace c8:=Bool.eq_false_iff.mpr c8
        subst c8
        have H1:(some false)=some r:=by rw[if_neg (show ¬ (false=true) by decide)] at H;exact H
        clear H
        have H:=H1
        clear H1
        obtain rfl:=Option.some.inj H
        have p105:0≤(x7_1:Int):=of_decide_eq_true (bD)
        have q105:x7_1 < (l0.length:Int):=of_decide_eq_true (bD)
        obtain⟨ad105,e105,hx105_0,hx105_1,hx105_2,hx105_3,hx105_4⟩:=at_T165 HR0.out x7_1 p105 q105
        cases e105
        replace hx105_0:=(HB.out.cell (World.block_lt_of_cell? w _ hx105_0)).trans hx105_0
        replace hx105_1:=(HB.out.cell (World.block_lt_of_cell? w _ hx105_1)).trans hx105_1
        replace hx105_2:=(HB.out.cell (World.block_lt_of_cell? w _ hx105_2)).trans hx105_2
        replace hx105_3:=(HB.out.cell (World.block_lt_of_cell? w _ hx105_3)).trans hx105_3
        replace hx105_4:=(HB.out.cell (World.block_lt_of_cell? w _ hx105_4)).trans hx105_4
        replace p105:=eq_true p105
        replace q105:=eq_true q105
        go_wp2_with (first|((with_reducible refine gate_dst (N:=4) rfl ?_);refine box_event ?hg (N:=4) ?hd (cs:=#[.int .i64 0,.int .i64 0,.int .i64 0,.int .i64 0,.int .i64 0]) (t:=165) ?hr ?_;(case hd=>rfl);(case hg=>rfl);(case hr=>first|(go_simp;done)|(go_simp;rfl));intro gb106 hg w28 hbox hb;have n0_:=Aside0.mk (below_step (bB) hb);have n1_:=Aside0.mk (hbox);have n2_:=Aside0.mk ((bG:w.heap.size≤gb106));have n3_:=Aside0.mk ((bG:w.heap.size≤gb106));clear HB;have HB:=n0_;have BK106:=n1_;have GW106:=n2_;have GE106:=n3_;clear n0_ n1_ n2_ n3_;clear hb hbox hg;obtain⟨hcz29_0,hcz29_1,hcz29_2,hcz29_3,hcz29_4⟩:=cC5 BK106.out;obtain⟨hfz29_0,hfz29_1,hfz29_2,hfz29_3,hfz29_4⟩:=cF5 BK106.out)|((with_reducible refine gate_callee (f:=229) rfl ?_);refine goesA (some 13) rfl rfl Try.func229 #[.int .i64 ((rd_T165 l0 x7_1).f0)] rfl ?_;(with_reducible refine(spec_l6Node.calls ((rd_T165 l0 x7_1).f0) true _ A5.out).mono ?_);rintro e w' ⟨rfl,⟨nd,rfl⟩⟩;refine⟨_,rfl,?_⟩)|(go_at_call 229;(with_reducible refine(spec_l6Node.calls ((rd_T165 l0 x7_1).f1) false _ A7.out).mono ?_);rintro e w' ⟨rfl,⟨nd,rfl⟩⟩))
        go_ret
        exact⟨bE,bS GE106.out⟩
      ·replace c6:=Bool.eq_false_iff.mpr c6
       subst c6
       have H1:(some false)=some r:=by rw[if_neg (show ¬ (false=true) by decide)] at H;exact H
       clear H
       have H:=H1
       clear H1
       obtain rfl:=Option.some.inj H
       have p105:0≤(x7_1:Int):=of_decide_eq_true (bD)
       have q105:x7_1 < (l0.length:Int):=of_decide_eq_true (bD)
       obtain⟨ad105,e105,hx105_0,hx105_1,hx105_2,hx105_3,hx105_4⟩:=at_T165 HR0.out x7_1 p105 q105
       cases e105
       replace hx105_0:=(HB.out.cell (World.block_lt_of_cell? w _ hx105_0)).trans hx105_0
       replace hx105_1:=(HB.out.cell (World.block_lt_of_cell? w _ hx105_1)).trans hx105_1
       replace hx105_2:=(HB.out.cell (World.block_lt_of_cell? w _ hx105_2)).trans hx105_2
       replace hx105_3:=(HB.out.cell (World.block_lt_of_cell? w _ hx105_3)).trans hx105_3
       replace hx105_4:=(HB.out.cell (World.block_lt_of_cell? w _ hx105_4)).trans hx105_4
       replace p105:=eq_true p105
       replace q105:=eq_true q105
       go_wp2_with (first|((with_reducible refine gate_dst (N:=4) rfl ?_);refine box_event ?hg (N:=4) ?hd (cs:=#[.int .i64 0,.int .i64 0,.int .i64 0,.int .i64 0,.int .i64 0]) (t:=165) ?hr ?_;(case hd=>rfl);(case hg=>rfl);(case hr=>first|(go_simp;done)|(go_simp;rfl));intro gb106 hg w30 hbox hb;have n0_:=Aside0.mk (below_step (bB) hb);have n1_:=Aside0.mk (hbox);have n2_:=Aside0.mk ((bG:w.heap.size≤gb106));have n3_:=Aside0.mk ((bG:w.heap.size≤gb106));clear HB;have HB:=n0_;have BK106:=n1_;have GW106:=n2_;have GE106:=n3_;clear n0_ n1_ n2_ n3_;clear hb hbox hg;obtain⟨hcz31_0,hcz31_1,hcz31_2,hcz31_3,hcz31_4⟩:=cC5 BK106.out;obtain⟨hfz31_0,hfz31_1,hfz31_2,hfz31_3,hfz31_4⟩:=cF5 BK106.out)|((with_reducible refine gate_callee (f:=229) rfl ?_);refine goesA (some 13) rfl rfl Try.func229 #[.int .i64 ((rd_T165 l0 x7_1).f0)] rfl ?_;(with_reducible refine(spec_l6Node.calls ((rd_T165 l0 x7_1).f0) false _ A5.out).mono ?_);rintro e w' ⟨rfl,⟨nd,rfl⟩⟩;refine⟨_,rfl,?_⟩))
       go_ret
       exact⟨bE,bS GE106.out⟩
     ·rw[if_neg c4] at H
      exact absurd H (by simp)
    ·rw[if_neg c3] at H
     exact absurd H (by simp)
   ·rw[if_neg c2] at H
    have c2b0:decide (x7_1 < (l0.length:Int))=false:=decide_eq_false c2
    clear c2
    obtain rfl:=Option.some.inj H
    go_wp2
    go_ret
    exact⟨bE,bB⟩

/-! ### spec_GoodBundle: function 228 -/
def spec_GoodBundle.f (a0_0:Int) (a0_1:Int) (a0_2:Bool) (a0_3:Int) (a0_4:Int) (a0_5:Int) (a0_6:Int) (a0_7:Int) (a0_8:Int) (a0_9:ByteArray):Option (Bool):=(spec_l1In.f a0_0 0 40).bind fun t112=>(if t112=true then ((spec_l1In.f a0_1 0 40).bind fun t113=>(if t113=true then ((spec_l1In.f a0_3 0 1000000).bind fun t114=>(if t114=true then ((spec_l1In.f a0_4 0 1000).bind fun t115=>(if t115=true then ((spec_l1In.f a0_5 1 1000000).bind fun t116=>(if t116=true then ((spec_l1In.f a0_6 0 30).bind fun t117=>(if t117=true then (if (a0_9.size:Int) > 60 then (some false) else ((spec_l1In.f a0_8 0 60).bind fun t118=>(if t118=true then ((spec_l1In.f a0_7 0 a0_8).bind fun t119=>(if t119=true then (if a0_8=0 then (some true) else (if (a0_9.size:Int) > 0 then (some (decide ((wrap64 (a0_7+(a0_9.size:Int)))≤a0_8))) else (some false))) else (some false))) else (some false)))) else (some false))) else (some false))) else (some false))) else (some false))) else (some false))) else (some false))
set_option maxHeartbeats 8000000 in
set_option maxRecDepth 100000 in
theorem spec_GoodBundle.calls (a0_0:Int) (a0_1:Int) (a0_2:Bool) (a0_3:Int) (a0_4:Int) (a0_5:Int) (a0_6:Int) (a0_7:Int) (a0_8:Int) (a0_9:ByteArray) (r:Bool) (w:World) (h:spec_GoodBundle.f a0_0 a0_1 a0_2 a0_3 a0_4 a0_5 a0_6 a0_7 a0_8 a0_9=some r) :
  Calls Try.prog 228 #[.agg #[.int .i64 a0_0,.int .i64 a0_1,.bool a0_2,.int .i64 a0_3,.int .i64 a0_4,.int .i64 a0_5,.int .i64 a0_6,.int .i64 a0_7,.int .i64 a0_8,.string a0_9]] w fun e w'=>e=.returned (.bool r)∧Below w.heap.size w w':=by
 have hu79:=Try.underlying79
 have HB:=Aside0.mk (Below.refl w.heap.size w)
 have H:((spec_l1In.f a0_0 0 40).bind fun t112=>(if t112=true then ((spec_l1In.f a0_1 0 40).bind fun t113=>(if t113=true then ((spec_l1In.f a0_3 0 1000000).bind fun t114=>(if t114=true then ((spec_l1In.f a0_4 0 1000).bind fun t115=>(if t115=true then ((spec_l1In.f a0_5 1 1000000).bind fun t116=>(if t116=true then ((spec_l1In.f a0_6 0 30).bind fun t117=>(if t117=true then (if (a0_9.size:Int) > 60 then (some false) else ((spec_l1In.f a0_8 0 60).bind fun t118=>(if t118=true then ((spec_l1In.f a0_7 0 a0_8).bind fun t119=>(if t119=true then (if a0_8=0 then (some true) else (if (a0_9.size:Int) > 0 then (some (decide ((wrap64 (a0_7+(a0_9.size:Int)))≤a0_8))) else (some false))) else (some false))) else (some false)))) else (some false))) else (some false))) else (some false))) else (some false))) else (some false))) else (some false)))=some r:=h
 clear h
 replace H:=Option.bind_eq_some_iff.mp H
 obtain⟨t112,A20,H⟩:=H
 have A2:=Aside0.mk A20
 clear A20
 by_cases c3:t112=true
 ·subst c3
  have H1:((spec_l1In.f a0_1 0 40).bind fun t113=>(if t113=true then ((spec_l1In.f a0_3 0 1000000).bind fun t114=>(if t114=true then ((spec_l1In.f a0_4 0 1000).bind fun t115=>(if t115=true then ((spec_l1In.f a0_5 1 1000000).bind fun t116=>(if t116=true then ((spec_l1In.f a0_6 0 30).bind fun t117=>(if t117=true then (if (a0_9.size:Int) > 60 then (some false) else ((spec_l1In.f a0_8 0 60).bind fun t118=>(if t118=true then ((spec_l1In.f a0_7 0 a0_8).bind fun t119=>(if t119=true then (if a0_8=0 then (some true) else (if (a0_9.size:Int) > 0 then (some (decide ((wrap64 (a0_7+(a0_9.size:Int)))≤a0_8))) else (some false))) else (some false))) else (some false)))) else (some false))) else (some false))) else (some false))) else (some false))) else (some false)))=some r:=by rw[if_pos rfl] at H;exact H
  clear H
  have H:=H1
  clear H1
  replace H:=Option.bind_eq_some_iff.mp H
  obtain⟨t113,A40,H⟩:=H
  have A4:=Aside0.mk A40
  clear A40
  by_cases c5:t113=true
  ·subst c5
   have H1:((spec_l1In.f a0_3 0 1000000).bind fun t114=>(if t114=true then ((spec_l1In.f a0_4 0 1000).bind fun t115=>(if t115=true then ((spec_l1In.f a0_5 1 1000000).bind fun t116=>(if t116=true then ((spec_l1In.f a0_6 0 30).bind fun t117=>(if t117=true then (if (a0_9.size:Int) > 60 then (some false) else ((spec_l1In.f a0_8 0 60).bind fun t118=>(if t118=true then ((spec_l1In.f a0_7 0 a0_8).bind fun t119=>(if t119=true then (if a0_8=0 then (some true) else (if (a0_9.size:Int) > 0 then (some (decide ((wrap64 (a0_7+(a0_9.size:Int)))≤a0_8))) else (some false))) else (some false))) else (some false)))) else (some false))) else (some false))) else (some false))) else (some false)))=some r:=by rw[if_pos rfl] at H;exact H
   clear H
   have H:=H1
   clear H1
   replace H:=Option.bind_eq_some_iff.mp H
   obtain⟨t114,A60,H⟩:=H
   have A6:=Aside0.mk A60
   clear A60
   by_cases c7:t114=true
   ·subst c7
    have H1:((spec_l1In.f a0_4 0 1000).bind fun t115=>(if t115=true then ((spec_l1In.f a0_5 1 1000000).bind fun t116=>(if t116=true then ((spec_l1In.f a0_6 0 30).bind fun t117=>(if t117=true then (if (a0_9.size:Int) > 60 then (some false) else ((spec_l1In.f a0_8 0 60).bind fun t118=>(if t118=true then ((spec_l1In.f a0_7 0 a0_8).bind fun t119=>(if t119=true then (if a0_8=0 then (some true) else (if (a0_9.size:Int) > 0 then (some (decide ((wrap64 (a0_7+(a0_9.size:Int)))≤a0_8))) else (some false))) else (some false))) else (some false)))) else (some false))) else (some false))) else (some false)))=some r:=by rw[if_pos rfl] at H;exact H
    clear H
    have H:=H1
    clear H1
    replace H:=Option.bind_eq_some_iff.mp H
    obtain⟨t115,A80,H⟩:=H
    have A8:=Aside0.mk A80
    clear A80
    by_cases c9:t115=true
    ·subst c9
     have H1:((spec_l1In.f a0_5 1 1000000).bind fun t116=>(if t116=true then ((spec_l1In.f a0_6 0 30).bind fun t117=>(if t117=true then (if (a0_9.size:Int) > 60 then (some false) else ((spec_l1In.f a0_8 0 60).bind fun t118=>(if t118=true then ((spec_l1In.f a0_7 0 a0_8).bind fun t119=>(if t119=true then (if a0_8=0 then (some true) else (if (a0_9.size:Int) > 0 then (some (decide ((wrap64 (a0_7+(a0_9.size:Int)))≤a0_8))) else (some false))) else (some false))) else (some false)))) else (some false))) else (some false)))=some r:=by rw[if_pos rfl] at H;exact H
     clear H
     have H:=H1
     clear H1
     replace H:=Option.bind_eq_some_iff.mp H
     obtain⟨t116,A100,H⟩:=H
     have A10:=Aside0.mk A100
     clear A100
     by_cases c11:t116=true
     ·subst c11
      have H1:((spec_l1In.f a0_6 0 30).bind fun t117=>(if t117=true then (if (a0_9.size:Int) > 60 then (some false) else ((spec_l1In.f a0_8 0 60).bind fun t118=>(if t118=true then ((spec_l1In.f a0_7 0 a0_8).bind fun t119=>(if t119=true then (if a0_8=0 then (some true) else (if (a0_9.size:Int) > 0 then (some (decide ((wrap64 (a0_7+(a0_9.size:Int)))≤a0_8))) else (some false))) else (some false))) else (some false)))) else (some false)))=some r:=by rw[if_pos rfl] at H;exact H
      clear H
      have H:=H1
      clear H1
      replace H:=Option.bind_eq_some_iff.mp H
      obtain⟨t117,A120,H⟩:=H
      have A12:=Aside0.mk A120
      clear A120
      by_cases c13:t117=true
      ·subst c13
       have H1:(if (a0_9.size:Int) > 60 then (some false) else ((spec_l1In.f a0_8 0 60).bind fun t118=>(if t118=true then ((spec_l1In.f a0_7 0 a0_8).bind fun t119=>(if t119=true then (if a0_8=0 then (some true) else (if (a0_9.size:Int) > 0 then (some (decide ((wrap64 (a0_7+(a0_9.size:Int)))≤a0_8))) else (some false))) else (some false))) else (some false))))=some r:=by rw[if_pos rfl] at H;exact H
       clear H
       have H:=H1
       clear H1
       by_cases c14:(a0_9.size:Int) > 60
       ·rw[if_pos c14] at H
        have c14b0:decide (60 < (a0_9.size:Int))=true:=decide_eq_true c14
        have c14b1:decide (60 < a0_9.size)=true:=decide_eq_true (by omega)
        clear c14
        obtain rfl:=Option.some.inj H
        go_enter Try.func228,Try.ntmps228
        go_wp2_with (first|((with_reducible refine gate_dst (N:=1) rfl ?_);(try (refine gate_guard (by rfl) ?_;dsimp only));refine box_event ?hg (N:=1) ?hd (cs:=#[.int .i64 a0_0,.int .i64 a0_1,.bool a0_2,.int .i64 a0_3,.int .i64 a0_4,.int .i64 a0_5,.int .i64 a0_6,.int .i64 a0_7,.int .i64 a0_8,.string a0_9]) (t:=79) ?hr ?_;(case hd=>rfl);(case hg=>rfl);(case hr=>first|(go_simp;done)|(go_simp;rfl));intro gb111 hg w15 hbox hb;have n0_:=Aside0.mk (below_step (bB) hb);have n1_:=Aside0.mk (hbox);have n2_:=Aside0.mk ((bG:w.heap.size≤gb111));have n3_:=Aside0.mk ((bG:w.heap.size≤gb111));clear HB;have HB:=n0_;have BK111:=n1_;have GW111:=n2_;have GE111:=n3_;clear n0_ n1_ n2_ n3_;clear hb hbox hg;obtain⟨hcz16_0,hcz16_1,hcz16_2,hcz16_3,hcz16_4,hcz16_5,hcz16_6,hcz16_7,hcz16_8,hcz16_9⟩:=cC10 BK111.out;obtain⟨hfz16_0,hfz16_1,hfz16_2,hfz16_3,hfz16_4,hfz16_5,hfz16_6,hfz16_7,hfz16_8,hfz16_9⟩:=cF10 BK111.out)|((with_reducible refine gate_callee (f:=104) rfl ?_);refine goesA (some 5) rfl rfl Try.func104 #[.int .i64 a0_0,.int .i64 0,.int .i64 40] rfl ?_;(with_reducible refine(spec_l1In.calls a0_0 0 40 true _ A2.out).mono ?_);rintro e w' ⟨rfl,⟨nd,rfl⟩⟩;refine⟨_,rfl,?_⟩)|(go_at_call 104;(with_reducible refine(spec_l1In.calls a0_1 0 40 true _ A4.out).mono ?_);rintro e w' ⟨rfl,⟨nd,rfl⟩⟩)|(go_at_call 104;(with_reducible refine(spec_l1In.calls a0_3 0 1000000 true _ A6.out).mono ?_);rintro e w' ⟨rfl,⟨nd,rfl⟩⟩)|(go_at_call 104;(with_reducible refine(spec_l1In.calls a0_4 0 1000 true _ A8.out).mono ?_);rintro e w' ⟨rfl,⟨nd,rfl⟩⟩)|(go_at_call 104;(with_reducible refine(spec_l1In.calls a0_5 1 1000000 true _ A10.out).mono ?_);rintro e w' ⟨rfl,⟨nd,rfl⟩⟩)|(go_at_call 104;(with_reducible refine(spec_l1In.calls a0_6 0 30 true _ A12.out).mono ?_);rintro e w' ⟨rfl,⟨nd,rfl⟩⟩))
        go_ret
        exact⟨bE,bS GE111.out⟩
       ·rw[if_neg c14] at H
        have c14b0:decide (60 < (a0_9.size:Int))=false:=decide_eq_false c14
        have c14b1:decide (60 < a0_9.size)=false:=decide_eq_false (by omega)
        clear c14
        replace H:=Option.bind_eq_some_iff.mp H
        obtain⟨t118,A170,H⟩:=H
        have A17:=Aside0.mk A170
        clear A170
        by_cases c18:t118=true
        ·subst c18
         have H1:((spec_l1In.f a0_7 0 a0_8).bind fun t119=>(if t119=true then (if a0_8=0 then (some true) else (if (a0_9.size:Int) > 0 then (some (decide ((wrap64 (a0_7+(a0_9.size:Int)))≤a0_8))) else (some false))) else (some false)))=some r:=by rw[if_pos rfl] at H;exact H
         clear H
         have H:=H1
         clear H1
         replace H:=Option.bind_eq_some_iff.mp H
         obtain⟨t119,A190,H⟩:=H
         have A19:=Aside0.mk A190
         clear A190
         by_cases c20:t119=true
         ·subst c20
          have H1:(if a0_8=0 then (some true) else (if (a0_9.size:Int) > 0 then (some (decide ((wrap64 (a0_7+(a0_9.size:Int)))≤a0_8))) else (some false)))=some r:=by rw[if_pos rfl] at H;exact H
          clear H
          have H:=H1
          clear H1
          by_cases c21:a0_8=0
          ·rw[if_pos c21] at H
           have c21b0:(a0_8 == 0)=true:=beq_iff_eq.mpr c21
           have c21b1:(a0_8 != 0)=false:=bne_eq_false_iff_eq.mpr c21
           clear c21
           obtain rfl:=Option.some.inj H
           go_enter Try.func228,Try.ntmps228
           go_wp2_with (first|((with_reducible refine gate_dst (N:=1) rfl ?_);(try (refine gate_guard (by rfl) ?_;dsimp only));refine box_event ?hg (N:=1) ?hd (cs:=#[.int .i64 a0_0,.int .i64 a0_1,.bool a0_2,.int .i64 a0_3,.int .i64 a0_4,.int .i64 a0_5,.int .i64 a0_6,.int .i64 a0_7,.int .i64 a0_8,.string a0_9]) (t:=79) ?hr ?_;(case hd=>rfl);(case hg=>rfl);(case hr=>first|(go_simp;done)|(go_simp;rfl));intro gb111 hg w22 hbox hb;have n0_:=Aside0.mk (below_step (bB) hb);have n1_:=Aside0.mk (hbox);have n2_:=Aside0.mk ((bG:w.heap.size≤gb111));have n3_:=Aside0.mk ((bG:w.heap.size≤gb111));clear HB;have HB:=n0_;have BK111:=n1_;have GW111:=n2_;have GE111:=n3_;clear n0_ n1_ n2_ n3_;clear hb hbox hg;obtain⟨hcz23_0,hcz23_1,hcz23_2,hcz23_3,hcz23_4,hcz23_5,hcz23_6,hcz23_7,hcz23_8,hcz23_9⟩:=cC10 BK111.out;obtain⟨hfz23_0,hfz23_1,hfz23_2,hfz23_3,hfz23_4,hfz23_5,hfz23_6,hfz23_7,hfz23_8,hfz23_9⟩:=cF10 BK111.out)|((with_reducible refine gate_callee (f:=104) rfl ?_);refine goesA (some 5) rfl rfl Try.func104 #[.int .i64 a0_0,.int .i64 0,.int .i64 40] rfl ?_;(with_reducible refine(spec_l1In.calls a0_0 0 40 true _ A2.out).mono ?_);rintro e w' ⟨rfl,⟨nd,rfl⟩⟩;refine⟨_,rfl,?_⟩)|(go_at_call 104;(with_reducible refine(spec_l1In.calls a0_1 0 40 true _ A4.out).mono ?_);rintro e w' ⟨rfl,⟨nd,rfl⟩⟩)|(go_at_call 104;(with_reducible refine(spec_l1In.calls a0_3 0 1000000 true _ A6.out).mono ?_);rintro e w' ⟨rfl,⟨nd,rfl⟩⟩)|(go_at_call 104;(with_reducible refine(spec_l1In.calls a0_4 0 1000 true _ A8.out).mono ?_);rintro e w' ⟨rfl,⟨nd,rfl⟩⟩)|(go_at_call 104;(with_reducible refine(spec_l1In.calls a0_5 1 1000000 true _ A10.out).mono ?_);rintro e w' ⟨rfl,⟨nd,rfl⟩⟩)|(go_at_call 104;(with_reducible refine(spec_l1In.calls a0_6 0 30 true _ A12.out).mono ?_);rintro e w' ⟨rfl,⟨nd,rfl⟩⟩)|(go_at_call 104;(with_reducible refine(spec_l1In.calls a0_8 0 60 true _ A17.out).mono ?_);rintro e w' ⟨rfl,⟨nd,rfl⟩⟩)|(go_at_call 104;(with_reducible refine(spec_l1In.calls a0_7 0 a0_8 true _ A19.out).mono ?_);rintro e w' ⟨rfl,⟨nd,rfl⟩⟩))
           go_ret
           exact⟨bE,bS GE111.out⟩
          ·rw[if_neg c21] at H
           have c21b0:(a0_8 == 0)=false:=beq_eq_false_iff_ne.mpr c21
           have c21b1:(a0_8 != 0)=true:=bne_iff_ne.mpr c21
           by_cases c24:(a0_9.size:Int) > 0
           ·rw[if_pos c24] at H
            have c24b0:decide (0 < (a0_9.size:Int))=true:=decide_eq_true c24
            have c24b1:decide (0 < a0_9.size)=true:=decide_eq_true (by omega)
            clear c24
            obtain rfl:=Option.some.inj H
            go_enter Try.func228,Try.ntmps228
            go_wp2_with (first|((with_reducible refine gate_dst (N:=1) rfl ?_);(try (refine gate_guard (by rfl) ?_;dsimp only));refine box_event ?hg (N:=1) ?hd (cs:=#[.int .i64 a0_0,.int .i64 a0_1,.bool a0_2,.int .i64 a0_3,.int .i64 a0_4,.int .i64 a0_5,.int .i64 a0_6,.int .i64 a0_7,.int .i64 a0_8,.string a0_9]) (t:=79) ?hr ?_;(case hd=>rfl);(case hg=>rfl);(case hr=>first|(go_simp;done)|(go_simp;rfl));intro gb111 hg w25 hbox hb;have n0_:=Aside0.mk (below_step (bB) hb);have n1_:=Aside0.mk (hbox);have n2_:=Aside0.mk ((bG:w.heap.size≤gb111));have n3_:=Aside0.mk ((bG:w.heap.size≤gb111));clear HB;have HB:=n0_;have BK111:=n1_;have GW111:=n2_;have GE111:=n3_;clear n0_ n1_ n2_ n3_;clear hb hbox hg;obtain⟨hcz26_0,hcz26_1,hcz26_2,hcz26_3,hcz26_4,hcz26_5,hcz26_6,hcz26_7,hcz26_8,hcz26_9⟩:=cC10 BK111.out;obtain⟨hfz26_0,hfz26_1,hfz26_2,hfz26_3,hfz26_4,hfz26_5,hfz26_6,hfz26_7,hfz26_8,hfz26_9⟩:=cF10 BK111.out)|((with_reducible refine gate_callee (f:=104) rfl ?_);refine goesA (some 5) rfl rfl Try.func104 #[.int .i64 a0_0,.int .i64 0,.int .i64 40] rfl ?_;(with_reducible refine(spec_l1In.calls a0_0 0 40 true _ A2.out).mono ?_);rintro e w' ⟨rfl,⟨nd,rfl⟩⟩;refine⟨_,rfl,?_⟩)|(go_at_call 104;(with_reducible refine(spec_l1In.calls a0_1 0 40 true _ A4.out).mono ?_);rintro e w' ⟨rfl,⟨nd,rfl⟩⟩)|(go_at_call 104;(with_reducible refine(spec_l1In.calls a0_3 0 1000000 true _ A6.out).mono ?_);rintro e w' ⟨rfl,⟨nd,rfl⟩⟩)|(go_at_call 104;(with_reducible refine(spec_l1In.calls a0_4 0 1000 true _ A8.out).mono ?_);rintro e w' ⟨rfl,⟨nd,rfl⟩⟩)|(go_at_call 104;(with_reducible refine(spec_l1In.calls a0_5 1 1000000 true _ A10.out).mono ?_);rintro e w' ⟨rfl,⟨nd,rfl⟩⟩)|(go_at_call 104;(with_reducible refine(spec_l1In.calls a0_6 0 30 true _ A12.out).mono ?_);rintro e w' ⟨rfl,⟨nd,rfl⟩⟩)|(go_at_call 104;(with_reducible refine(spec_l1In.calls a0_8 0 60 true _ A17.out).mono ?_);rintro e w' ⟨rfl,⟨nd,rfl⟩⟩)|(go_at_call 104;(with_reducible refine(spec_l1In.calls a0_7 0 a0_8 true _ A19.out).mono ?_);rintro e w' ⟨rfl,⟨nd,rfl⟩⟩))
            go_ret
            exact⟨bE,bS GE111.out⟩
           ·rw[if_neg c24] at H
            have c24b0:decide (0 < (a0_9.size:Int))=false:=decide_eq_false c24
            have c24b1:decide (0 < a0_9.size)=false:=decide_eq_false (by omega)
            clear c24
            obtain rfl:=Option.some.inj H
            go_enter Try.func228,Try.ntmps228
            go_wp2_with (first|((with_reducible refine gate_dst (N:=1) rfl ?_);(try (refine gate_guard (by rfl) ?_;dsimp only));refine box_event ?hg (N:=1) ?hd (cs:=#[.int .i64 a0_0,.int .i64 a0_1,.bool a0_2,.int .i64 a0_3,.int .i64 a0_4,.int .i64 a0_5,.int .i64 a0_6,.int .i64 a0_7,.int .i64 a0_8,.string a0_9]) (t:=79) ?hr ?_;(case hd=>rfl);(case hg=>rfl);(case hr=>first|(go_simp;done)|(go_simp;rfl));intro gb111 hg w27 hbox hb;have n0_:=Aside0.mk (below_step (bB) hb);have n1_:=Aside0.mk (hbox);have n2_:=Aside0.mk ((bG:w.heap.size≤gb111));have n3_:=Aside0.mk ((bG:w.heap.size≤gb111));clear HB;have HB:=n0_;have BK111:=n1_;have GW111:=n2_;have GE111:=n3_;clear n0_ n1_ n2_ n3_;clear hb hbox hg;obtain⟨hcz28_0,hcz28_1,hcz28_2,hcz28_3,hcz28_4,hcz28_5,hcz28_6,hcz28_7,hcz28_8,hcz28_9⟩:=cC10 BK111.out;obtain⟨hfz28_0,hfz28_1,hfz28_2,hfz28_3,hfz28_4,hfz28_5,hfz28_6,hfz28_7,hfz28_8,hfz28_9⟩:=cF10 BK111.out)|((with_reducible refine gate_callee (f:=104) rfl ?_);refine goesA (some 5) rfl rfl Try.func104 #[.int .i64 a0_0,.int .i64 0,.int .i64 40] rfl ?_;(with_reducible refine(spec_l1In.calls a0_0 0 40 true _ A2.out).mono ?_);rintro e w' ⟨rfl,⟨nd,rfl⟩⟩;refine⟨_,rfl,?_⟩)|(go_at_call 104;(with_reducible refine(spec_l1In.calls a0_1 0 40 true _ A4.out).mono ?_);rintro e w' ⟨rfl,⟨nd,rfl⟩⟩)|(go_at_call 104;(with_reducible refine(spec_l1In.calls a0_3 0 1000000 true _ A6.out).mono ?_);rintro e w' ⟨rfl,⟨nd,rfl⟩⟩)|(go_at_call 104;(with_reducible refine(spec_l1In.calls a0_4 0 1000 true _ A8.out).mono ?_);rintro e w' ⟨rfl,⟨nd,rfl⟩⟩)|(go_at_call 104;(with_reducible refine(spec_l1In.calls a0_5 1 1000000 true _ A10.out).mono ?_);rintro e w' ⟨rfl,⟨nd,rfl⟩⟩)|(go_at_call 104;(with_reducible refine(spec_l1In.calls a0_6 0 30 true _ A12.out).mono ?_);rintro e w' ⟨rfl,⟨nd,rfl⟩⟩)|(go_at_call 104;(with_reducible refine(spec_l1In.calls a0_8 0 60 true _ A17.out).mono ?_);rintro e w' ⟨rfl,⟨nd,rfl⟩⟩)|(go_at_call 104;(with_reducible refine(spec_l1In.calls a0_7 0 a0_8 true _ A19.out).mono ?_);rintro e w' ⟨rfl,⟨nd,rfl⟩⟩))
            go_ret
            exact⟨bE,bS GE111.out⟩
         ·replace c20:=Bool.eq_false_iff.mpr c20
          subst c20
          have H1:(some false)=some r:=by rw[if_neg (show ¬ (false=true) by decide)] at H;exact H
          clear H
          have H:=H1
          clear H1
          obtain rfl:=Option.some.inj H
          go_enter Try.func228,Try.ntmps228
          go_wp2_with (first|((with_reducible refine gate_dst (N:=1) rfl ?_);(try (refine gate_guard (by rfl) ?_;dsimp only));refine box_event ?hg (N:=1) ?hd (cs:=#[.int .i64 a0_0,.int .i64 a0_1,.bool a0_2,.int .i64 a0_3,.int .i64 a0_4,.int .i64 a0_5,.int .i64 a0_6,.int .i64 a0_7,.int .i64 a0_8,.string a0_9]) (t:=79) ?hr ?_;(case hd=>rfl);(case hg=>rfl);(case hr=>first|(go_simp;done)|(go_simp;rfl));intro gb111 hg w29 hbox hb;have n0_:=Aside0.mk (below_step (bB) hb);have n1_:=Aside0.mk (hbox);have n2_:=Aside0.mk ((bG:w.heap.size≤gb111));have n3_:=Aside0.mk ((bG:w.heap.size≤gb111));clear HB;have HB:=n0_;have BK111:=n1_;have GW111:=n2_;have GE111:=n3_;clear n0_ n1_ n2_ n3_;clear hb hbox hg;obtain⟨hcz30_0,hcz30_1,hcz30_2,hcz30_3,hcz30_4,hcz30_5,hcz30_6,hcz30_7,hcz30_8,hcz30_9⟩:=cC10 BK111.out;obtain⟨hfz30_0,hfz30_1,hfz30_2,hfz30_3,hfz30_4,hfz30_5,hfz30_6,hfz30_7,hfz30_8,hfz30_9⟩:=cF10 BK111.out)|((with_reducible refine gate_callee (f:=104) rfl ?_);refine goesA (some 5) rfl rfl Try.func104 #[.int .i64 a0_0,.int .i64 0,.int .i64 40] rfl ?_;(with_reducible refine(spec_l1In.calls a0_0 0 40 true _ A2.out).mono ?_);rintro e w' ⟨rfl,⟨nd,rfl⟩⟩;refine⟨_,rfl,?_⟩)|(go_at_call 104;(with_reducible refine(spec_l1In.calls a0_1 0 40 true _ A4.out).mono ?_);rintro e w' ⟨rfl,⟨nd,rfl⟩⟩)|(go_at_call 104;(with_reducible refine(spec_l1In.calls a0_3 0 1000000 true _ A6.out).mono ?_);rintro e w' ⟨rfl,⟨nd,rfl⟩⟩)|(go_at_call 104;(with_reducible refine(spec_l1In.calls a0_4 0 1000 true _ A8.out).mono ?_);rintro e w' ⟨rfl,⟨nd,rfl⟩⟩)|(go_at_call 104;(with_reducible refine(spec_l1In.calls a0_5 1 1000000 true _ A10.out).mono ?_);rintro e w' ⟨rfl,⟨nd,rfl⟩⟩)|(go_at_call 104;(with_reducible refine(spec_l1In.calls a0_6 0 30 true _ A12.out).mono ?_);rintro e w' ⟨rfl,⟨nd,rfl⟩⟩)|(go_at_call 104;(with_reducible refine(spec_l1In.calls a0_8 0 60 true _ A17.out).mono ?_);rintro e w' ⟨rfl,⟨nd,rfl⟩⟩)|(go_at_call 104;(with_reducible refine(spec_l1In.calls a0_7 0 a0_8 false _ A19.out).mono ?_);rintro e w' ⟨rfl,⟨nd,rfl⟩⟩))
          go_ret
          exact⟨bE,bS GE111.out⟩
        ·replace c18:=Bool.eq_false_iff.mpr c18
         subst c18
         have H1:(some false)=some r:=by rw[if_neg (show ¬ (false=true) by decide)] at H;exact H
         clear H
         have H:=H1
         clear H1
         obtain rfl:=Option.some.inj H
         go_enter Try.func228,Try.ntmps228
         go_wp2_with (first|((with_reducible refine gate_dst (N:=1) rfl ?_);(try (refine gate_guard (by rfl) ?_;dsimp only));refine box_event ?hg (N:=1) ?hd (cs:=#[.int .i64 a0_0,.int .i64 a0_1,.bool a0_2,.int .i64 a0_3,.int .i64 a0_4,.int .i64 a0_5,.int .i64 a0_6,.int .i64 a0_7,.int .i64 a0_8,.string a0_9]) (t:=79) ?hr ?_;(case hd=>rfl);(case hg=>rfl);(case hr=>first|(go_simp;done)|(go_simp;rfl));intro gb111 hg w31 hbox hb;have n0_:=Aside0.mk (below_step (bB) hb);have n1_:=Aside0.mk (hbox);have n2_:=Aside0.mk ((bG:w.heap.size≤gb111));have n3_:=Aside0.mk ((bG:w.heap.size≤gb111));clear HB;have HB:=n0_;have BK111:=n1_;have GW111:=n2_;have GE111:=n3_;clear n0_ n1_ n2_ n3_;clear hb hbox hg;obtain⟨hcz32_0,hcz32_1,hcz32_2,hcz32_3,hcz32_4,hcz32_5,hcz32_6,hcz32_7,hcz32_8,hcz32_9⟩:=cC10 BK111.out;obtain⟨hfz32_0,hfz32_1,hfz32_2,hfz32_3,hfz32_4,hfz32_5,hfz32_6,hfz32_7,hfz32_8,hfz32_9⟩:=cF10 BK111.out)|((with_reducible refine gate_callee (f:=104) rfl ?_);refine goesA (some 5) rfl rfl Try.func104 #[.int .i64 a0_0,.int .i64 0,.int .i64 40] rfl ?_;(with_reducible refine(spec_l1In.calls a0_0 0 40 true _ A2.out).mono ?_);rintro e w' ⟨rfl,⟨nd,rfl⟩⟩;refine⟨_,rfl,?_⟩)|(go_at_call 104;(with_reducible refine(spec_l1In.calls a0_1 0 40 true _ A4.out).mono ?_);rintro e w' ⟨rfl,⟨nd,rfl⟩⟩)|(go_at_call 104;(with_reducible refine(spec_l1In.calls a0_3 0 1000000 true _ A6.out).mono ?_);rintro e w' ⟨rfl,⟨nd,rfl⟩⟩)|(go_at_call 104;(with_reducible refine(spec_l1In.calls a0_4 0 1000 true _ A8.out).mono ?_);rintro e w' ⟨rfl,⟨nd,rfl⟩⟩)|(go_at_call 104;(with_reducible refine(spec_l1In.calls a0_5 1 1000000 true _ A10.out).mono ?_);rintro e w' ⟨rfl,⟨nd,rfl⟩⟩)|(go_at_call 104;(with_reducible refine(spec_l1In.calls a0_6 0 30 true _ A12.out).mono ?_);rintro e w' ⟨rfl,⟨nd,rfl⟩⟩)|(go_at_call 104;(with_reducible refine(spec_l1In.calls a0_8 0 60 false _ A17.out).mono ?_);rintro e w' ⟨rfl,⟨nd,rfl⟩⟩))
         go_ret
         exact⟨bE,bS GE111.out⟩
      ·replace c13:=Bool.eq_false_iff.mpr c13
       subst c13
       have H1:(some false)=some r:=by rw[if_neg (show ¬ (false=true) by decide)] at H;exact H
       clear H
       have H:=H1
       clear H1
       obtain rfl:=Option.some.inj H
       go_enter Try.func228,Try.ntmps228
       go_wp2_with (first|((with_reducible refine gate_dst (N:=1) rfl ?_);(try (refine gate_guard (by rfl) ?_;dsimp only));refine box_event ?hg (N:=1) ?hd (cs:=#[.int .i64 a0_0,.int .i64 a0_1,.bool a0_2,.int .i64 a0_3,.int .i64 a0_4,.int .i64 a0_5,.int .i64 a0_6,.int .i64 a0_7,.int .i64 a0_8,.string a0_9]) (t:=79) ?hr ?_;(case hd=>rfl);(case hg=>rfl);(case hr=>first|(go_simp;done)|(go_simp;rfl));intro gb111 hg w33 hbox hb;have n0_:=Aside0.mk (below_step (bB) hb);have n1_:=Aside0.mk (hbox);have n2_:=Aside0.mk ((bG:w.heap.size≤gb111));have n3_:=Aside0.mk ((bG:w.heap.size≤gb111));clear HB;have HB:=n0_;have BK111:=n1_;have GW111:=n2_;have GE111:=n3_;clear n0_ n1_ n2_ n3_;clear hb hbox hg;obtain⟨hcz34_0,hcz34_1,hcz34_2,hcz34_3,hcz34_4,hcz34_5,hcz34_6,hcz34_7,hcz34_8,hcz34_9⟩:=cC10 BK111.out;obtain⟨hfz34_0,hfz34_1,hfz34_2,hfz34_3,hfz34_4,hfz34_5,hfz34_6,hfz34_7,hfz34_8,hfz34_9⟩:=cF10 BK111.out)|((with_reducible refine gate_callee (f:=104) rfl ?_);refine goesA (some 5) rfl rfl Try.func104 #[.int .i64 a0_0,.int .i64 0,.int .i64 40] rfl ?_;(with_reducible refine(spec_l1In.calls a0_0 0 40 true _ A2.out).mono ?_);rintro e w' ⟨rfl,⟨nd,rfl⟩⟩;refine⟨_,rfl,?_⟩)|(go_at_call 104;(with_reducible refine(spec_l1In.calls a0_1 0 40 true _ A4.out).mono ?_);rintro e w' ⟨rfl,⟨nd,rfl⟩⟩)|(go_at_call 104;(with_reducible refine(spec_l1In.calls a0_3 0 1000000 true _ A6.out).mono ?_);rintro e w' ⟨rfl,⟨nd,rfl⟩⟩)|(go_at_call 104;(with_reducible refine(spec_l1In.calls a0_4 0 1000 true _ A8.out).mono ?_);rintro e w' ⟨rfl,⟨nd,rfl⟩⟩)|(go_at_call 104;(with_reducible refine(spec_l1In.calls a0_5 1 1000000 true _ A10.out).mono ?_);rintro e w' ⟨rfl,⟨nd,rfl⟩⟩)|(go_at_call 104;(with_reducible refine(spec_l1In.calls a0_6 0 30 false _ A12.out).mono ?_);rintro e w' ⟨rfl,⟨nd,rfl⟩⟩))
       go_ret
       exact⟨bE,bS GE111.out⟩
     ·replace c11:=Bool.eq_false_iff.mpr c11
      subst c11
      have H1:(some false)=some r:=by rw[if_neg (show ¬ (false=true) by decide)] at H;exact H
      clear H
      have H:=H1
      clear H1
      obtain rfl:=Option.some.inj H
      go_enter Try.func228,Try.ntmps228
      go_wp2_with (first|((with_reducible refine gate_dst (N:=1) rfl ?_);(try (refine gate_guard (by rfl) ?_;dsimp only));refine box_event ?hg (N:=1) ?hd (cs:=#[.int .i64 a0_0,.int .i64 a0_1,.bool a0_2,.int .i64 a0_3,.int .i64 a0_4,.int .i64 a0_5,.int .i64 a0_6,.int .i64 a0_7,.int .i64 a0_8,.string a0_9]) (t:=79) ?hr ?_;(case hd=>rfl);(case hg=>rfl);(case hr=>first|(go_simp;done)|(go_simp;rfl));intro gb111 hg w35 hbox hb;have n0_:=Aside0.mk (below_step (bB) hb);have n1_:=Aside0.mk (hbox);have n2_:=Aside0.mk ((bG:w.heap.size≤gb111));have n3_:=Aside0.mk ((bG:w.heap.size≤gb111));clear HB;have HB:=n0_;have BK111:=n1_;have GW111:=n2_;have GE111:=n3_;clear n0_ n1_ n2_ n3_;clear hb hbox hg;obtain⟨hcz36_0,hcz36_1,hcz36_2,hcz36_3,hcz36_4,hcz36_5,hcz36_6,hcz36_7,hcz36_8,hcz36_9⟩:=cC10 BK111.out;obtain⟨hfz36_0,hfz36_1,hfz36_2,hfz36_3,hfz36_4,hfz36_5,hfz36_6,hfz36_7,hfz36_8,hfz36_9⟩:=cF10 BK111.out)|((with_reducible refine gate_callee (f:=104) rfl ?_);refine goesA (some 5) rfl rfl Try.func104 #[.int .i64 a0_0,.int .i64 0,.int .i64 40] rfl ?_;(with_reducible refine(spec_l1In.calls a0_0 0 40 true _ A2.out).mono ?_);rintro e w' ⟨rfl,⟨nd,rfl⟩⟩;refine⟨_,rfl,?_⟩)|(go_at_call 104;(with_reducible refine(spec_l1In.calls a0_1 0 40 true _ A4.out).mono ?_);rintro e w' ⟨rfl,⟨nd,rfl⟩⟩)|(go_at_call 104;(with_reducible refine(spec_l1In.calls a0_3 0 1000000 true _ A6.out).mono ?_);rintro e w' ⟨rfl,⟨nd,rfl⟩⟩)|(go_at_call 104;(with_reducible refine(spec_l1In.calls a0_4 0 1000 true _ A8.out).mono ?_);rintro e w' ⟨rfl,⟨nd,rfl⟩⟩)|(go_at_call 104;(with_reducible refine(spec_l1In.calls a0_5 1 1000000 false _ A10.out).mono ?_);rintro e w' ⟨rfl,⟨nd,rfl⟩⟩))
      go_ret
      exact⟨bE,bS GE111.out⟩
    ·replace c9:=Bool.eq_false_iff.mpr c9
     subst c9
     have H1:(some false)=some r:=by rw[if_neg (show ¬ (false=true) by decide)] at H;exact H
     clear H
     have H:=H1
     clear H1
     obtain rfl:=Option.some.inj H
     go_enter Try.func228,Try.ntmps228
     go_wp2_with (first|((with_reducible refine gate_dst (N:=1) rfl ?_);(try (refine gate_guard (by rfl) ?_;dsimp only));refine box_event ?hg (N:=1) ?hd (cs:=#[.int .i64 a0_0,.int .i64 a0_1,.bool a0_2,.int .i64 a0_3,.int .i64 a0_4,.int .i64 a0_5,.int .i64 a0_6,.int .i64 a0_7,.int .i64 a0_8,.string a0_9]) (t:=79) ?hr ?_;(case hd=>rfl);(case hg=>rfl);(case hr=>first|(go_simp;done)|(go_simp;rfl));intro gb111 hg w37 hbox hb;have n0_:=Aside0.mk (below_step (bB) hb);have n1_:=Aside0.mk (hbox);have n2_:=Aside0.mk ((bG:w.heap.size≤gb111));have n3_:=Aside0.mk ((bG:w.heap.size≤gb111));clear HB;have HB:=n0_;have BK111:=n1_;have GW111:=n2_;have GE111:=n3_;clear n0_ n1_ n2_ n3_;clear hb hbox hg;obtain⟨hcz38_0,hcz38_1,hcz38_2,hcz38_3,hcz38_4,hcz38_5,hcz38_6,hcz38_7,hcz38_8,hcz38_9⟩:=cC10 BK111.out;obtain⟨hfz38_0,hfz38_1,hfz38_2,hfz38_3,hfz38_4,hfz38_5,hfz38_6,hfz38_7,hfz38_8,hfz38_9⟩:=cF10 BK111.out)|((with_reducible refine gate_callee (f:=104) rfl ?_);refine goesA (some 5) rfl rfl Try.func104 #[.int .i64 a0_0,.int .i64 0,.int .i64 40] rfl ?_;(with_reducible refine(spec_l1In.calls a0_0 0 40 true _ A2.out).mono ?_);rintro e w' ⟨rfl,⟨nd,rfl⟩⟩;refine⟨_,rfl,?_⟩)|(go_at_call 104;(with_reducible refine(spec_l1In.calls a0_1 0 40 true _ A4.out).mono ?_);rintro e w' ⟨rfl,⟨nd,rfl⟩⟩)|(go_at_call 104;(with_reducible refine(spec_l1In.calls a0_3 0 1000000 true _ A6.out).mono ?_);rintro e w' ⟨rfl,⟨nd,rfl⟩⟩)|(go_at_call 104;(with_reducible refine(spec_l1In.calls a0_4 0 1000 false _ A8.out).mono ?_);rintro e w' ⟨rfl,⟨nd,rfl⟩⟩))
     go_ret
     exact⟨bE,bS GE111.out⟩
   ·replace c7:=Bool.eq_false_iff.mpr c7
    subst c7
    have H1:(some false)=some r:=by rw[if_neg (show ¬ (false=true) by decide)] at H;exact H
    clear H
    have H:=H1
    clear H1
    obtain rfl:=Option.some.inj H
    go_enter Try.func228,Try.ntmps228
    go_wp2_with (first|((with_reducible refine gate_dst (N:=1) rfl ?_);(try (refine gate_guard (by rfl) ?_;dsimp only));refine box_event ?hg (N:=1) ?hd (cs:=#[.int .i64 a0_0,.int .i64 a0_1,.bool a0_2,.int .i64 a0_3,.int .i64 a0_4,.int .i64 a0_5,.int .i64 a0_6,.int .i64 a0_7,.int .i64 a0_8,.string a0_9]) (t:=79) ?hr ?_;(case hd=>rfl);(case hg=>rfl);(case hr=>first|(go_simp;done)|(go_simp;rfl));intro gb111 hg w39 hbox hb;have n0_:=Aside0.mk (below_step (bB) hb);have n1_:=Aside0.mk (hbox);have n2_:=Aside0.mk ((bG:w.heap.size≤gb111));have n3_:=Aside0.mk ((bG:w.heap.size≤gb111));clear HB;have HB:=n0_;have BK111:=n1_;have GW111:=n2_;have GE111:=n3_;clear n0_ n1_ n2_ n3_;clear hb hbox hg;obtain⟨hcz40_0,hcz40_1,hcz40_2,hcz40_3,hcz40_4,hcz40_5,hcz40_6,hcz40_7,hcz40_8,hcz40_9⟩:=cC10 BK111.out;obtain⟨hfz40_0,hfz40_1,hfz40_2,hfz40_3,hfz40_4,hfz40_5,hfz40_6,hfz40_7,hfz40_8,hfz40_9⟩:=cF10 BK111.out)|((with_reducible refine gate_callee (f:=104) rfl ?_);refine goesA (some 5) rfl rfl Try.func104 #[.int .i64 a0_0,.int .i64 0,.int .i64 40] rfl ?_;(with_reducible refine(spec_l1In.calls a0_0 0 40 true _ A2.out).mono ?_);rintro e w' ⟨rfl,⟨nd,rfl⟩⟩;refine⟨_,rfl,?_⟩)|(go_at_call 104;(with_reducible refine(spec_l1In.calls a0_1 0 40 true _ A4.out).mono ?_);rintro e w' ⟨rfl,⟨nd,rfl⟩⟩)|(go_at_call 104;(with_reducible refine(spec_l1In.calls a0_3 0 1000000 false _ A6.out).mono ?_);rintro e w' ⟨rfl,⟨nd,rfl⟩⟩))
    go_ret
    exact⟨bE,bS GE111.out⟩
  ·replace c5:=Bool.eq_false_iff.mpr c5
   subst c5
   have H1:(some false)=some r:=by rw[if_neg (show ¬ (false=true) by decide)] at H;exact H
   clear H
   have H:=H1
   clear H1
   obtain rfl:=Option.some.inj H
   go_enter Try.func228,Try.ntmps228
   go_wp2_with (first|((with_reducible refine gate_dst (N:=1) rfl ?_);(try (refine gate_guard (by rfl) ?_;dsimp only));refine box_event ?hg (N:=1) ?hd (cs:=#[.int .i64 a0_0,.int .i64 a0_1,.bool a0_2,.int .i64 a0_3,.int .i64 a0_4,.int .i64 a0_5,.int .i64 a0_6,.int .i64 a0_7,.int .i64 a0_8,.string a0_9]) (t:=79) ?hr ?_;(case hd=>rfl);(case hg=>rfl);(case hr=>first|(go_simp;done)|(go_simp;rfl));intro gb111 hg w41 hbox hb;have n0_:=Aside0.mk (below_step (bB) hb);have n1_:=Aside0.mk (hbox);have n2_:=Aside0.mk ((bG:w.heap.size≤gb111));have n3_:=Aside0.mk ((bG:w.heap.size≤gb111));clear HB;have HB:=n0_;have BK111:=n1_;have GW111:=n2_;have GE111:=n3_;clear n0_ n1_ n2_ n3_;clear hb hbox hg;obtain⟨hcz42_0,hcz42_1,hcz42_2,hcz42_3,hcz42_4,hcz42_5,hcz42_6,hcz42_7,hcz42_8,hcz42_9⟩:=cC10 BK111.out;obtain⟨hfz42_0,hfz42_1,hfz42_2,hfz42_3,hfz42_4,hfz42_5,hfz42_6,hfz42_7,hfz42_8,hfz42_9⟩:=cF10 BK111.out)|((with_reducible refine gate_callee (f:=104) rfl ?_);refine goesA (some 5) rfl rfl Try.func104 #[.int .i64 a0_0,.int .i64 0,.int .i64 40] rfl ?_;(with_reducible refine(spec_l1In.calls a0_0 0 40 true _ A2.out).mono ?_);rintro e w' ⟨rfl,⟨nd,rfl⟩⟩;refine⟨_,rfl,?_⟩)|(go_at_call 104;(with_reducible refine(spec_l1In.calls a0_1 0 40 false _ A4.out).mono ?_);rintro e w' ⟨rfl,⟨nd,rfl⟩⟩))
   go_ret
   exact⟨bE,bS GE111.out⟩
 ·replace c3:=Bool.eq_false_iff.mpr c3
  subst c3
  have H1:(some false)=some r:=by rw[if_neg (show ¬ (false=true) by decide)] at H;exact H
  clear H
  have H:=H1
  clear H1
  obtain rfl:=Option.some.inj H
  go_enter Try.func228,Try.ntmps228
  go_wp2_with (first|((with_reducible refine gate_dst (N:=1) rfl ?_);(try (refine gate_guard (by rfl) ?_;dsimp only));refine box_event ?hg (N:=1) ?hd (cs:=#[.int .i64 a0_0,.int .i64 a0_1,.bool a0_2,.int .i64 a0_3,.int .i64 a0_4,.int .i64 a0_5,.int .i64 a0_6,.int .i64 a0_7,.int .i64 a0_8,.string a0_9]) (t:=79) ?hr ?_;(case hd=>rfl);(case hg=>rfl);(case hr=>first|(go_simp;done)|(go_simp;rfl));intro gb111 hg w43 hbox hb;have n0_:=Aside0.mk (below_step (bB) hb);have n1_:=Aside0.mk (hbox);have n2_:=Aside0.mk ((bG:w.heap.size≤gb111));have n3_:=Aside0.mk ((bG:w.heap.size≤gb111));clear HB;have HB:=n0_;have BK111:=n1_;have GW111:=n2_;have GE111:=n3_;clear n0_ n1_ n2_ n3_;clear hb hbox hg;obtain⟨hcz44_0,hcz44_1,hcz44_2,hcz44_3,hcz44_4,hcz44_5,hcz44_6,hcz44_7,hcz44_8,hcz44_9⟩:=cC10 BK111.out;obtain⟨hfz44_0,hfz44_1,hfz44_2,hfz44_3,hfz44_4,hfz44_5,hfz44_6,hfz44_7,hfz44_8,hfz44_9⟩:=cF10 BK111.out)|((with_reducible refine gate_callee (f:=104) rfl ?_);refine goesA (some 5) rfl rfl Try.func104 #[.int .i64 a0_0,.int .i64 0,.int .i64 40] rfl ?_;(with_reducible refine(spec_l1In.calls a0_0 0 40 false _ A2.out).mono ?_);rintro e w' ⟨rfl,⟨nd,rfl⟩⟩;refine⟨_,rfl,?_⟩))
  go_ret
  exact⟨bE,bS GE111.out⟩

end Go.Proofs.Ytjmanpicdeebgaa.XFnExactTreeFor
