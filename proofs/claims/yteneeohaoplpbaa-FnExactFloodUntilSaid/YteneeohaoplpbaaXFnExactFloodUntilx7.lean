-- Written by this session's own program (wip/xprint.py) out of the translation; Lean checks it.
import Derived.Test.YteneeohaoplpbaaXFnExactFloodUntilx0
namespace Go.Proofs.Yteneeohaoplpbaa.XFnExactFloodUntil
open Go.RowKit Go.Proofs.YteneeohaoplpbaaW.PrintWords Go.Proofs.YteneeohaoplpbaaW.PrintLast Go.Proofs.YteneeohaoplpbaaW.PrintMore
attribute [local go_sem] max2_int min2_int max_two min_two max_three min_three max_four min_four   -- for this text's walks alone
set_option linter.unusedVariables false
set_option linter.unusedSimpArgs false

/-! ### laws_eqIntS: function 26 -/
def laws_eqIntS.l0:Nat→List Int→List Int→Int→Option (Bool)
 | 0,_,_,_=>none
 | k+1,x0,x1,x5=>if x5 < (x0.length:Int) then (if 0≤x5 then (if x5 < (x1.length:Int) then (if (rd x0 x5)=(rd x1 x5) then (laws_eqIntS.l0 k x0 x1 (wrap64 (x5+1))) else (some false)) else (none)) else (none)) else (some true)
def laws_eqIntS.f (k:Nat) (l0:List Int) (l1:List Int):Option (Bool):=if (l0.length:Int)=(l1.length:Int) then (laws_eqIntS.l0 k l0 l1 0) else (some false)
theorem laws_eqIntS.mono_l : ∀ k,(∀ y0 y1 y2,LeO (laws_eqIntS.l0 k y0 y1 y2) (laws_eqIntS.l0 (k+1) y0 y1 y2))
 | 0=>fun _ _ _ r h=>by simp[laws_eqIntS.l0] at h
 | k+1=>by
  have ih0:=laws_eqIntS.mono_l k
  ·intro y0 y1 y2
   unfold laws_eqIntS.l0
   repeat' first
   | (with_reducible exact ih0 _ _ _)
   | (with_reducible exact LeO.refl _)
   | (with_reducible exact LeO.none _)
   | (with_reducible refine LeO.ite ?_ ?_)
   | (with_reducible refine LeO.bind ?_ (fun _ => ?_))
   | exact ih0 _ _ _
   | exact LeO.none _
   | refine LeO.ite ?_ ?_
   | refine LeO.bind ?_ (fun _ => ?_)
theorem laws_eqIntS.mono : ∀ a0 a1 k,LeO (laws_eqIntS.f k a0 a1) (laws_eqIntS.f (k+1) a0 a1):=by
 intro a0 a1 k
 have ih0:=laws_eqIntS.mono_l k
 unfold laws_eqIntS.f
 repeat' first
  | (with_reducible exact ih0 _ _ _)
  | (with_reducible exact LeO.refl _)
  | (with_reducible exact LeO.none _)
  | (with_reducible refine LeO.ite ?_ ?_)
  | (with_reducible refine LeO.bind ?_ (fun _ => ?_))
  | exact ih0 _ _ _
  | exact LeO.none _
  | refine LeO.ite ?_ ?_
  | refine LeO.bind ?_ (fun _ => ?_)
set_option maxHeartbeats 8000000 in
set_option maxRecDepth 100000 in
theorem laws_eqIntS.calls (k:Nat) (A0:Option Addr) (c0:Nat) (l0:List Int) (A1:Option Addr) (c1:Nat) (l1:List Int) (r:Bool) (w:World) (hr0:Kd.C (Kd.int .i64) w A0 l0.length l0) (hc0:l0.length≤c0) (hr1:Kd.C (Kd.int .i64) w A1 l1.length l1) (hc1:l1.length≤c1) (h:laws_eqIntS.f k l0 l1=some r) :
  Calls Try.prog 26 #[.slice A0 l0.length c0,.slice A1 l1.length c1] w fun e w'=>e=.returned (.bool r)∧Drawn0 w w':=by
 have HR0:=Aside0.mk hr0
 have HC0:=Aside0.mk hc0
 clear hr0 hc0
 have HR1:=Aside0.mk hr1
 have HC1:=Aside0.mk hc1
 clear hr1 hc1
 have H:(if (l0.length:Int)=(l1.length:Int) then (laws_eqIntS.l0 k l0 l1 0) else (some false))=some r:=h
 clear h
 by_cases c3:(l0.length:Int)=(l1.length:Int)
 ·rw[if_pos c3] at H
  have c3b0:((l0.length:Int) == (l1.length:Int))=true:=beq_iff_eq.mpr c3
  have c3b1:((l0.length:Int) != (l1.length:Int))=false:=bne_eq_false_iff_eq.mpr c3
  have c3b2:(l0.length == l1.length)=true:=by first|simpa using c3|(simp at c3 ⊢;omega)
  clear c3
  have H':=Aside0.mk H
  clear H
  go_enter Try.func26,Try.ntmps26
  go_wp2
  repeat (go_quiet (fail);try go_wp2)
  go_loopg [5] k (fun kq v5 w' => ∃ (x5_1:Int),v5=.int .i64 x5_1∧Aside0 (laws_eqIntS.l0 kq l0 l1 x5_1=some r)∧Aside0 (kq≤k)∧Drawn0 w w')
  case atStart=>exact⟨(0),(bR),H',⟨Nat.le_refl _⟩,bW⟩
  case round =>
   clear H'
   try clear c1
   try clear c2
   try clear p2
   try clear c3
   try clear c3b0
   try clear c3b1
   try clear c3b2
   obtain⟨x5_1,rfl,HA,HK1,⟨m1,rfl⟩⟩:=hrel
   cases gk with
   | zero=>exact absurd HA.out (by simp[laws_eqIntS.l0])
   | succ k1 =>
    have H:=HA.out
    clear HA
    simp only[laws_eqIntS.l0] at H
    by_cases c4:x5_1 < (l0.length:Int)
    ·rw[if_pos c4] at H
     have c4b0:decide (x5_1 < (l0.length:Int))=true:=decide_eq_true c4
     clear c4
     by_cases c5:0≤x5_1
     ·rw[if_pos c5] at H
      have c5b0:decide (0≤x5_1)=true:=decide_eq_true c5
      clear c5
      by_cases c6:x5_1 < (l1.length:Int)
      ·rw[if_pos c6] at H
       have c6b0:decide (x5_1 < (l1.length:Int))=true:=decide_eq_true c6
       clear c6
       by_cases c7:(rd l0 x5_1)=(rd l1 x5_1)
       ·rw[if_pos c7] at H
        have c7b0:((rd l0 x5_1) == (rd l1 x5_1))=true:=beq_iff_eq.mpr c7
        have c7b1:((rd l0 x5_1) != (rd l1 x5_1))=false:=bne_eq_false_iff_eq.mpr c7
        clear c7
        have H':=Aside0.mk H
        clear H
        have p208:0≤(x5_1:Int):=of_decide_eq_true (bD)
        have q208:x5_1 < (l0.length:Int):=of_decide_eq_true (bD)
        obtain⟨ad208,e208,hx208_0⟩:=Kd.at_int HR0.out x5_1 p208 q208
        cases e208
        replace p208:=eq_true p208
        replace q208:=eq_true q208
        have p209:0≤(x5_1:Int):=of_decide_eq_true (bD)
        have q209:x5_1 < (l1.length:Int):=of_decide_eq_true (bD)
        obtain⟨ad209,e209,hx209_0⟩:=Kd.at_int HR1.out x5_1 p209 q209
        cases e209
        replace p209:=eq_true p209
        replace q209:=eq_true q209
        go_wp2
        repeat (go_quiet (fail);try go_wp2)
        go_roundg k1
        case measure=>have:=HK1.out;omega
        case rel=>exact⟨(wrap64 (x5_1+1)),(bR),H',⟨by have:=HK1.out;omega⟩,bW⟩
       ·rw[if_neg c7] at H
        have c7b0:((rd l0 x5_1) == (rd l1 x5_1))=false:=beq_eq_false_iff_ne.mpr c7
        have c7b1:((rd l0 x5_1) != (rd l1 x5_1))=true:=bne_iff_ne.mpr c7
        obtain rfl:=Option.some.inj H
        have p208:0≤(x5_1:Int):=of_decide_eq_true (bD)
        have q208:x5_1 < (l0.length:Int):=of_decide_eq_true (bD)
        obtain⟨ad208,e208,hx208_0⟩:=Kd.at_int HR0.out x5_1 p208 q208
        cases e208
        replace p208:=eq_true p208
        replace q208:=eq_true q208
        have p209:0≤(x5_1:Int):=of_decide_eq_true (bD)
        have q209:x5_1 < (l1.length:Int):=of_decide_eq_true (bD)
        obtain⟨ad209,e209,hx209_0⟩:=Kd.at_int HR1.out x5_1 p209 q209
        cases e209
        replace p209:=eq_true p209
        replace q209:=eq_true q209
        go_wp2
        repeat (go_quiet (fail);try go_wp2)
        go_ret
        exact⟨bR,bW⟩
      ·rw[if_neg c6] at H
       exact absurd H (by simp)
     ·rw[if_neg c5] at H
      exact absurd H (by simp)
    ·rw[if_neg c4] at H
     have c4b0:decide (x5_1 < (l0.length:Int))=false:=decide_eq_false c4
     clear c4
     obtain rfl:=Option.some.inj H
     go_wp2
     repeat (go_quiet (fail);try go_wp2)
     go_ret
     exact⟨bR,bW⟩
 ·rw[if_neg c3] at H
  have c3b0:((l0.length:Int) == (l1.length:Int))=false:=beq_eq_false_iff_ne.mpr c3
  have c3b1:((l0.length:Int) != (l1.length:Int))=true:=bne_iff_ne.mpr c3
  have c3b2:(l0.length == l1.length)=false:=by first|simpa using c3|(simp at c3 ⊢;omega)
  obtain rfl:=Option.some.inj H
  go_enter Try.func26,Try.ntmps26
  go_wp2
  repeat (go_quiet (fail);try go_wp2)
  go_ret
  exact⟨bR,bW⟩

/-! ### laws_eqContact: function 95 -/
def laws_eqContact.f (a0_0:Int) (a0_1:Int) (a0_2:Int) (a0_3:Int) (a0_4:Int) (a1_0:Int) (a1_1:Int) (a1_2:Int) (a1_3:Int) (a1_4:Int):Option (Bool):=if a0_0=a1_0 then (if a0_1=a1_1 then (if a0_2=a1_2 then (if a0_3=a1_3 then (if a0_4=a1_4 then (some true) else (some false)) else (some false)) else (some false)) else (some false)) else (some false)
set_option maxHeartbeats 8000000 in
set_option maxRecDepth 100000 in
theorem laws_eqContact.calls (a0_0:Int) (a0_1:Int) (a0_2:Int) (a0_3:Int) (a0_4:Int) (a1_0:Int) (a1_1:Int) (a1_2:Int) (a1_3:Int) (a1_4:Int) (r:Bool) (w:World) (h:laws_eqContact.f a0_0 a0_1 a0_2 a0_3 a0_4 a1_0 a1_1 a1_2 a1_3 a1_4=some r) :
  Calls Try.prog 95 #[.agg #[.int .i64 a0_0,.int .i64 a0_1,.int .i64 a0_2,.int .i64 a0_3,.int .i64 a0_4],.agg #[.int .i64 a1_0,.int .i64 a1_1,.int .i64 a1_2,.int .i64 a1_3,.int .i64 a1_4]] w fun e w'=>e=.returned (.bool r)∧Below w.heap.size w w':=by
 have hu104:=Try.underlying104
 have HB:=Aside0.mk (Below.refl w.heap.size w)
 have H:(if a0_0=a1_0 then (if a0_1=a1_1 then (if a0_2=a1_2 then (if a0_3=a1_3 then (if a0_4=a1_4 then (some true) else (some false)) else (some false)) else (some false)) else (some false)) else (some false))=some r:=h
 clear h
 by_cases c3:a0_0=a1_0
 ·rw[if_pos c3] at H
  have c3b0:(a0_0 == a1_0)=true:=beq_iff_eq.mpr c3
  have c3b1:(a0_0 != a1_0)=false:=bne_eq_false_iff_eq.mpr c3
  clear c3
  by_cases c4:a0_1=a1_1
  ·rw[if_pos c4] at H
   have c4b0:(a0_1 == a1_1)=true:=beq_iff_eq.mpr c4
   have c4b1:(a0_1 != a1_1)=false:=bne_eq_false_iff_eq.mpr c4
   clear c4
   by_cases c5:a0_2=a1_2
   ·rw[if_pos c5] at H
    have c5b0:(a0_2 == a1_2)=true:=beq_iff_eq.mpr c5
    have c5b1:(a0_2 != a1_2)=false:=bne_eq_false_iff_eq.mpr c5
    clear c5
    by_cases c6:a0_3=a1_3
    ·rw[if_pos c6] at H
     have c6b0:(a0_3 == a1_3)=true:=beq_iff_eq.mpr c6
     have c6b1:(a0_3 != a1_3)=false:=bne_eq_false_iff_eq.mpr c6
     clear c6
     by_cases c7:a0_4=a1_4
     ·rw[if_pos c7] at H
      have c7b0:(a0_4 == a1_4)=true:=beq_iff_eq.mpr c7
      have c7b1:(a0_4 != a1_4)=false:=bne_eq_false_iff_eq.mpr c7
      clear c7
      obtain rfl:=Option.some.inj H
      go_enter Try.func95,Try.ntmps95
      go_wp2_with (first|((with_reducible refine gate_dst (N:=2) rfl ?_);refine box_event ?hg (N:=2) ?hd (cs:=#[.int .i64 a0_0,.int .i64 a0_1,.int .i64 a0_2,.int .i64 a0_3,.int .i64 a0_4]) (t:=104) ?hr ?_;(case hd=>rfl);(case hg=>rfl);(case hr=>first|(go_simp;done)|(go_simp;rfl));intro gb210 hg w8 hbox hb;have n0_:=Aside0.mk (below_step (bB) hb);have n1_:=Aside0.mk (hbox);have n2_:=Aside0.mk ((bG:w.heap.size≤gb210));have n3_:=Aside0.mk ((bG:w.heap.size≤gb210));clear HB;have HB:=n0_;have BK210:=n1_;have GW210:=n2_;have GE210:=n3_;clear n0_ n1_ n2_ n3_;clear hb hbox hg)|((with_reducible refine gate_dst (N:=3) rfl ?_);refine box_event ?hg (N:=3) ?hd (cs:=#[.int .i64 a1_0,.int .i64 a1_1,.int .i64 a1_2,.int .i64 a1_3,.int .i64 a1_4]) (t:=104) ?hr ?_;(case hd=>rfl);(case hg=>rfl);(case hr=>first|(go_simp;done)|(go_simp;rfl));intro gb211 hg w9 hbox hb;have n0_:=Aside0.mk (bM BK210.out hb);have n1_:=Aside0.mk (below_step (bS GE210.out) hb);have n2_:=Aside0.mk (hbox);have n3_:=Aside0.mk ((by rw[hg];exact(below_size (bS GE210.out)):w.heap.size≤gb211));have n4_:=Aside0.mk ((by rw[hg];exact(below_size (bS GE210.out)):w.heap.size≤gb211));have n5_:=Aside0.mk ((bN BK210.out hg:gb210≠gb211));have n6_:=Aside0.mk ((bO BK210.out hg:gb211≠gb210));clear BK210 HB;have BK210:=n0_;have HB:=n1_;have BK211:=n2_;have GW211:=n3_;have GE211:=n4_;have NB210_211:=n5_;have NB211_210:=n6_;clear n0_ n1_ n2_ n3_ n4_ n5_ n6_;clear hb hbox hg;have hnb10:=NB210_211.out;have hnc10:=NB211_210.out;obtain⟨hcz11_0,hcz11_1,hcz11_2,hcz11_3,hcz11_4⟩:=cC5 BK210.out;obtain⟨hfz11_0,hfz11_1,hfz11_2,hfz11_3,hfz11_4⟩:=cF5 BK210.out;obtain⟨hcz12_0,hcz12_1,hcz12_2,hcz12_3,hcz12_4⟩:=cC5 BK211.out;obtain⟨hfz12_0,hfz12_1,hfz12_2,hfz12_3,hfz12_4⟩:=cF5 BK211.out))
      go_ret
      exact⟨bE,bS2 GE210.out GE211.out⟩
     ·rw[if_neg c7] at H
      have c7b0:(a0_4 == a1_4)=false:=beq_eq_false_iff_ne.mpr c7
      have c7b1:(a0_4 != a1_4)=true:=bne_iff_ne.mpr c7
      obtain rfl:=Option.some.inj H
      go_enter Try.func95,Try.ntmps95
      go_wp2_with (first|((with_reducible refine gate_dst (N:=2) rfl ?_);refine box_event ?hg (N:=2) ?hd (cs:=#[.int .i64 a0_0,.int .i64 a0_1,.int .i64 a0_2,.int .i64 a0_3,.int .i64 a0_4]) (t:=104) ?hr ?_;(case hd=>rfl);(case hg=>rfl);(case hr=>first|(go_simp;done)|(go_simp;rfl));intro gb210 hg w13 hbox hb;have n0_:=Aside0.mk (below_step (bB) hb);have n1_:=Aside0.mk (hbox);have n2_:=Aside0.mk ((bG:w.heap.size≤gb210));have n3_:=Aside0.mk ((bG:w.heap.size≤gb210));clear HB;have HB:=n0_;have BK210:=n1_;have GW210:=n2_;have GE210:=n3_;clear n0_ n1_ n2_ n3_;clear hb hbox hg)|((with_reducible refine gate_dst (N:=3) rfl ?_);refine box_event ?hg (N:=3) ?hd (cs:=#[.int .i64 a1_0,.int .i64 a1_1,.int .i64 a1_2,.int .i64 a1_3,.int .i64 a1_4]) (t:=104) ?hr ?_;(case hd=>rfl);(case hg=>rfl);(case hr=>first|(go_simp;done)|(go_simp;rfl));intro gb211 hg w14 hbox hb;have n0_:=Aside0.mk (bM BK210.out hb);have n1_:=Aside0.mk (below_step (bS GE210.out) hb);have n2_:=Aside0.mk (hbox);have n3_:=Aside0.mk ((by rw[hg];exact(below_size (bS GE210.out)):w.heap.size≤gb211));have n4_:=Aside0.mk ((by rw[hg];exact(below_size (bS GE210.out)):w.heap.size≤gb211));have n5_:=Aside0.mk ((bN BK210.out hg:gb210≠gb211));have n6_:=Aside0.mk ((bO BK210.out hg:gb211≠gb210));clear BK210 HB;have BK210:=n0_;have HB:=n1_;have BK211:=n2_;have GW211:=n3_;have GE211:=n4_;have NB210_211:=n5_;have NB211_210:=n6_;clear n0_ n1_ n2_ n3_ n4_ n5_ n6_;clear hb hbox hg;have hnb15:=NB210_211.out;have hnc15:=NB211_210.out;obtain⟨hcz16_0,hcz16_1,hcz16_2,hcz16_3,hcz16_4⟩:=cC5 BK210.out;obtain⟨hfz16_0,hfz16_1,hfz16_2,hfz16_3,hfz16_4⟩:=cF5 BK210.out;obtain⟨hcz17_0,hcz17_1,hcz17_2,hcz17_3,hcz17_4⟩:=cC5 BK211.out;obtain⟨hfz17_0,hfz17_1,hfz17_2,hfz17_3,hfz17_4⟩:=cF5 BK211.out))
      go_ret
      exact⟨bE,bS2 GE210.out GE211.out⟩
    ·rw[if_neg c6] at H
     have c6b0:(a0_3 == a1_3)=false:=beq_eq_false_iff_ne.mpr c6
     have c6b1:(a0_3 != a1_3)=true:=bne_iff_ne.mpr c6
     obtain rfl:=Option.some.inj H
     go_enter Try.func95,Try.ntmps95
     go_wp2_with (first|((with_reducible refine gate_dst (N:=2) rfl ?_);refine box_event ?hg (N:=2) ?hd (cs:=#[.int .i64 a0_0,.int .i64 a0_1,.int .i64 a0_2,.int .i64 a0_3,.int .i64 a0_4]) (t:=104) ?hr ?_;(case hd=>rfl);(case hg=>rfl);(case hr=>first|(go_simp;done)|(go_simp;rfl));intro gb210 hg w18 hbox hb;have n0_:=Aside0.mk (below_step (bB) hb);have n1_:=Aside0.mk (hbox);have n2_:=Aside0.mk ((bG:w.heap.size≤gb210));have n3_:=Aside0.mk ((bG:w.heap.size≤gb210));clear HB;have HB:=n0_;have BK210:=n1_;have GW210:=n2_;have GE210:=n3_;clear n0_ n1_ n2_ n3_;clear hb hbox hg)|((with_reducible refine gate_dst (N:=3) rfl ?_);refine box_event ?hg (N:=3) ?hd (cs:=#[.int .i64 a1_0,.int .i64 a1_1,.int .i64 a1_2,.int .i64 a1_3,.int .i64 a1_4]) (t:=104) ?hr ?_;(case hd=>rfl);(case hg=>rfl);(case hr=>first|(go_simp;done)|(go_simp;rfl));intro gb211 hg w19 hbox hb;have n0_:=Aside0.mk (bM BK210.out hb);have n1_:=Aside0.mk (below_step (bS GE210.out) hb);have n2_:=Aside0.mk (hbox);have n3_:=Aside0.mk ((by rw[hg];exact(below_size (bS GE210.out)):w.heap.size≤gb211));have n4_:=Aside0.mk ((by rw[hg];exact(below_size (bS GE210.out)):w.heap.size≤gb211));have n5_:=Aside0.mk ((bN BK210.out hg:gb210≠gb211));have n6_:=Aside0.mk ((bO BK210.out hg:gb211≠gb210));clear BK210 HB;have BK210:=n0_;have HB:=n1_;have BK211:=n2_;have GW211:=n3_;have GE211:=n4_;have NB210_211:=n5_;have NB211_210:=n6_;clear n0_ n1_ n2_ n3_ n4_ n5_ n6_;clear hb hbox hg;have hnb20:=NB210_211.out;have hnc20:=NB211_210.out;obtain⟨hcz21_0,hcz21_1,hcz21_2,hcz21_3,hcz21_4⟩:=cC5 BK210.out;obtain⟨hfz21_0,hfz21_1,hfz21_2,hfz21_3,hfz21_4⟩:=cF5 BK210.out;obtain⟨hcz22_0,hcz22_1,hcz22_2,hcz22_3,hcz22_4⟩:=cC5 BK211.out;obtain⟨hfz22_0,hfz22_1,hfz22_2,hfz22_3,hfz22_4⟩:=cF5 BK211.out))
     go_ret
     exact⟨bE,bS2 GE210.out GE211.out⟩
   ·rw[if_neg c5] at H
    have c5b0:(a0_2 == a1_2)=false:=beq_eq_false_iff_ne.mpr c5
    have c5b1:(a0_2 != a1_2)=true:=bne_iff_ne.mpr c5
    obtain rfl:=Option.some.inj H
    go_enter Try.func95,Try.ntmps95
    go_wp2_with (first|((with_reducible refine gate_dst (N:=2) rfl ?_);refine box_event ?hg (N:=2) ?hd (cs:=#[.int .i64 a0_0,.int .i64 a0_1,.int .i64 a0_2,.int .i64 a0_3,.int .i64 a0_4]) (t:=104) ?hr ?_;(case hd=>rfl);(case hg=>rfl);(case hr=>first|(go_simp;done)|(go_simp;rfl));intro gb210 hg w23 hbox hb;have n0_:=Aside0.mk (below_step (bB) hb);have n1_:=Aside0.mk (hbox);have n2_:=Aside0.mk ((bG:w.heap.size≤gb210));have n3_:=Aside0.mk ((bG:w.heap.size≤gb210));clear HB;have HB:=n0_;have BK210:=n1_;have GW210:=n2_;have GE210:=n3_;clear n0_ n1_ n2_ n3_;clear hb hbox hg)|((with_reducible refine gate_dst (N:=3) rfl ?_);refine box_event ?hg (N:=3) ?hd (cs:=#[.int .i64 a1_0,.int .i64 a1_1,.int .i64 a1_2,.int .i64 a1_3,.int .i64 a1_4]) (t:=104) ?hr ?_;(case hd=>rfl);(case hg=>rfl);(case hr=>first|(go_simp;done)|(go_simp;rfl));intro gb211 hg w24 hbox hb;have n0_:=Aside0.mk (bM BK210.out hb);have n1_:=Aside0.mk (below_step (bS GE210.out) hb);have n2_:=Aside0.mk (hbox);have n3_:=Aside0.mk ((by rw[hg];exact(below_size (bS GE210.out)):w.heap.size≤gb211));have n4_:=Aside0.mk ((by rw[hg];exact(below_size (bS GE210.out)):w.heap.size≤gb211));have n5_:=Aside0.mk ((bN BK210.out hg:gb210≠gb211));have n6_:=Aside0.mk ((bO BK210.out hg:gb211≠gb210));clear BK210 HB;have BK210:=n0_;have HB:=n1_;have BK211:=n2_;have GW211:=n3_;have GE211:=n4_;have NB210_211:=n5_;have NB211_210:=n6_;clear n0_ n1_ n2_ n3_ n4_ n5_ n6_;clear hb hbox hg;have hnb25:=NB210_211.out;have hnc25:=NB211_210.out;obtain⟨hcz26_0,hcz26_1,hcz26_2,hcz26_3,hcz26_4⟩:=cC5 BK210.out;obtain⟨hfz26_0,hfz26_1,hfz26_2,hfz26_3,hfz26_4⟩:=cF5 BK210.out;obtain⟨hcz27_0,hcz27_1,hcz27_2,hcz27_3,hcz27_4⟩:=cC5 BK211.out;obtain⟨hfz27_0,hfz27_1,hfz27_2,hfz27_3,hfz27_4⟩:=cF5 BK211.out))
    go_ret
    exact⟨bE,bS2 GE210.out GE211.out⟩
  ·rw[if_neg c4] at H
   have c4b0:(a0_1 == a1_1)=false:=beq_eq_false_iff_ne.mpr c4
   have c4b1:(a0_1 != a1_1)=true:=bne_iff_ne.mpr c4
   obtain rfl:=Option.some.inj H
   go_enter Try.func95,Try.ntmps95
   go_wp2_with (first|((with_reducible refine gate_dst (N:=2) rfl ?_);refine box_event ?hg (N:=2) ?hd (cs:=#[.int .i64 a0_0,.int .i64 a0_1,.int .i64 a0_2,.int .i64 a0_3,.int .i64 a0_4]) (t:=104) ?hr ?_;(case hd=>rfl);(case hg=>rfl);(case hr=>first|(go_simp;done)|(go_simp;rfl));intro gb210 hg w28 hbox hb;have n0_:=Aside0.mk (below_step (bB) hb);have n1_:=Aside0.mk (hbox);have n2_:=Aside0.mk ((bG:w.heap.size≤gb210));have n3_:=Aside0.mk ((bG:w.heap.size≤gb210));clear HB;have HB:=n0_;have BK210:=n1_;have GW210:=n2_;have GE210:=n3_;clear n0_ n1_ n2_ n3_;clear hb hbox hg)|((with_reducible refine gate_dst (N:=3) rfl ?_);refine box_event ?hg (N:=3) ?hd (cs:=#[.int .i64 a1_0,.int .i64 a1_1,.int .i64 a1_2,.int .i64 a1_3,.int .i64 a1_4]) (t:=104) ?hr ?_;(case hd=>rfl);(case hg=>rfl);(case hr=>first|(go_simp;done)|(go_simp;rfl));intro gb211 hg w29 hbox hb;have n0_:=Aside0.mk (bM BK210.out hb);have n1_:=Aside0.mk (below_step (bS GE210.out) hb);have n2_:=Aside0.mk (hbox);have n3_:=Aside0.mk ((by rw[hg];exact(below_size (bS GE210.out)):w.heap.size≤gb211));have n4_:=Aside0.mk ((by rw[hg];exact(below_size (bS GE210.out)):w.heap.size≤gb211));have n5_:=Aside0.mk ((bN BK210.out hg:gb210≠gb211));have n6_:=Aside0.mk ((bO BK210.out hg:gb211≠gb210));clear BK210 HB;have BK210:=n0_;have HB:=n1_;have BK211:=n2_;have GW211:=n3_;have GE211:=n4_;have NB210_211:=n5_;have NB211_210:=n6_;clear n0_ n1_ n2_ n3_ n4_ n5_ n6_;clear hb hbox hg;have hnb30:=NB210_211.out;have hnc30:=NB211_210.out;obtain⟨hcz31_0,hcz31_1,hcz31_2,hcz31_3,hcz31_4⟩:=cC5 BK210.out;obtain⟨hfz31_0,hfz31_1,hfz31_2,hfz31_3,hfz31_4⟩:=cF5 BK210.out;obtain⟨hcz32_0,hcz32_1,hcz32_2,hcz32_3,hcz32_4⟩:=cC5 BK211.out;obtain⟨hfz32_0,hfz32_1,hfz32_2,hfz32_3,hfz32_4⟩:=cF5 BK211.out))
   go_ret
   exact⟨bE,bS2 GE210.out GE211.out⟩
 ·rw[if_neg c3] at H
  have c3b0:(a0_0 == a1_0)=false:=beq_eq_false_iff_ne.mpr c3
  have c3b1:(a0_0 != a1_0)=true:=bne_iff_ne.mpr c3
  obtain rfl:=Option.some.inj H
  go_enter Try.func95,Try.ntmps95
  go_wp2_with (first|((with_reducible refine gate_dst (N:=2) rfl ?_);refine box_event ?hg (N:=2) ?hd (cs:=#[.int .i64 a0_0,.int .i64 a0_1,.int .i64 a0_2,.int .i64 a0_3,.int .i64 a0_4]) (t:=104) ?hr ?_;(case hd=>rfl);(case hg=>rfl);(case hr=>first|(go_simp;done)|(go_simp;rfl));intro gb210 hg w33 hbox hb;have n0_:=Aside0.mk (below_step (bB) hb);have n1_:=Aside0.mk (hbox);have n2_:=Aside0.mk ((bG:w.heap.size≤gb210));have n3_:=Aside0.mk ((bG:w.heap.size≤gb210));clear HB;have HB:=n0_;have BK210:=n1_;have GW210:=n2_;have GE210:=n3_;clear n0_ n1_ n2_ n3_;clear hb hbox hg)|((with_reducible refine gate_dst (N:=3) rfl ?_);refine box_event ?hg (N:=3) ?hd (cs:=#[.int .i64 a1_0,.int .i64 a1_1,.int .i64 a1_2,.int .i64 a1_3,.int .i64 a1_4]) (t:=104) ?hr ?_;(case hd=>rfl);(case hg=>rfl);(case hr=>first|(go_simp;done)|(go_simp;rfl));intro gb211 hg w34 hbox hb;have n0_:=Aside0.mk (bM BK210.out hb);have n1_:=Aside0.mk (below_step (bS GE210.out) hb);have n2_:=Aside0.mk (hbox);have n3_:=Aside0.mk ((by rw[hg];exact(below_size (bS GE210.out)):w.heap.size≤gb211));have n4_:=Aside0.mk ((by rw[hg];exact(below_size (bS GE210.out)):w.heap.size≤gb211));have n5_:=Aside0.mk ((bN BK210.out hg:gb210≠gb211));have n6_:=Aside0.mk ((bO BK210.out hg:gb211≠gb210));clear BK210 HB;have BK210:=n0_;have HB:=n1_;have BK211:=n2_;have GW211:=n3_;have GE211:=n4_;have NB210_211:=n5_;have NB211_210:=n6_;clear n0_ n1_ n2_ n3_ n4_ n5_ n6_;clear hb hbox hg;have hnb35:=NB210_211.out;have hnc35:=NB211_210.out;obtain⟨hcz36_0,hcz36_1,hcz36_2,hcz36_3,hcz36_4⟩:=cC5 BK210.out;obtain⟨hfz36_0,hfz36_1,hfz36_2,hfz36_3,hfz36_4⟩:=cF5 BK210.out;obtain⟨hcz37_0,hcz37_1,hcz37_2,hcz37_3,hcz37_4⟩:=cC5 BK211.out;obtain⟨hfz37_0,hfz37_1,hfz37_2,hfz37_3,hfz37_4⟩:=cF5 BK211.out))
  go_ret
  exact⟨bE,bS2 GE210.out GE211.out⟩

/-! ### laws_eqContactS: function 27 -/
def laws_eqContactS.l0:Nat→List (S104)→List (S104)→Int→Option (Bool)
 | 0,_,_,_=>none
 | k+1,x0,x1,x5=>if x5 < (x0.length:Int) then (if 0≤x5 then (if x5 < (x1.length:Int) then ((laws_eqContact.f ((rd_T104 x0 x5).f0) ((rd_T104 x0 x5).f1) ((rd_T104 x0 x5).f2) ((rd_T104 x0 x5).f3) ((rd_T104 x0 x5).f4) ((rd_T104 x1 x5).f0) ((rd_T104 x1 x5).f1) ((rd_T104 x1 x5).f2) ((rd_T104 x1 x5).f3) ((rd_T104 x1 x5).f4)).bind fun t214=>(if t214=true then (laws_eqContactS.l0 k x0 x1 (wrap64 (x5+1))) else (some false))) else (none)) else (none)) else (some true)
def laws_eqContactS.f (k:Nat) (l0:List (S104)) (l1:List (S104)):Option (Bool):=if (l0.length:Int)=(l1.length:Int) then (laws_eqContactS.l0 k l0 l1 0) else (some false)
theorem laws_eqContactS.mono_l : ∀ k,(∀ y0 y1 y2,LeO (laws_eqContactS.l0 k y0 y1 y2) (laws_eqContactS.l0 (k+1) y0 y1 y2))
 | 0=>fun _ _ _ r h=>by simp[laws_eqContactS.l0] at h
 | k+1=>by
  have ih0:=laws_eqContactS.mono_l k
  ·intro y0 y1 y2
   unfold laws_eqContactS.l0
   repeat' first
   | (with_reducible exact ih0 _ _ _)
   | (with_reducible exact LeO.refl _)
   | (with_reducible exact LeO.none _)
   | (with_reducible refine LeO.ite ?_ ?_)
   | (with_reducible refine LeO.bind ?_ (fun _ => ?_))
   | exact ih0 _ _ _
   | exact LeO.none _
   | refine LeO.ite ?_ ?_
   | refine LeO.bind ?_ (fun _ => ?_)
theorem laws_eqContactS.mono : ∀ a0 a1 k,LeO (laws_eqContactS.f k a0 a1) (laws_eqContactS.f (k+1) a0 a1):=by
 intro a0 a1 k
 have ih0:=laws_eqContactS.mono_l k
 unfold laws_eqContactS.f
 repeat' first
  | (with_reducible exact ih0 _ _ _)
  | (with_reducible exact LeO.refl _)
  | (with_reducible exact LeO.none _)
  | (with_reducible refine LeO.ite ?_ ?_)
  | (with_reducible refine LeO.bind ?_ (fun _ => ?_))
  | exact ih0 _ _ _
  | exact LeO.none _
  | refine LeO.ite ?_ ?_
  | refine LeO.bind ?_ (fun _ => ?_)
def laws_eqContactS.T6:Bool × List (List Nat × List Nat):=(true,[([],[]),([],[]),([0,1],[0,1]),([2],[2]),([],[]),([],[]),([4,5],[4,5]),([6],[6]),([3,7],[3,7]),([8],[8])])
def laws_eqContactS.B6:List Nat:=[0,0,3,7,0,0,48,112,255,511]
theorem laws_eqContactS.tab6:rtab .any (opsOf Try.f27 6)=laws_eqContactS.T6:=by kernel_rfl
theorem laws_eqContactS.bits6:waitsOk laws_eqContactS.T6.2 laws_eqContactS.B6=true:=by kernel_rfl
set_option maxHeartbeats 8000000 in
set_option maxRecDepth 100000 in
theorem laws_eqContactS.calls (k:Nat) (A0:Option Addr) (c0:Nat) (l0:List (S104)) (A1:Option Addr) (c1:Nat) (l1:List (S104)) (r:Bool) (w:World) (hr0:Kd.C k104 w A0 l0.length l0) (hc0:l0.length≤c0) (hr1:Kd.C k104 w A1 l1.length l1) (hc1:l1.length≤c1) (h:laws_eqContactS.f k l0 l1=some r) :
  Calls Try.prog 27 #[.slice A0 l0.length c0,.slice A1 l1.length c1] w fun e w'=>e=.returned (.bool r)∧Below w.heap.size w w':=by
 have hu104:=Try.underlying104
 have HR0:=Aside0.mk hr0
 have HC0:=Aside0.mk hc0
 clear hr0 hc0
 have HR1:=Aside0.mk hr1
 have HC1:=Aside0.mk hc1
 clear hr1 hc1
 have HB:=Aside0.mk (Below.refl w.heap.size w)
 have H:(if (l0.length:Int)=(l1.length:Int) then (laws_eqContactS.l0 k l0 l1 0) else (some false))=some r:=h
 clear h
 by_cases c3:(l0.length:Int)=(l1.length:Int)
 ·rw[if_pos c3] at H
  have c3b0:((l0.length:Int) == (l1.length:Int))=true:=beq_iff_eq.mpr c3
  have c3b1:((l0.length:Int) != (l1.length:Int))=false:=bne_eq_false_iff_eq.mpr c3
  have c3b2:(l0.length == l1.length)=true:=by first|simpa using c3|(simp at c3 ⊢;omega)
  clear c3
  have H':=Aside0.mk H
  clear H
  go_enter Try.func27,Try.ntmps27
  go_wp2
  go_loopg [5] k (fun kq v5 w' => ∃ (x5_1:Int),v5=.int .i64 x5_1∧Aside0 (laws_eqContactS.l0 kq l0 l1 x5_1=some r)∧Aside0 (kq≤k)∧Aside0 (Below w.heap.size w w'))
  case atStart=>exact⟨(0),(bR),H',⟨Nat.le_refl _⟩,⟨by repeat (first|(with_reducible first|exact HB.out|apply below_alloc|apply pw_below_drewN|apply below_drew1)|exact HB.out)⟩⟩
  case round =>
   clear H'
   try clear c1
   try clear c2
   try clear p2
   try clear c3
   try clear c3b0
   try clear c3b1
   try clear c3b2
   obtain⟨x5_1,rfl,HA,HK1,HB⟩:=hrel
   cases gk with
   | zero=>exact absurd HA.out (by simp[laws_eqContactS.l0])
   | succ k1 =>
    have H:=HA.out
    clear HA
    simp only[laws_eqContactS.l0] at H
    by_cases c4:x5_1 < (l0.length:Int)
    ·rw[if_pos c4] at H
     have c4b0:decide (x5_1 < (l0.length:Int))=true:=decide_eq_true c4
     clear c4
     by_cases c5:0≤x5_1
     ·rw[if_pos c5] at H
      have c5b0:decide (0≤x5_1)=true:=decide_eq_true c5
      clear c5
      by_cases c6:x5_1 < (l1.length:Int)
      ·rw[if_pos c6] at H
       have c6b0:decide (x5_1 < (l1.length:Int))=true:=decide_eq_true c6
       clear c6
       replace H:=Option.bind_eq_some_iff.mp H
       obtain⟨t214,A70,H⟩:=H
       have A7:=Aside0.mk A70
       clear A70
       by_cases c8:t214=true
       ·subst c8
        have H1:(laws_eqContactS.l0 k1 l0 l1 (wrap64 (x5_1+1)))=some r:=by rw[if_pos rfl] at H;exact H
        clear H
        have H:=H1
        clear H1
        have H':=Aside0.mk H
        clear H
        try go_wp2
        (try (rw[drewN_self wr];generalize hq_:World.drewN wr _=wr;have n0_:=Aside0.mk (below_at hq_ HB.out);clear hq_ HB;have HB:=n0_;clear n0_))
        have n0_:=Aside0.mk (below_drew1 HB.out)
        clear HB
        have HB:=n0_
        clear n0_
        have p212:0≤(x5_1:Int):=of_decide_eq_true (bD)
        have q212:x5_1 < (l0.length:Int):=of_decide_eq_true (bD)
        obtain⟨ad212,e212,hx212_0,hx212_1,hx212_2,hx212_3,hx212_4⟩:=at_T104 HR0.out x5_1 p212 q212
        have hw212_4:=hx212_4
        have hw212_3:=hx212_3
        have hw212_2:=hx212_2
        have hw212_1:=hx212_1
        have hw212_0:=hx212_0
        cases e212
        replace hx212_0:=(HB.out.cell (World.block_lt_of_cell? w _ hx212_0)).trans hx212_0
        replace hx212_1:=(HB.out.cell (World.block_lt_of_cell? w _ hx212_1)).trans hx212_1
        replace hx212_2:=(HB.out.cell (World.block_lt_of_cell? w _ hx212_2)).trans hx212_2
        replace hx212_3:=(HB.out.cell (World.block_lt_of_cell? w _ hx212_3)).trans hx212_3
        replace hx212_4:=(HB.out.cell (World.block_lt_of_cell? w _ hx212_4)).trans hx212_4
        replace p212:=eq_true p212
        replace q212:=eq_true q212
        have p213:0≤(x5_1:Int):=of_decide_eq_true (bD)
        have q213:x5_1 < (l1.length:Int):=of_decide_eq_true (bD)
        obtain⟨ad213,e213,hx213_0,hx213_1,hx213_2,hx213_3,hx213_4⟩:=at_T104 HR1.out x5_1 p213 q213
        have hw213_4:=hx213_4
        have hw213_3:=hx213_3
        have hw213_2:=hx213_2
        have hw213_1:=hx213_1
        have hw213_0:=hx213_0
        cases e213
        replace hx213_0:=(HB.out.cell (World.block_lt_of_cell? w _ hx213_0)).trans hx213_0
        replace hx213_1:=(HB.out.cell (World.block_lt_of_cell? w _ hx213_1)).trans hx213_1
        replace hx213_2:=(HB.out.cell (World.block_lt_of_cell? w _ hx213_2)).trans hx213_2
        replace hx213_3:=(HB.out.cell (World.block_lt_of_cell? w _ hx213_3)).trans hx213_3
        replace hx213_4:=(HB.out.cell (World.block_lt_of_cell? w _ hx213_4)).trans hx213_4
        replace p213:=eq_true p213
        replace q213:=eq_true q213
        refine start_ (n:=10) (S:=fun w'=>w'.cell? (ad212.add ((x5_1).toNat * 5))=some (.int .i64 ((rd_T104 l0 x5_1).f0))∧w'.cell? ⟨(ad212.add ((x5_1).toNat * 5)).block,(ad212.add ((x5_1).toNat * 5)).off+1,none⟩=some (.int .i64 ((rd_T104 l0 x5_1).f1))∧w'.cell? ⟨(ad212.add ((x5_1).toNat * 5)).block,(ad212.add ((x5_1).toNat * 5)).off+2,none⟩=some (.int .i64 ((rd_T104 l0 x5_1).f2))∧w'.cell? ⟨(ad212.add ((x5_1).toNat * 5)).block,(ad212.add ((x5_1).toNat * 5)).off+3,none⟩=some (.int .i64 ((rd_T104 l0 x5_1).f3))∧w'.cell? ⟨(ad212.add ((x5_1).toNat * 5)).block,(ad212.add ((x5_1).toNat * 5)).off+4,none⟩=some (.int .i64 ((rd_T104 l0 x5_1).f4))∧w'.cell? (ad213.add ((x5_1).toNat * 5))=some (.int .i64 ((rd_T104 l1 x5_1).f0))∧w'.cell? ⟨(ad213.add ((x5_1).toNat * 5)).block,(ad213.add ((x5_1).toNat * 5)).off+1,none⟩=some (.int .i64 ((rd_T104 l1 x5_1).f1))∧w'.cell? ⟨(ad213.add ((x5_1).toNat * 5)).block,(ad213.add ((x5_1).toNat * 5)).off+2,none⟩=some (.int .i64 ((rd_T104 l1 x5_1).f2))∧w'.cell? ⟨(ad213.add ((x5_1).toNat * 5)).block,(ad213.add ((x5_1).toNat * 5)).off+3,none⟩=some (.int .i64 ((rd_T104 l1 x5_1).f3))∧w'.cell? ⟨(ad213.add ((x5_1).toNat * 5)).block,(ad213.add ((x5_1).toNat * 5)).off+4,none⟩=some (.int .i64 ((rd_T104 l1 x5_1).f4))) (ds:=[]) #[false,false,false,false,false,false,false,false,false,false] (b0_) rfl rfl ⟨((HB.out.cell (World.block_lt_of_cell? w _ hw212_0)).trans hw212_0),((HB.out.cell (World.block_lt_of_cell? w _ hw212_1)).trans hw212_1),((HB.out.cell (World.block_lt_of_cell? w _ hw212_2)).trans hw212_2),((HB.out.cell (World.block_lt_of_cell? w _ hw212_3)).trans hw212_3),((HB.out.cell (World.block_lt_of_cell? w _ hw212_4)).trans hw212_4),((HB.out.cell (World.block_lt_of_cell? w _ hw213_0)).trans hw213_0),((HB.out.cell (World.block_lt_of_cell? w _ hw213_1)).trans hw213_1),((HB.out.cell (World.block_lt_of_cell? w _ hw213_2)).trans hw213_2),((HB.out.cell (World.block_lt_of_cell? w _ hw213_3)).trans hw213_3),((HB.out.cell (World.block_lt_of_cell? w _ hw213_4)).trans hw213_4)⟩ (fun hHeld => ?_);refine with_tabW laws_eqContactS.tab6 laws_eqContactS.bits6 (fun HT_ HW_ => ?_)
        generalize wr.drew=w9 at HB hx212_0 hx212_1 hx212_2 hx212_3 hx212_4 hx213_0 hx213_1 hx213_2 hx213_3 hx213_4 hHeld ⊢
        refine pure_ (i:=0) (N:=some 17) (v:=?_) (a':=?_) #[true,false,false,false,false,false,false,false,false,false] rfl rfl (any_of HT_.out (b0_)) (fun _ _ _ h=>h) (Or.inl ⟨by rfl,?_⟩) ?_ ?_
        rotate_left
        ·intro w'
         go_simp
         with_reducible rfl
        rotate_left
        ·simp only[Act.put,List.setIfInBounds_toArray,List.set_cons_zero,List.set_cons_succ,i64_w,i32_w]
         rfl
        refine pure_ (i:=1) (N:=some 18) (v:=?_) (a':=?_) #[true,true,false,false,false,false,false,false,false,false] rfl rfl (any_of HT_.out (b0_)) (fun _ _ _ h=>h) (Or.inl ⟨by rfl,?_⟩) ?_ ?_
        rotate_left
        ·intro w'
         go_simp
         with_reducible rfl
        rotate_left
        ·simp only[Act.put,List.setIfInBounds_toArray,List.set_cons_zero,List.set_cons_succ,i64_w,i32_w]
         rfl
        refine pure_ (i:=2) (N:=some 19) (v:=?_) (a':=?_) #[true,true,true,false,false,false,false,false,false,false] rfl rfl (any_of HT_.out (b0_)) (fun _ _ _ h=>h) (Or.inl ⟨by rfl,?_⟩) ?_ ?_
        rotate_left
        ·intro w'
         go_simp
         with_reducible rfl
        rotate_left
        ·simp only[Act.put,List.setIfInBounds_toArray,List.set_cons_zero,List.set_cons_succ,i64_w,i32_w]
         rfl
        refine pure_ (i:=4) (N:=some 21) (v:=?_) (a':=?_) #[true,true,true,false,true,false,false,false,false,false] rfl rfl (any_of HT_.out (b0_)) (fun _ _ _ h=>h) (Or.inl ⟨by rfl,?_⟩) ?_ ?_
        rotate_left
        ·intro w'
         go_simp
         with_reducible rfl
        rotate_left
        ·simp only[Act.put,List.setIfInBounds_toArray,List.set_cons_zero,List.set_cons_succ,i64_w,i32_w]
         rfl
        refine pure_ (i:=5) (N:=some 22) (v:=?_) (a':=?_) #[true,true,true,false,true,true,false,false,false,false] rfl rfl (any_of HT_.out (b0_)) (fun _ _ _ h=>h) (Or.inl ⟨by rfl,?_⟩) ?_ ?_
        rotate_left
        ·intro w'
         go_simp
         with_reducible rfl
        rotate_left
        ·simp only[Act.put,List.setIfInBounds_toArray,List.set_cons_zero,List.set_cons_succ,i64_w,i32_w]
         rfl
        refine pure_ (i:=6) (N:=some 23) (v:=?_) (a':=?_) #[true,true,true,false,true,true,true,false,false,false] rfl rfl (any_of HT_.out (b0_)) (fun _ _ _ h=>h) (Or.inl ⟨by rfl,?_⟩) ?_ ?_
        rotate_left
        ·intro w'
         go_simp
         with_reducible rfl
        rotate_left
        ·simp only[Act.put,List.setIfInBounds_toArray,List.set_cons_zero,List.set_cons_succ,i64_w,i32_w]
         rfl
        refine take_ (i:=3) (N:=some 20) (v:=?_) (a':=?_) #[true,true,true,true,true,true,true,false,false,false] rfl rfl (take_ofW HT_.out HW_.out (b0_)) (fun _ _ _ h=>h) (Or.inl ⟨by rfl,?_⟩) hHeld ?_ ?_
        rotate_left
        ·rintro w' ⟨s0,s1,s2,s3,s4,s5,s6,s7,s8,s9⟩
         go_simp
         with_reducible rfl
        rotate_left
        ·simp only[Act.put,List.setIfInBounds_toArray,List.set_cons_zero,List.set_cons_succ,i64_w,i32_w]
         rfl
        refine take_ (i:=7) (N:=some 24) (v:=?_) (a':=?_) #[true,true,true,true,true,true,true,true,false,false] rfl rfl (take_ofW HT_.out HW_.out (b0_)) (fun _ _ _ h=>h) (Or.inl ⟨by rfl,?_⟩) hHeld ?_ ?_
        rotate_left
        ·rintro w' ⟨s0,s1,s2,s3,s4,s5,s6,s7,s8,s9⟩
         go_simp
         with_reducible rfl
        rotate_left
        ·simp only[Act.put,List.setIfInBounds_toArray,List.set_cons_zero,List.set_cons_succ,i64_w,i32_w]
         rfl
        refine one_ (i:=8) (N:=some 25) #[true,true,true,true,true,true,true,true,true,false] rfl rfl (one_of HT_.out (b0_)) (b4_) (fun K hK => ?_)
        refine goes_ Try.func95 (b0_) rfl #[.agg #[.int .i64 ((rd_T104 l0 x5_1).f0),.int .i64 ((rd_T104 l0 x5_1).f1),.int .i64 ((rd_T104 l0 x5_1).f2),.int .i64 ((rd_T104 l0 x5_1).f3),.int .i64 ((rd_T104 l0 x5_1).f4)],.agg #[.int .i64 ((rd_T104 l1 x5_1).f0),.int .i64 ((rd_T104 l1 x5_1).f1),.int .i64 ((rd_T104 l1 x5_1).f2),.int .i64 ((rd_T104 l1 x5_1).f3),.int .i64 ((rd_T104 l1 x5_1).f4)]] (by rfl) rfl rfl (b1_) ?_
        with_reducible refine(laws_eqContact.calls ((rd_T104 l0 x5_1).f0) ((rd_T104 l0 x5_1).f1) ((rd_T104 l0 x5_1).f2) ((rd_T104 l0 x5_1).f3) ((rd_T104 l0 x5_1).f4) ((rd_T104 l1 x5_1).f0) ((rd_T104 l1 x5_1).f1) ((rd_T104 l1 x5_1).f2) ((rd_T104 l1 x5_1).f3) ((rd_T104 l1 x5_1).f4) true _ A7.out).mono ?_
        rintro e w10 ⟨rfl,hb⟩
        refine⟨_,rfl,?_⟩
        have n0_:=Aside0.mk (below_step (bB) hb)
        clear HB
        have HB:=n0_
        clear n0_
        (try clear hb)
        (try clear hb2)
        (try clear hk)
        (try clear hi)
        refine hK.out _ _ ⟨((HB.out.cell (World.block_lt_of_cell? w _ hw212_0)).trans hw212_0),((HB.out.cell (World.block_lt_of_cell? w _ hw212_1)).trans hw212_1),((HB.out.cell (World.block_lt_of_cell? w _ hw212_2)).trans hw212_2),((HB.out.cell (World.block_lt_of_cell? w _ hw212_3)).trans hw212_3),((HB.out.cell (World.block_lt_of_cell? w _ hw212_4)).trans hw212_4),((HB.out.cell (World.block_lt_of_cell? w _ hw213_0)).trans hw213_0),((HB.out.cell (World.block_lt_of_cell? w _ hw213_1)).trans hw213_1),((HB.out.cell (World.block_lt_of_cell? w _ hw213_2)).trans hw213_2),((HB.out.cell (World.block_lt_of_cell? w _ hw213_3)).trans hw213_3),((HB.out.cell (World.block_lt_of_cell? w _ hw213_4)).trans hw213_4)⟩ (fun hHeld => ?_)
        clear hK K
        refine norm_ (a':=?_) ?_ ?_
        rotate_left
        ·show Act.put _ (some 25) _=_
         simp only[Act.put,List.setIfInBounds_toArray,List.set_cons_zero,List.set_cons_succ,i64_w,i32_w]
         rfl
        refine pure_ (i:=9) (N:=some 26) (v:=?_) (a':=?_) #[true,true,true,true,true,true,true,true,true,true] rfl rfl (any_of HT_.out (b0_)) (fun _ _ _ h=>h) (Or.inl ⟨by rfl,?_⟩) ?_ ?_
        rotate_left
        ·intro w'
         go_simp
         with_reducible rfl
        rotate_left
        ·simp only[Act.put,List.setIfInBounds_toArray,List.set_cons_zero,List.set_cons_succ,i64_w,i32_w]
         rfl
        refine done_ (done_of HT_.out (b0_)) ?_
        try go_wp2
        go_roundg k1
        case measure=>have:=HK1.out;omega
        case rel=>exact⟨(wrap64 (x5_1+1)),(bR),H',⟨by have:=HK1.out;omega⟩,⟨by repeat (first|(with_reducible first|exact HB.out|apply below_alloc|apply pw_below_drewN|apply below_drew1)|exact HB.out)⟩⟩
       ·replace c8:=Bool.eq_false_iff.mpr c8
        subst c8
        have H1:(some false)=some r:=by rw[if_neg (show ¬ (false=true) by decide)] at H;exact H
        clear H
        have H:=H1
        clear H1
        obtain rfl:=Option.some.inj H
        try go_wp2
        (try (rw[drewN_self wr];generalize hq_:World.drewN wr _=wr;have n0_:=Aside0.mk (below_at hq_ HB.out);clear hq_ HB;have HB:=n0_;clear n0_))
        have n0_:=Aside0.mk (below_drew1 HB.out)
        clear HB
        have HB:=n0_
        clear n0_
        have p212:0≤(x5_1:Int):=of_decide_eq_true (bD)
        have q212:x5_1 < (l0.length:Int):=of_decide_eq_true (bD)
        obtain⟨ad212,e212,hx212_0,hx212_1,hx212_2,hx212_3,hx212_4⟩:=at_T104 HR0.out x5_1 p212 q212
        have hw212_4:=hx212_4
        have hw212_3:=hx212_3
        have hw212_2:=hx212_2
        have hw212_1:=hx212_1
        have hw212_0:=hx212_0
        cases e212
        replace hx212_0:=(HB.out.cell (World.block_lt_of_cell? w _ hx212_0)).trans hx212_0
        replace hx212_1:=(HB.out.cell (World.block_lt_of_cell? w _ hx212_1)).trans hx212_1
        replace hx212_2:=(HB.out.cell (World.block_lt_of_cell? w _ hx212_2)).trans hx212_2
        replace hx212_3:=(HB.out.cell (World.block_lt_of_cell? w _ hx212_3)).trans hx212_3
        replace hx212_4:=(HB.out.cell (World.block_lt_of_cell? w _ hx212_4)).trans hx212_4
        replace p212:=eq_true p212
        replace q212:=eq_true q212
        have p213:0≤(x5_1:Int):=of_decide_eq_true (bD)
        have q213:x5_1 < (l1.length:Int):=of_decide_eq_true (bD)
        obtain⟨ad213,e213,hx213_0,hx213_1,hx213_2,hx213_3,hx213_4⟩:=at_T104 HR1.out x5_1 p213 q213
        have hw213_4:=hx213_4
        have hw213_3:=hx213_3
        have hw213_2:=hx213_2
        have hw213_1:=hx213_1
        have hw213_0:=hx213_0
        cases e213
        replace hx213_0:=(HB.out.cell (World.block_lt_of_cell? w _ hx213_0)).trans hx213_0
        replace hx213_1:=(HB.out.cell (World.block_lt_of_cell? w _ hx213_1)).trans hx213_1
        replace hx213_2:=(HB.out.cell (World.block_lt_of_cell? w _ hx213_2)).trans hx213_2
        replace hx213_3:=(HB.out.cell (World.block_lt_of_cell? w _ hx213_3)).trans hx213_3
        replace hx213_4:=(HB.out.cell (World.block_lt_of_cell? w _ hx213_4)).trans hx213_4
        replace p213:=eq_true p213
        replace q213:=eq_true q213
        refine start_ (n:=10) (S:=fun w'=>w'.cell? (ad212.add ((x5_1).toNat * 5))=some (.int .i64 ((rd_T104 l0 x5_1).f0))∧w'.cell? ⟨(ad212.add ((x5_1).toNat * 5)).block,(ad212.add ((x5_1).toNat * 5)).off+1,none⟩=some (.int .i64 ((rd_T104 l0 x5_1).f1))∧w'.cell? ⟨(ad212.add ((x5_1).toNat * 5)).block,(ad212.add ((x5_1).toNat * 5)).off+2,none⟩=some (.int .i64 ((rd_T104 l0 x5_1).f2))∧w'.cell? ⟨(ad212.add ((x5_1).toNat * 5)).block,(ad212.add ((x5_1).toNat * 5)).off+3,none⟩=some (.int .i64 ((rd_T104 l0 x5_1).f3))∧w'.cell? ⟨(ad212.add ((x5_1).toNat * 5)).block,(ad212.add ((x5_1).toNat * 5)).off+4,none⟩=some (.int .i64 ((rd_T104 l0 x5_1).f4))∧w'.cell? (ad213.add ((x5_1).toNat * 5))=some (.int .i64 ((rd_T104 l1 x5_1).f0))∧w'.cell? ⟨(ad213.add ((x5_1).toNat * 5)).block,(ad213.add ((x5_1).toNat * 5)).off+1,none⟩=some (.int .i64 ((rd_T104 l1 x5_1).f1))∧w'.cell? ⟨(ad213.add ((x5_1).toNat * 5)).block,(ad213.add ((x5_1).toNat * 5)).off+2,none⟩=some (.int .i64 ((rd_T104 l1 x5_1).f2))∧w'.cell? ⟨(ad213.add ((x5_1).toNat * 5)).block,(ad213.add ((x5_1).toNat * 5)).off+3,none⟩=some (.int .i64 ((rd_T104 l1 x5_1).f3))∧w'.cell? ⟨(ad213.add ((x5_1).toNat * 5)).block,(ad213.add ((x5_1).toNat * 5)).off+4,none⟩=some (.int .i64 ((rd_T104 l1 x5_1).f4))) (ds:=[]) #[false,false,false,false,false,false,false,false,false,false] (b0_) rfl rfl ⟨((HB.out.cell (World.block_lt_of_cell? w _ hw212_0)).trans hw212_0),((HB.out.cell (World.block_lt_of_cell? w _ hw212_1)).trans hw212_1),((HB.out.cell (World.block_lt_of_cell? w _ hw212_2)).trans hw212_2),((HB.out.cell (World.block_lt_of_cell? w _ hw212_3)).trans hw212_3),((HB.out.cell (World.block_lt_of_cell? w _ hw212_4)).trans hw212_4),((HB.out.cell (World.block_lt_of_cell? w _ hw213_0)).trans hw213_0),((HB.out.cell (World.block_lt_of_cell? w _ hw213_1)).trans hw213_1),((HB.out.cell (World.block_lt_of_cell? w _ hw213_2)).trans hw213_2),((HB.out.cell (World.block_lt_of_cell? w _ hw213_3)).trans hw213_3),((HB.out.cell (World.block_lt_of_cell? w _ hw213_4)).trans hw213_4)⟩ (fun hHeld => ?_);refine with_tabW laws_eqContactS.tab6 laws_eqContactS.bits6 (fun HT_ HW_ => ?_)
        generalize wr.drew=w11 at HB hx212_0 hx212_1 hx212_2 hx212_3 hx212_4 hx213_0 hx213_1 hx213_2 hx213_3 hx213_4 hHeld ⊢
        refine pure_ (i:=0) (N:=some 17) (v:=?_) (a':=?_) #[true,false,false,false,false,false,false,false,false,false] rfl rfl (any_of HT_.out (b0_)) (fun _ _ _ h=>h) (Or.inl ⟨by rfl,?_⟩) ?_ ?_
        rotate_left
        ·intro w'
         go_simp
         with_reducible rfl
        rotate_left
        ·simp only[Act.put,List.setIfInBounds_toArray,List.set_cons_zero,List.set_cons_succ,i64_w,i32_w]
         rfl
        refine pure_ (i:=1) (N:=some 18) (v:=?_) (a':=?_) #[true,true,false,false,false,false,false,false,false,false] rfl rfl (any_of HT_.out (b0_)) (fun _ _ _ h=>h) (Or.inl ⟨by rfl,?_⟩) ?_ ?_
        rotate_left
        ·intro w'
         go_simp
         with_reducible rfl
        rotate_left
        ·simp only[Act.put,List.setIfInBounds_toArray,List.set_cons_zero,List.set_cons_succ,i64_w,i32_w]
         rfl
        refine pure_ (i:=2) (N:=some 19) (v:=?_) (a':=?_) #[true,true,true,false,false,false,false,false,false,false] rfl rfl (any_of HT_.out (b0_)) (fun _ _ _ h=>h) (Or.inl ⟨by rfl,?_⟩) ?_ ?_
        rotate_left
        ·intro w'
         go_simp
         with_reducible rfl
        rotate_left
        ·simp only[Act.put,List.setIfInBounds_toArray,List.set_cons_zero,List.set_cons_succ,i64_w,i32_w]
         rfl
        refine pure_ (i:=4) (N:=some 21) (v:=?_) (a':=?_) #[true,true,true,false,true,false,false,false,false,false] rfl rfl (any_of HT_.out (b0_)) (fun _ _ _ h=>h) (Or.inl ⟨by rfl,?_⟩) ?_ ?_
        rotate_left
        ·intro w'
         go_simp
         with_reducible rfl
        rotate_left
        ·simp only[Act.put,List.setIfInBounds_toArray,List.set_cons_zero,List.set_cons_succ,i64_w,i32_w]
         rfl
        refine pure_ (i:=5) (N:=some 22) (v:=?_) (a':=?_) #[true,true,true,false,true,true,false,false,false,false] rfl rfl (any_of HT_.out (b0_)) (fun _ _ _ h=>h) (Or.inl ⟨by rfl,?_⟩) ?_ ?_
        rotate_left
        ·intro w'
         go_simp
         with_reducible rfl
        rotate_left
        ·simp only[Act.put,List.setIfInBounds_toArray,List.set_cons_zero,List.set_cons_succ,i64_w,i32_w]
         rfl
        refine pure_ (i:=6) (N:=some 23) (v:=?_) (a':=?_) #[true,true,true,false,true,true,true,false,false,false] rfl rfl (any_of HT_.out (b0_)) (fun _ _ _ h=>h) (Or.inl ⟨by rfl,?_⟩) ?_ ?_
        rotate_left
        ·intro w'
         go_simp
         with_reducible rfl
        rotate_left
        ·simp only[Act.put,List.setIfInBounds_toArray,List.set_cons_zero,List.set_cons_succ,i64_w,i32_w]
         rfl
        refine take_ (i:=3) (N:=some 20) (v:=?_) (a':=?_) #[true,true,true,true,true,true,true,false,false,false] rfl rfl (take_ofW HT_.out HW_.out (b0_)) (fun _ _ _ h=>h) (Or.inl ⟨by rfl,?_⟩) hHeld ?_ ?_
        rotate_left
        ·rintro w' ⟨s0,s1,s2,s3,s4,s5,s6,s7,s8,s9⟩
         go_simp
         with_reducible rfl
        rotate_left
        ·simp only[Act.put,List.setIfInBounds_toArray,List.set_cons_zero,List.set_cons_succ,i64_w,i32_w]
         rfl
        refine take_ (i:=7) (N:=some 24) (v:=?_) (a':=?_) #[true,true,true,true,true,true,true,true,false,false] rfl rfl (take_ofW HT_.out HW_.out (b0_)) (fun _ _ _ h=>h) (Or.inl ⟨by rfl,?_⟩) hHeld ?_ ?_
        rotate_left
        ·rintro w' ⟨s0,s1,s2,s3,s4,s5,s6,s7,s8,s9⟩
         go_simp
         with_reducible rfl
        rotate_left
        ·simp only[Act.put,List.setIfInBounds_toArray,List.set_cons_zero,List.set_cons_succ,i64_w,i32_w]
         rfl
        refine one_ (i:=8) (N:=some 25) #[true,true,true,true,true,true,true,true,true,false] rfl rfl (one_of HT_.out (b0_)) (b4_) (fun K hK => ?_)
        refine goes_ Try.func95 (b0_) rfl #[.agg #[.int .i64 ((rd_T104 l0 x5_1).f0),.int .i64 ((rd_T104 l0 x5_1).f1),.int .i64 ((rd_T104 l0 x5_1).f2),.int .i64 ((rd_T104 l0 x5_1).f3),.int .i64 ((rd_T104 l0 x5_1).f4)],.agg #[.int .i64 ((rd_T104 l1 x5_1).f0),.int .i64 ((rd_T104 l1 x5_1).f1),.int .i64 ((rd_T104 l1 x5_1).f2),.int .i64 ((rd_T104 l1 x5_1).f3),.int .i64 ((rd_T104 l1 x5_1).f4)]] (by rfl) rfl rfl (b1_) ?_
        with_reducible refine(laws_eqContact.calls ((rd_T104 l0 x5_1).f0) ((rd_T104 l0 x5_1).f1) ((rd_T104 l0 x5_1).f2) ((rd_T104 l0 x5_1).f3) ((rd_T104 l0 x5_1).f4) ((rd_T104 l1 x5_1).f0) ((rd_T104 l1 x5_1).f1) ((rd_T104 l1 x5_1).f2) ((rd_T104 l1 x5_1).f3) ((rd_T104 l1 x5_1).f4) false _ A7.out).mono ?_
        rintro e w12 ⟨rfl,hb⟩
        refine⟨_,rfl,?_⟩
        have n0_:=Aside0.mk (below_step (bB) hb)
        clear HB
        have HB:=n0_
        clear n0_
        (try clear hb)
        (try clear hb2)
        (try clear hk)
        (try clear hi)
        refine hK.out _ _ ⟨((HB.out.cell (World.block_lt_of_cell? w _ hw212_0)).trans hw212_0),((HB.out.cell (World.block_lt_of_cell? w _ hw212_1)).trans hw212_1),((HB.out.cell (World.block_lt_of_cell? w _ hw212_2)).trans hw212_2),((HB.out.cell (World.block_lt_of_cell? w _ hw212_3)).trans hw212_3),((HB.out.cell (World.block_lt_of_cell? w _ hw212_4)).trans hw212_4),((HB.out.cell (World.block_lt_of_cell? w _ hw213_0)).trans hw213_0),((HB.out.cell (World.block_lt_of_cell? w _ hw213_1)).trans hw213_1),((HB.out.cell (World.block_lt_of_cell? w _ hw213_2)).trans hw213_2),((HB.out.cell (World.block_lt_of_cell? w _ hw213_3)).trans hw213_3),((HB.out.cell (World.block_lt_of_cell? w _ hw213_4)).trans hw213_4)⟩ (fun hHeld => ?_)
        clear hK K
        refine norm_ (a':=?_) ?_ ?_
        rotate_left
        ·show Act.put _ (some 25) _=_
         simp only[Act.put,List.setIfInBounds_toArray,List.set_cons_zero,List.set_cons_succ,i64_w,i32_w]
         rfl
        refine pure_ (i:=9) (N:=some 26) (v:=?_) (a':=?_) #[true,true,true,true,true,true,true,true,true,true] rfl rfl (any_of HT_.out (b0_)) (fun _ _ _ h=>h) (Or.inl ⟨by rfl,?_⟩) ?_ ?_
        rotate_left
        ·intro w'
         go_simp
         with_reducible rfl
        rotate_left
        ·simp only[Act.put,List.setIfInBounds_toArray,List.set_cons_zero,List.set_cons_succ,i64_w,i32_w]
         rfl
        refine done_ (done_of HT_.out (b0_)) ?_
        try go_wp2
        go_ret
        exact⟨bE,bB⟩
      ·rw[if_neg c6] at H
       exact absurd H (by simp)
     ·rw[if_neg c5] at H
      exact absurd H (by simp)
    ·rw[if_neg c4] at H
     have c4b0:decide (x5_1 < (l0.length:Int))=false:=decide_eq_false c4
     clear c4
     obtain rfl:=Option.some.inj H
     go_wp2
     go_ret
     exact⟨bE,bB⟩
 ·rw[if_neg c3] at H
  have c3b0:((l0.length:Int) == (l1.length:Int))=false:=beq_eq_false_iff_ne.mpr c3
  have c3b1:((l0.length:Int) != (l1.length:Int))=true:=bne_iff_ne.mpr c3
  have c3b2:(l0.length == l1.length)=false:=by first|simpa using c3|(simp at c3 ⊢;omega)
  obtain rfl:=Option.some.inj H
  go_enter Try.func27,Try.ntmps27
  go_wp2
  go_ret
  exact⟨bE,bB⟩

/-! ### laws_markContactS: function 28 -/
def laws_markContactS.l0:Nat→List (S104)→Int→Int→Option (Int × (List (S104)))
 | 0,_,_,_=>none
 | k+1,x0,x1,x5=>if x5 < (x0.length:Int) then (if 0≤x5 then ((some (x0.set (x5:Int).toNat (⟨x1,(rd_T104 x0 x5).f1,(rd_T104 x0 x5).f2,(rd_T104 x0 x5).f3,(rd_T104 x0 x5).f4⟩:S104):List (S104))).bind fun y215=>((some (y215.set (x5:Int).toNat (⟨(rd_T104 y215 x5).f0,wrap64 (x1+1),(rd_T104 y215 x5).f2,(rd_T104 y215 x5).f3,(rd_T104 y215 x5).f4⟩:S104):List (S104))).bind fun y216=>((some (y216.set (x5:Int).toNat (⟨(rd_T104 y216 x5).f0,(rd_T104 y216 x5).f1,wrap64 ((wrap64 (x1+1))+1),(rd_T104 y216 x5).f3,(rd_T104 y216 x5).f4⟩:S104):List (S104))).bind fun y217=>((some (y217.set (x5:Int).toNat (⟨(rd_T104 y217 x5).f0,(rd_T104 y217 x5).f1,(rd_T104 y217 x5).f2,wrap64 ((wrap64 ((wrap64 (x1+1))+1))+1),(rd_T104 y217 x5).f4⟩:S104):List (S104))).bind fun y218=>(laws_markContactS.l0 k (y218.set (x5:Int).toNat (⟨(rd_T104 y218 x5).f0,(rd_T104 y218 x5).f1,(rd_T104 y218 x5).f2,(rd_T104 y218 x5).f3,wrap64 ((wrap64 ((wrap64 ((wrap64 (x1+1))+1))+1))+1)⟩:S104)) (wrap64 ((wrap64 ((wrap64 ((wrap64 ((wrap64 (x1+1))+1))+1))+1))+1)) (wrap64 (x5+1))))))) else (none)) else (some (x1,x0))
def laws_markContactS.f (k:Nat) (l0:List (S104)) (a1:Int):Option (Int × (List (S104))):=laws_markContactS.l0 k l0 a1 0
theorem laws_markContactS.mono_l : ∀ k,(∀ y0 y1 y2,LeO (laws_markContactS.l0 k y0 y1 y2) (laws_markContactS.l0 (k+1) y0 y1 y2))
 | 0=>fun _ _ _ r h=>by simp[laws_markContactS.l0] at h
 | k+1=>by
  have ih0:=laws_markContactS.mono_l k
  ·intro y0 y1 y2
   unfold laws_markContactS.l0
   repeat' first
   | (with_reducible exact ih0 _ _ _)
   | (with_reducible exact LeO.refl _)
   | (with_reducible exact LeO.none _)
   | (with_reducible refine LeO.ite ?_ ?_)
   | (with_reducible refine LeO.bind ?_ (fun _ => ?_))
   | exact ih0 _ _ _
   | exact LeO.none _
   | refine LeO.ite ?_ ?_
   | refine LeO.bind ?_ (fun _ => ?_)
theorem laws_markContactS.mono : ∀ a0 a1 k,LeO (laws_markContactS.f k a0 a1) (laws_markContactS.f (k+1) a0 a1):=by
 intro a0 a1 k
 have ih0:=laws_markContactS.mono_l k
 unfold laws_markContactS.f
 repeat' first
  | (with_reducible exact ih0 _ _ _)
  | (with_reducible exact LeO.refl _)
  | (with_reducible exact LeO.none _)
  | (with_reducible refine LeO.ite ?_ ?_)
  | (with_reducible refine LeO.bind ?_ (fun _ => ?_))
  | exact ih0 _ _ _
  | exact LeO.none _
  | refine LeO.ite ?_ ?_
  | refine LeO.bind ?_ (fun _ => ?_)
set_option maxHeartbeats 8000000 in
set_option maxRecDepth 100000 in
theorem laws_markContactS.calls (k:Nat) (P0_:Nat→Prop) (u9000_:Value) (l0:List (S104)) (a1:Int) (r1:Int) (r2:List (S104)) (w0 w:World) (hB:Below w0.heap.size w0 w) (ho0:Kd.R k104 104 w w0.heap.size P0_ u9000_ l0) (h:laws_markContactS.f k l0 a1=some (r1,r2)) :
  Calls Try.prog 28 #[u9000_,.int .i64 a1] w fun e w'=>e=.returned (.int .i64 r1)∧Kd.R k104 104 w' w0.heap.size (fun k_=>(P0_ k_∨w.heap.size≤k_)) u9000_ r2∧Below w0.heap.size w0 w'∧Kept w w' (fun k_=>P0_ k_):=by
 have HO0:=Aside0.mk (show Kd.R k104 104 w w0.heap.size (fun k_=>(P0_ k_∨w.heap.size≤k_)) u9000_ l0 from Kd.R_mono ho0 (fun k_ hk=>(.inl hk)))
 have HK:=Aside0.mk (Kept.refl w (fun k_=>P0_ k_))
 have HW0:=Aside0.mk hB.size
 have HB:=Aside0.mk hB
 clear hB
 have H:(laws_markContactS.l0 k l0 a1 0)=some (r1,r2):=h
 clear h
 have H':=Aside0.mk H
 clear H
 go_enter Try.func28,Try.ntmps28
 go_wp2
 go_loopg [1,5] k (fun kq v1 v5 w' => ∃ (x0_1:List (S104)) (x1_1:Int) (x5_1:Int),v1=.int .i64 x1_1∧v5=.int .i64 x5_1∧Aside0 (laws_markContactS.l0 kq x0_1 x1_1 x5_1=some (r1,r2))∧Aside0 (kq≤k)∧Aside0 (Kd.R k104 104 w' w0.heap.size (fun k_=>(P0_ k_∨w.heap.size≤k_)) u9000_ x0_1)∧Aside0 (Kept w w' (fun k_=>P0_ k_))∧Aside0 (Below w0.heap.size w0 w'))
 case atStart=>exact⟨(l0),(a1),(0),(bR),(bR),H',⟨Nat.le_refl _⟩,⟨by(with_reducible repeat (first|apply Kd.R_alloc|apply Kd.R_drewN|apply Kd.R_drew));exact HO0.out⟩,⟨by repeat (first|(with_reducible first|exact HK.out|apply Kept.alloc|apply Kept.drewN|apply Kept.drew)|exact HK.out)⟩,⟨by repeat (first|(with_reducible first|exact HB.out|apply below_alloc|apply pw_below_drewN|apply below_drew1)|exact HB.out)⟩⟩
 case round =>
  clear H'
  try clear c2
  try clear p2
  obtain⟨x0_1,x1_1,x5_1,rfl,rfl,HA,HK1,HO_0,HK,HB⟩:=hrel
  cases gk with
  | zero=>exact absurd HA.out (by simp[laws_markContactS.l0])
  | succ k1 =>
   have H:=HA.out
   clear HA
   simp only[laws_markContactS.l0] at H
   by_cases c3:x5_1 < (x0_1.length:Int)
   ·rw[if_pos c3] at H
    have c3b0:decide (x5_1 < (x0_1.length:Int))=true:=decide_eq_true c3
    clear c3
    by_cases c4:0≤x5_1
    ·rw[if_pos c4] at H
     have c4b0:decide (0≤x5_1)=true:=decide_eq_true c4
     clear c4
     obtain⟨y215,hy215⟩ : ∃ y_:List (S104),y_=(x0_1.set (x5_1:Int).toNat (⟨x1_1,(rd_T104 x0_1 x5_1).f1,(rd_T104 x0_1 x5_1).f2,(rd_T104 x0_1 x5_1).f3,(rd_T104 x0_1 x5_1).f4⟩:S104)):=⟨_,rfl⟩
     replace H:((some (y215.set (x5_1:Int).toNat (⟨(rd_T104 y215 x5_1).f0,wrap64 (x1_1+1),(rd_T104 y215 x5_1).f2,(rd_T104 y215 x5_1).f3,(rd_T104 y215 x5_1).f4⟩:S104):List (S104))).bind fun y216=>((some (y216.set (x5_1:Int).toNat (⟨(rd_T104 y216 x5_1).f0,(rd_T104 y216 x5_1).f1,wrap64 ((wrap64 (x1_1+1))+1),(rd_T104 y216 x5_1).f3,(rd_T104 y216 x5_1).f4⟩:S104):List (S104))).bind fun y217=>((some (y217.set (x5_1:Int).toNat (⟨(rd_T104 y217 x5_1).f0,(rd_T104 y217 x5_1).f1,(rd_T104 y217 x5_1).f2,wrap64 ((wrap64 ((wrap64 (x1_1+1))+1))+1),(rd_T104 y217 x5_1).f4⟩:S104):List (S104))).bind fun y218=>(laws_markContactS.l0 k1 (y218.set (x5_1:Int).toNat (⟨(rd_T104 y218 x5_1).f0,(rd_T104 y218 x5_1).f1,(rd_T104 y218 x5_1).f2,(rd_T104 y218 x5_1).f3,wrap64 ((wrap64 ((wrap64 ((wrap64 (x1_1+1))+1))+1))+1)⟩:S104)) (wrap64 ((wrap64 ((wrap64 ((wrap64 ((wrap64 (x1_1+1))+1))+1))+1))+1)) (wrap64 (x5_1+1))))))=some (r1,r2):=by first|(rw[hy215];with_reducible exact H)|(have H2_:=(Option.bind_some _ _).symm.trans H;rw[hy215];with_reducible exact H2_)|(have H2_:=(Option.bind_some _ _).symm.trans H;with_reducible exact H2_)|with_reducible exact H|(rw[hy215];exact H)|exact H
     have Ny215:=Aside0.mk hy215
     clear hy215
     obtain⟨y216,hy216⟩ : ∃ y_:List (S104),y_=(y215.set (x5_1:Int).toNat (⟨(rd_T104 y215 x5_1).f0,wrap64 (x1_1+1),(rd_T104 y215 x5_1).f2,(rd_T104 y215 x5_1).f3,(rd_T104 y215 x5_1).f4⟩:S104)):=⟨_,rfl⟩
     replace H:((some (y216.set (x5_1:Int).toNat (⟨(rd_T104 y216 x5_1).f0,(rd_T104 y216 x5_1).f1,wrap64 ((wrap64 (x1_1+1))+1),(rd_T104 y216 x5_1).f3,(rd_T104 y216 x5_1).f4⟩:S104):List (S104))).bind fun y217=>((some (y217.set (x5_1:Int).toNat (⟨(rd_T104 y217 x5_1).f0,(rd_T104 y217 x5_1).f1,(rd_T104 y217 x5_1).f2,wrap64 ((wrap64 ((wrap64 (x1_1+1))+1))+1),(rd_T104 y217 x5_1).f4⟩:S104):List (S104))).bind fun y218=>(laws_markContactS.l0 k1 (y218.set (x5_1:Int).toNat (⟨(rd_T104 y218 x5_1).f0,(rd_T104 y218 x5_1).f1,(rd_T104 y218 x5_1).f2,(rd_T104 y218 x5_1).f3,wrap64 ((wrap64 ((wrap64 ((wrap64 (x1_1+1))+1))+1))+1)⟩:S104)) (wrap64 ((wrap64 ((wrap64 ((wrap64 ((wrap64 (x1_1+1))+1))+1))+1))+1)) (wrap64 (x5_1+1)))))=some (r1,r2):=by first|(rw[hy216];with_reducible exact H)|(have H2_:=(Option.bind_some _ _).symm.trans H;rw[hy216];with_reducible exact H2_)|(have H2_:=(Option.bind_some _ _).symm.trans H;with_reducible exact H2_)|with_reducible exact H|(rw[hy216];exact H)|exact H
     have Ny216:=Aside0.mk hy216
     clear hy216
     obtain⟨y217,hy217⟩ : ∃ y_:List (S104),y_=(y216.set (x5_1:Int).toNat (⟨(rd_T104 y216 x5_1).f0,(rd_T104 y216 x5_1).f1,wrap64 ((wrap64 (x1_1+1))+1),(rd_T104 y216 x5_1).f3,(rd_T104 y216 x5_1).f4⟩:S104)):=⟨_,rfl⟩
     replace H:((some (y217.set (x5_1:Int).toNat (⟨(rd_T104 y217 x5_1).f0,(rd_T104 y217 x5_1).f1,(rd_T104 y217 x5_1).f2,wrap64 ((wrap64 ((wrap64 (x1_1+1))+1))+1),(rd_T104 y217 x5_1).f4⟩:S104):List (S104))).bind fun y218=>(laws_markContactS.l0 k1 (y218.set (x5_1:Int).toNat (⟨(rd_T104 y218 x5_1).f0,(rd_T104 y218 x5_1).f1,(rd_T104 y218 x5_1).f2,(rd_T104 y218 x5_1).f3,wrap64 ((wrap64 ((wrap64 ((wrap64 (x1_1+1))+1))+1))+1)⟩:S104)) (wrap64 ((wrap64 ((wrap64 ((wrap64 ((wrap64 (x1_1+1))+1))+1))+1))+1)) (wrap64 (x5_1+1))))=some (r1,r2):=by first|(rw[hy217];with_reducible exact H)|(have H2_:=(Option.bind_some _ _).symm.trans H;rw[hy217];with_reducible exact H2_)|(have H2_:=(Option.bind_some _ _).symm.trans H;with_reducible exact H2_)|with_reducible exact H|(rw[hy217];exact H)|exact H
     have Ny217:=Aside0.mk hy217
     clear hy217
     obtain⟨y218,hy218⟩ : ∃ y_:List (S104),y_=(y217.set (x5_1:Int).toNat (⟨(rd_T104 y217 x5_1).f0,(rd_T104 y217 x5_1).f1,(rd_T104 y217 x5_1).f2,wrap64 ((wrap64 ((wrap64 (x1_1+1))+1))+1),(rd_T104 y217 x5_1).f4⟩:S104)):=⟨_,rfl⟩
     replace H:(laws_markContactS.l0 k1 (y218.set (x5_1:Int).toNat (⟨(rd_T104 y218 x5_1).f0,(rd_T104 y218 x5_1).f1,(rd_T104 y218 x5_1).f2,(rd_T104 y218 x5_1).f3,wrap64 ((wrap64 ((wrap64 ((wrap64 (x1_1+1))+1))+1))+1)⟩:S104)) (wrap64 ((wrap64 ((wrap64 ((wrap64 ((wrap64 (x1_1+1))+1))+1))+1))+1)) (wrap64 (x5_1+1)))=some (r1,r2):=by first|(rw[hy218];with_reducible exact H)|(have H2_:=(Option.bind_some _ _).symm.trans H;rw[hy218];with_reducible exact H2_)|(have H2_:=(Option.bind_some _ _).symm.trans H;with_reducible exact H2_)|with_reducible exact H|(rw[hy218];exact H)|exact H
     have Ny218:=Aside0.mk hy218
     clear hy218
     obtain⟨y219,hy219⟩ : ∃ y_:List (S104),y_=(y218.set (x5_1:Int).toNat (⟨(rd_T104 y218 x5_1).f0,(rd_T104 y218 x5_1).f1,(rd_T104 y218 x5_1).f2,(rd_T104 y218 x5_1).f3,wrap64 ((wrap64 ((wrap64 ((wrap64 (x1_1+1))+1))+1))+1)⟩:S104)):=⟨_,rfl⟩
     replace H:(laws_markContactS.l0 k1 y219 (wrap64 ((wrap64 ((wrap64 ((wrap64 ((wrap64 (x1_1+1))+1))+1))+1))+1)) (wrap64 (x5_1+1)))=some (r1,r2):=by first|(rw[hy219];with_reducible exact H)|(have H2_:=(Option.bind_some _ _).symm.trans H;rw[hy219];with_reducible exact H2_)|(have H2_:=(Option.bind_some _ _).symm.trans H;with_reducible exact H2_)|with_reducible exact H|(rw[hy219];exact H)|exact H
     have Ny219:=Aside0.mk hy219
     clear hy219
     have H':=Aside0.mk H
     clear H
     obtain⟨Ao10,co10,eo10⟩:=Kd.R_slice HO_0.out
     subst eo10
     have p5:0≤(x5_1:Int):=of_decide_eq_true (bD)
     have q5:(x5_1:Int) < ((x0_1.length:Int):Int):=of_decide_eq_true (bD)
     obtain⟨go5,co5,eo5,gb5,gl5,cl5,HG5⟩:=Kd.R_form HO_0.out (by omega)
     (first|cases eo5|(injection eo5 with ea_ en_ ec_;(first|subst ea_|(injection ea_ with ea_;subst ea_));subst ec_;clear en_))
     have GB5:=Aside0.mk gb5
     have GG5:=Aside0.mk HG5
     clear gb5 gl5 HG5
     have HMgo5:=Aside0.mk (show(P0_ go5∨w.heap.size≤go5) from (HO_0.out.1 _ rfl))
     obtain⟨ce5,hcl5,hM5,hcc5,hfr5⟩:=Kd.R_elem HO_0.out z104 (x5_1:Int) p5 q5
     obtain rfl:=k104_openM hM5
     have hx5_0:wr.cell? ⟨go5,(x5_1:Int).toNat * 5,none⟩=some (.int .i64 ((rd_T104 x0_1 x5_1).f0)):=hcc5 0 _ rfl
     have hx5_1:wr.cell? ⟨go5,(x5_1:Int).toNat * 5+1,none⟩=some (.int .i64 ((rd_T104 x0_1 x5_1).f1)):=hcc5 1 _ rfl
     have hx5_2:wr.cell? ⟨go5,(x5_1:Int).toNat * 5+2,none⟩=some (.int .i64 ((rd_T104 x0_1 x5_1).f2)):=hcc5 2 _ rfl
     have hx5_3:wr.cell? ⟨go5,(x5_1:Int).toNat * 5+3,none⟩=some (.int .i64 ((rd_T104 x0_1 x5_1).f3)):=hcc5 3 _ rfl
     have hx5_4:wr.cell? ⟨go5,(x5_1:Int).toNat * 5+4,none⟩=some (.int .i64 ((rd_T104 x0_1 x5_1).f4)):=hcc5 4 _ rfl
     have hf5_0:wr.frozen? ⟨go5,(x5_1:Int).toNat * 5,none⟩=false:=hfr5 0
     have hf5_1:wr.frozen? ⟨go5,(x5_1:Int).toNat * 5+1,none⟩=false:=hfr5 1
     have hf5_2:wr.frozen? ⟨go5,(x5_1:Int).toNat * 5+2,none⟩=false:=hfr5 2
     have hf5_3:wr.frozen? ⟨go5,(x5_1:Int).toNat * 5+3,none⟩=false:=hfr5 3
     have hf5_4:wr.frozen? ⟨go5,(x5_1:Int).toNat * 5+4,none⟩=false:=hfr5 4
     clear hcl5 hcc5 hfr5 hM5
     replace p5:=eq_true p5
     replace q5:=eq_true q5
     have HX11:=Aside0.mk (show Kd.R k104 104 wr w0.heap.size (fun k_=>(P0_ k_∨w.heap.size≤k_)) (.slice (some ⟨go5,0,none⟩) x0_1.length co10) x0_1 from (bK HO_0.out))
     obtain⟨ce11,hcl11,hM11,hcc11,hfr11⟩:=Kd.R_elem HX11.out z104 (x5_1:Int) (of_decide_eq_true (bD)) (by have h_:(x5_1:Int) < ((x0_1.length:Int):Int):=of_decide_eq_true (bD);first|exact h_|(have e_:=(Kd.R_reads' HO_0.out).1;omega)|simpa using h_)
     obtain rfl:=k104_openM hM11
     have HP11:=Kd.R_seg HX11.out (x5_1:Int) (of_decide_eq_true (bD)) (by have h_:(x5_1:Int) < ((x0_1.length:Int):Int):=of_decide_eq_true (bD);first|exact h_|(have e_:=(Kd.R_reads' HO_0.out).1;omega)|simpa using h_) (seg:=[.int .i64 x1_1]) (j:=0) hcl11 hcc11 (show 1≤5 from by decide) (x':=(⟨x1_1,(rd_T104 x0_1 x5_1).f1,(rd_T104 x0_1 x5_1).f2,(rd_T104 x0_1 x5_1).f3,(rd_T104 x0_1 x5_1).f4⟩:S104)) (k104_mkM _ _ _ (⟨x1_1,(rd_T104 x0_1 x5_1).f1,(rd_T104 x0_1 x5_1).f2,(rd_T104 x0_1 x5_1).f3,(rd_T104 x0_1 x5_1).f4⟩:S104) ) (fun _ hk=>hk)
     have hx11_0:=hcc11 0 _ rfl
     (try simp only[show(k104).sz=5 from rfl,Nat.mul_one,Nat.add_zero] at hx11_0)
     have hf11_0:=hfr11 0
     (try simp only[show(k104).sz=5 from rfl,Nat.mul_one,Nat.add_zero] at hf11_0)
     clear hcl11 hcc11 hfr11 hM11
     go_wp2_with (first|((with_reducible refine gate_store (t:=3) (p:=16) rfl ?_);refine store_event (t:=3) (p:=16) (v:=?vo_w12) (w1:=(wr.setCell ⟨go5,(x5_1:Int).toNat * 5,none⟩ (.int .i64 x1_1))) ?hg ?ho ?hn ?hr ?_;(case ho=>rfl);(case hg=>rfl);(case hn=>rfl);(case hr=>first|(go_simp;done)|(go_simp;rfl));intro w12 hw;have hg:wr.grownBy w12 (some go5):=(by rw[hw];exact HP11.2);have hp_:Kd.R k104 104 w12 w0.heap.size (fun k_=>(P0_ k_∨w.heap.size≤k_)) (.slice (some ⟨go5,0,none⟩) x0_1.length co10) y215:=(by rw[hw,Ny215.out];exact HP11.1);clear HP11;have n0_:=Aside0.mk (hp_);have n1_:=Aside0.mk ((by rw[hw];exact below_set (HB.out) GB5.out:Below w0.heap.size w0 w12));have n2_:=Aside0.mk (Kept.of_grown (S:=(fun k_=>P0_ k_)) hg (b3_) (fun k_ e_=>(HO_0.out.1 k_ e_)));clear HO_0 HB HK;have HO_0:=n0_;have HB:=n1_;have HK:=n2_;clear n0_ n1_ n2_;clear hg hw hp_;have p6:0≤(x5_1:Int):=of_decide_eq_true (bD);have q6:(x5_1:Int) < ((x0_1.length:Int):Int):=of_decide_eq_true (bD);obtain⟨ce6,hcl6,hM6,hcc6,hfr6⟩:=Kd.R_elem HO_0.out z104 (x5_1:Int) p6 q6;obtain rfl:=k104_openM hM6;have hx6_0:w12.cell? ⟨go5,(x5_1:Int).toNat * 5,none⟩=some (.int .i64 ((rd_T104 y215 x5_1).f0)):=hcc6 0 _ rfl;have hx6_1:w12.cell? ⟨go5,(x5_1:Int).toNat * 5+1,none⟩=some (.int .i64 ((rd_T104 y215 x5_1).f1)):=hcc6 1 _ rfl;have hx6_2:w12.cell? ⟨go5,(x5_1:Int).toNat * 5+2,none⟩=some (.int .i64 ((rd_T104 y215 x5_1).f2)):=hcc6 2 _ rfl;have hx6_3:w12.cell? ⟨go5,(x5_1:Int).toNat * 5+3,none⟩=some (.int .i64 ((rd_T104 y215 x5_1).f3)):=hcc6 3 _ rfl;have hx6_4:w12.cell? ⟨go5,(x5_1:Int).toNat * 5+4,none⟩=some (.int .i64 ((rd_T104 y215 x5_1).f4)):=hcc6 4 _ rfl;have hf6_0:w12.frozen? ⟨go5,(x5_1:Int).toNat * 5,none⟩=false:=hfr6 0;have hf6_1:w12.frozen? ⟨go5,(x5_1:Int).toNat * 5+1,none⟩=false:=hfr6 1;have hf6_2:w12.frozen? ⟨go5,(x5_1:Int).toNat * 5+2,none⟩=false:=hfr6 2;have hf6_3:w12.frozen? ⟨go5,(x5_1:Int).toNat * 5+3,none⟩=false:=hfr6 3;have hf6_4:w12.frozen? ⟨go5,(x5_1:Int).toNat * 5+4,none⟩=false:=hfr6 4;clear hcl6 hcc6 hfr6 hM6;replace p6:=eq_true p6;replace q6:=eq_true q6;have HX13:=Aside0.mk (show Kd.R k104 104 w12 w0.heap.size (fun k_=>(P0_ k_∨w.heap.size≤k_)) (.slice (some ⟨go5,0,none⟩) x0_1.length co10) y215 from (bK HO_0.out));obtain⟨ce13,hcl13,hM13,hcc13,hfr13⟩:=Kd.R_elem HX13.out z104 (x5_1:Int) (of_decide_eq_true (bD)) (by have h_:(x5_1:Int) < ((x0_1.length:Int):Int):=of_decide_eq_true (bD);first|exact h_|(have e_:=(Kd.R_reads' HO_0.out).1;omega)|simpa using h_);obtain rfl:=k104_openM hM13;have HP13:=Kd.R_seg HX13.out (x5_1:Int) (of_decide_eq_true (bD)) (by have h_:(x5_1:Int) < ((x0_1.length:Int):Int):=of_decide_eq_true (bD);first|exact h_|(have e_:=(Kd.R_reads' HO_0.out).1;omega)|simpa using h_) (seg:=[.int .i64 (wrap64 (x1_1+1))]) (j:=1) hcl13 hcc13 (show 2≤5 from by decide) (x':=(⟨(rd_T104 y215 x5_1).f0,wrap64 (x1_1+1),(rd_T104 y215 x5_1).f2,(rd_T104 y215 x5_1).f3,(rd_T104 y215 x5_1).f4⟩:S104)) (k104_mkM _ _ _ (⟨(rd_T104 y215 x5_1).f0,wrap64 (x1_1+1),(rd_T104 y215 x5_1).f2,(rd_T104 y215 x5_1).f3,(rd_T104 y215 x5_1).f4⟩:S104) ) (fun _ hk=>hk);have hx13_1:=hcc13 1 _ rfl;(try simp only[show(k104).sz=5 from rfl,Nat.mul_one,Nat.add_zero] at hx13_1);have hf13_1:=hfr13 1;(try simp only[show(k104).sz=5 from rfl,Nat.mul_one,Nat.add_zero] at hf13_1);clear hcl13 hcc13 hfr13 hM13)|((with_reducible refine gate_store (t:=3) (p:=23) rfl ?_);refine store_event (t:=3) (p:=23) (v:=?vo_w14) (w1:=(w12.setCell ⟨go5,(x5_1:Int).toNat * 5+1,none⟩ (.int .i64 (wrap64 (x1_1+1))))) ?hg ?ho ?hn ?hr ?_;(case ho=>rfl);(case hg=>rfl);(case hn=>rfl);(case hr=>first|(go_simp;done)|(go_simp;rfl));intro w14 hw;have hg:w12.grownBy w14 (some go5):=(by rw[hw];exact HP13.2);have hp_:Kd.R k104 104 w14 w0.heap.size (fun k_=>(P0_ k_∨w.heap.size≤k_)) (.slice (some ⟨go5,0,none⟩) x0_1.length co10) y216:=(by rw[hw,Ny216.out];exact HP13.1);clear HP13;have n0_:=Aside0.mk (hp_);have n1_:=Aside0.mk ((by rw[hw];exact below_set (HB.out) GB5.out:Below w0.heap.size w0 w14));have n2_:=Aside0.mk (Kept.of_grown (S:=(fun k_=>P0_ k_)) hg (b3_) (fun k_ e_=>(HO_0.out.1 k_ e_)));clear HO_0 HB HK;have HO_0:=n0_;have HB:=n1_;have HK:=n2_;clear n0_ n1_ n2_;clear hg hw hp_;have p7:0≤(x5_1:Int):=of_decide_eq_true (bD);have q7:(x5_1:Int) < ((x0_1.length:Int):Int):=of_decide_eq_true (bD);obtain⟨ce7,hcl7,hM7,hcc7,hfr7⟩:=Kd.R_elem HO_0.out z104 (x5_1:Int) p7 q7;obtain rfl:=k104_openM hM7;have hx7_0:w14.cell? ⟨go5,(x5_1:Int).toNat * 5,none⟩=some (.int .i64 ((rd_T104 y216 x5_1).f0)):=hcc7 0 _ rfl;have hx7_1:w14.cell? ⟨go5,(x5_1:Int).toNat * 5+1,none⟩=some (.int .i64 ((rd_T104 y216 x5_1).f1)):=hcc7 1 _ rfl;have hx7_2:w14.cell? ⟨go5,(x5_1:Int).toNat * 5+2,none⟩=some (.int .i64 ((rd_T104 y216 x5_1).f2)):=hcc7 2 _ rfl;have hx7_3:w14.cell? ⟨go5,(x5_1:Int).toNat * 5+3,none⟩=some (.int .i64 ((rd_T104 y216 x5_1).f3)):=hcc7 3 _ rfl;have hx7_4:w14.cell? ⟨go5,(x5_1:Int).toNat * 5+4,none⟩=some (.int .i64 ((rd_T104 y216 x5_1).f4)):=hcc7 4 _ rfl;have hf7_0:w14.frozen? ⟨go5,(x5_1:Int).toNat * 5,none⟩=false:=hfr7 0;have hf7_1:w14.frozen? ⟨go5,(x5_1:Int).toNat * 5+1,none⟩=false:=hfr7 1;have hf7_2:w14.frozen? ⟨go5,(x5_1:Int).toNat * 5+2,none⟩=false:=hfr7 2;have hf7_3:w14.frozen? ⟨go5,(x5_1:Int).toNat * 5+3,none⟩=false:=hfr7 3;have hf7_4:w14.frozen? ⟨go5,(x5_1:Int).toNat * 5+4,none⟩=false:=hfr7 4;clear hcl7 hcc7 hfr7 hM7;replace p7:=eq_true p7;replace q7:=eq_true q7;have HX15:=Aside0.mk (show Kd.R k104 104 w14 w0.heap.size (fun k_=>(P0_ k_∨w.heap.size≤k_)) (.slice (some ⟨go5,0,none⟩) x0_1.length co10) y216 from (bK HO_0.out));obtain⟨ce15,hcl15,hM15,hcc15,hfr15⟩:=Kd.R_elem HX15.out z104 (x5_1:Int) (of_decide_eq_true (bD)) (by have h_:(x5_1:Int) < ((x0_1.length:Int):Int):=of_decide_eq_true (bD);first|exact h_|(have e_:=(Kd.R_reads' HO_0.out).1;omega)|simpa using h_);obtain rfl:=k104_openM hM15;have HP15:=Kd.R_seg HX15.out (x5_1:Int) (of_decide_eq_true (bD)) (by have h_:(x5_1:Int) < ((x0_1.length:Int):Int):=of_decide_eq_true (bD);first|exact h_|(have e_:=(Kd.R_reads' HO_0.out).1;omega)|simpa using h_) (seg:=[.int .i64 (wrap64 ((wrap64 (x1_1+1))+1))]) (j:=2) hcl15 hcc15 (show 3≤5 from by decide) (x':=(⟨(rd_T104 y216 x5_1).f0,(rd_T104 y216 x5_1).f1,wrap64 ((wrap64 (x1_1+1))+1),(rd_T104 y216 x5_1).f3,(rd_T104 y216 x5_1).f4⟩:S104)) (k104_mkM _ _ _ (⟨(rd_T104 y216 x5_1).f0,(rd_T104 y216 x5_1).f1,wrap64 ((wrap64 (x1_1+1))+1),(rd_T104 y216 x5_1).f3,(rd_T104 y216 x5_1).f4⟩:S104) ) (fun _ hk=>hk);have hx15_2:=hcc15 2 _ rfl;(try simp only[show(k104).sz=5 from rfl,Nat.mul_one,Nat.add_zero] at hx15_2);have hf15_2:=hfr15 2;(try simp only[show(k104).sz=5 from rfl,Nat.mul_one,Nat.add_zero] at hf15_2);clear hcl15 hcc15 hfr15 hM15)|((with_reducible refine gate_store (t:=3) (p:=30) rfl ?_);refine store_event (t:=3) (p:=30) (v:=?vo_w16) (w1:=(w14.setCell ⟨go5,(x5_1:Int).toNat * 5+2,none⟩ (.int .i64 (wrap64 ((wrap64 (x1_1+1))+1))))) ?hg ?ho ?hn ?hr ?_;(case ho=>rfl);(case hg=>rfl);(case hn=>rfl);(case hr=>first|(go_simp;done)|(go_simp;rfl));intro w16 hw;have hg:w14.grownBy w16 (some go5):=(by rw[hw];exact HP15.2);have hp_:Kd.R k104 104 w16 w0.heap.size (fun k_=>(P0_ k_∨w.heap.size≤k_)) (.slice (some ⟨go5,0,none⟩) x0_1.length co10) y217:=(by rw[hw,Ny217.out];exact HP15.1);clear HP15;have n0_:=Aside0.mk (hp_);have n1_:=Aside0.mk ((by rw[hw];exact below_set (HB.out) GB5.out:Below w0.heap.size w0 w16));have n2_:=Aside0.mk (Kept.of_grown (S:=(fun k_=>P0_ k_)) hg (b3_) (fun k_ e_=>(HO_0.out.1 k_ e_)));clear HO_0 HB HK;have HO_0:=n0_;have HB:=n1_;have HK:=n2_;clear n0_ n1_ n2_;clear hg hw hp_;have p8:0≤(x5_1:Int):=of_decide_eq_true (bD);have q8:(x5_1:Int) < ((x0_1.length:Int):Int):=of_decide_eq_true (bD);obtain⟨ce8,hcl8,hM8,hcc8,hfr8⟩:=Kd.R_elem HO_0.out z104 (x5_1:Int) p8 q8;obtain rfl:=k104_openM hM8;have hx8_0:w16.cell? ⟨go5,(x5_1:Int).toNat * 5,none⟩=some (.int .i64 ((rd_T104 y217 x5_1).f0)):=hcc8 0 _ rfl;have hx8_1:w16.cell? ⟨go5,(x5_1:Int).toNat * 5+1,none⟩=some (.int .i64 ((rd_T104 y217 x5_1).f1)):=hcc8 1 _ rfl;have hx8_2:w16.cell? ⟨go5,(x5_1:Int).toNat * 5+2,none⟩=some (.int .i64 ((rd_T104 y217 x5_1).f2)):=hcc8 2 _ rfl;have hx8_3:w16.cell? ⟨go5,(x5_1:Int).toNat * 5+3,none⟩=some (.int .i64 ((rd_T104 y217 x5_1).f3)):=hcc8 3 _ rfl;have hx8_4:w16.cell? ⟨go5,(x5_1:Int).toNat * 5+4,none⟩=some (.int .i64 ((rd_T104 y217 x5_1).f4)):=hcc8 4 _ rfl;have hf8_0:w16.frozen? ⟨go5,(x5_1:Int).toNat * 5,none⟩=false:=hfr8 0;have hf8_1:w16.frozen? ⟨go5,(x5_1:Int).toNat * 5+1,none⟩=false:=hfr8 1;have hf8_2:w16.frozen? ⟨go5,(x5_1:Int).toNat * 5+2,none⟩=false:=hfr8 2;have hf8_3:w16.frozen? ⟨go5,(x5_1:Int).toNat * 5+3,none⟩=false:=hfr8 3;have hf8_4:w16.frozen? ⟨go5,(x5_1:Int).toNat * 5+4,none⟩=false:=hfr8 4;clear hcl8 hcc8 hfr8 hM8;replace p8:=eq_true p8;replace q8:=eq_true q8;have HX17:=Aside0.mk (show Kd.R k104 104 w16 w0.heap.size (fun k_=>(P0_ k_∨w.heap.size≤k_)) (.slice (some ⟨go5,0,none⟩) x0_1.length co10) y217 from (bK HO_0.out));obtain⟨ce17,hcl17,hM17,hcc17,hfr17⟩:=Kd.R_elem HX17.out z104 (x5_1:Int) (of_decide_eq_true (bD)) (by have h_:(x5_1:Int) < ((x0_1.length:Int):Int):=of_decide_eq_true (bD);first|exact h_|(have e_:=(Kd.R_reads' HO_0.out).1;omega)|simpa using h_);obtain rfl:=k104_openM hM17;have HP17:=Kd.R_seg HX17.out (x5_1:Int) (of_decide_eq_true (bD)) (by have h_:(x5_1:Int) < ((x0_1.length:Int):Int):=of_decide_eq_true (bD);first|exact h_|(have e_:=(Kd.R_reads' HO_0.out).1;omega)|simpa using h_) (seg:=[.int .i64 (wrap64 ((wrap64 ((wrap64 (x1_1+1))+1))+1))]) (j:=3) hcl17 hcc17 (show 4≤5 from by decide) (x':=(⟨(rd_T104 y217 x5_1).f0,(rd_T104 y217 x5_1).f1,(rd_T104 y217 x5_1).f2,wrap64 ((wrap64 ((wrap64 (x1_1+1))+1))+1),(rd_T104 y217 x5_1).f4⟩:S104)) (k104_mkM _ _ _ (⟨(rd_T104 y217 x5_1).f0,(rd_T104 y217 x5_1).f1,(rd_T104 y217 x5_1).f2,wrap64 ((wrap64 ((wrap64 (x1_1+1))+1))+1),(rd_T104 y217 x5_1).f4⟩:S104) ) (fun _ hk=>hk);have hx17_3:=hcc17 3 _ rfl;(try simp only[show(k104).sz=5 from rfl,Nat.mul_one,Nat.add_zero] at hx17_3);have hf17_3:=hfr17 3;(try simp only[show(k104).sz=5 from rfl,Nat.mul_one,Nat.add_zero] at hf17_3);clear hcl17 hcc17 hfr17 hM17)|((with_reducible refine gate_store (t:=3) (p:=37) rfl ?_);refine store_event (t:=3) (p:=37) (v:=?vo_w18) (w1:=(w16.setCell ⟨go5,(x5_1:Int).toNat * 5+3,none⟩ (.int .i64 (wrap64 ((wrap64 ((wrap64 (x1_1+1))+1))+1))))) ?hg ?ho ?hn ?hr ?_;(case ho=>rfl);(case hg=>rfl);(case hn=>rfl);(case hr=>first|(go_simp;done)|(go_simp;rfl));intro w18 hw;have hg:w16.grownBy w18 (some go5):=(by rw[hw];exact HP17.2);have hp_:Kd.R k104 104 w18 w0.heap.size (fun k_=>(P0_ k_∨w.heap.size≤k_)) (.slice (some ⟨go5,0,none⟩) x0_1.length co10) y218:=(by rw[hw,Ny218.out];exact HP17.1);clear HP17;have n0_:=Aside0.mk (hp_);have n1_:=Aside0.mk ((by rw[hw];exact below_set (HB.out) GB5.out:Below w0.heap.size w0 w18));have n2_:=Aside0.mk (Kept.of_grown (S:=(fun k_=>P0_ k_)) hg (b3_) (fun k_ e_=>(HO_0.out.1 k_ e_)));clear HO_0 HB HK;have HO_0:=n0_;have HB:=n1_;have HK:=n2_;clear n0_ n1_ n2_;clear hg hw hp_;have p9:0≤(x5_1:Int):=of_decide_eq_true (bD);have q9:(x5_1:Int) < ((x0_1.length:Int):Int):=of_decide_eq_true (bD);obtain⟨ce9,hcl9,hM9,hcc9,hfr9⟩:=Kd.R_elem HO_0.out z104 (x5_1:Int) p9 q9;obtain rfl:=k104_openM hM9;have hx9_0:w18.cell? ⟨go5,(x5_1:Int).toNat * 5,none⟩=some (.int .i64 ((rd_T104 y218 x5_1).f0)):=hcc9 0 _ rfl;have hx9_1:w18.cell? ⟨go5,(x5_1:Int).toNat * 5+1,none⟩=some (.int .i64 ((rd_T104 y218 x5_1).f1)):=hcc9 1 _ rfl;have hx9_2:w18.cell? ⟨go5,(x5_1:Int).toNat * 5+2,none⟩=some (.int .i64 ((rd_T104 y218 x5_1).f2)):=hcc9 2 _ rfl;have hx9_3:w18.cell? ⟨go5,(x5_1:Int).toNat * 5+3,none⟩=some (.int .i64 ((rd_T104 y218 x5_1).f3)):=hcc9 3 _ rfl;have hx9_4:w18.cell? ⟨go5,(x5_1:Int).toNat * 5+4,none⟩=some (.int .i64 ((rd_T104 y218 x5_1).f4)):=hcc9 4 _ rfl;have hf9_0:w18.frozen? ⟨go5,(x5_1:Int).toNat * 5,none⟩=false:=hfr9 0;have hf9_1:w18.frozen? ⟨go5,(x5_1:Int).toNat * 5+1,none⟩=false:=hfr9 1;have hf9_2:w18.frozen? ⟨go5,(x5_1:Int).toNat * 5+2,none⟩=false:=hfr9 2;have hf9_3:w18.frozen? ⟨go5,(x5_1:Int).toNat * 5+3,none⟩=false:=hfr9 3;have hf9_4:w18.frozen? ⟨go5,(x5_1:Int).toNat * 5+4,none⟩=false:=hfr9 4;clear hcl9 hcc9 hfr9 hM9;replace p9:=eq_true p9;replace q9:=eq_true q9;have HX19:=Aside0.mk (show Kd.R k104 104 w18 w0.heap.size (fun k_=>(P0_ k_∨w.heap.size≤k_)) (.slice (some ⟨go5,0,none⟩) x0_1.length co10) y218 from (bK HO_0.out));obtain⟨ce19,hcl19,hM19,hcc19,hfr19⟩:=Kd.R_elem HX19.out z104 (x5_1:Int) (of_decide_eq_true (bD)) (by have h_:(x5_1:Int) < ((x0_1.length:Int):Int):=of_decide_eq_true (bD);first|exact h_|(have e_:=(Kd.R_reads' HO_0.out).1;omega)|simpa using h_);obtain rfl:=k104_openM hM19;have HP19:=Kd.R_seg HX19.out (x5_1:Int) (of_decide_eq_true (bD)) (by have h_:(x5_1:Int) < ((x0_1.length:Int):Int):=of_decide_eq_true (bD);first|exact h_|(have e_:=(Kd.R_reads' HO_0.out).1;omega)|simpa using h_) (seg:=[.int .i64 (wrap64 ((wrap64 ((wrap64 ((wrap64 (x1_1+1))+1))+1))+1))]) (j:=4) hcl19 hcc19 (show 5≤5 from by decide) (x':=(⟨(rd_T104 y218 x5_1).f0,(rd_T104 y218 x5_1).f1,(rd_T104 y218 x5_1).f2,(rd_T104 y218 x5_1).f3,wrap64 ((wrap64 ((wrap64 ((wrap64 (x1_1+1))+1))+1))+1)⟩:S104)) (k104_mkM _ _ _ (⟨(rd_T104 y218 x5_1).f0,(rd_T104 y218 x5_1).f1,(rd_T104 y218 x5_1).f2,(rd_T104 y218 x5_1).f3,wrap64 ((wrap64 ((wrap64 ((wrap64 (x1_1+1))+1))+1))+1)⟩:S104) ) (fun _ hk=>hk);have hx19_4:=hcc19 4 _ rfl;(try simp only[show(k104).sz=5 from rfl,Nat.mul_one,Nat.add_zero] at hx19_4);have hf19_4:=hfr19 4;(try simp only[show(k104).sz=5 from rfl,Nat.mul_one,Nat.add_zero] at hf19_4);clear hcl19 hcc19 hfr19 hM19)|((with_reducible refine gate_store (t:=3) (p:=44) rfl ?_);refine store_event (t:=3) (p:=44) (v:=?vo_w20) (w1:=(w18.setCell ⟨go5,(x5_1:Int).toNat * 5+4,none⟩ (.int .i64 (wrap64 ((wrap64 ((wrap64 ((wrap64 (x1_1+1))+1))+1))+1))))) ?hg ?ho ?hn ?hr ?_;(case ho=>rfl);(case hg=>rfl);(case hn=>rfl);(case hr=>first|(go_simp;done)|(go_simp;rfl));intro w20 hw;have hg:w18.grownBy w20 (some go5):=(by rw[hw];exact HP19.2);have hp_:Kd.R k104 104 w20 w0.heap.size (fun k_=>(P0_ k_∨w.heap.size≤k_)) (.slice (some ⟨go5,0,none⟩) x0_1.length co10) y219:=(by rw[hw,Ny219.out];exact HP19.1);clear HP19;have n0_:=Aside0.mk (hp_);have n1_:=Aside0.mk ((by rw[hw];exact below_set (HB.out) GB5.out:Below w0.heap.size w0 w20));have n2_:=Aside0.mk (Kept.of_grown (S:=(fun k_=>P0_ k_)) hg (b3_) (fun k_ e_=>(HO_0.out.1 k_ e_)));clear HO_0 HB HK;have HO_0:=n0_;have HB:=n1_;have HK:=n2_;clear n0_ n1_ n2_;clear hg hw hp_))
     go_roundg k1
     case measure=>have:=HK1.out;omega
     case rel=>exact⟨(y219),(wrap64 ((wrap64 ((wrap64 ((wrap64 ((wrap64 (x1_1+1))+1))+1))+1))+1)),(wrap64 (x5_1+1)),(bR),(bR),H',⟨by have:=HK1.out;omega⟩,⟨by(with_reducible repeat (first|apply Kd.R_alloc|apply Kd.R_drewN|apply Kd.R_drew));exact HO_0.out⟩,⟨by repeat (first|(with_reducible first|exact HK.out|apply Kept.alloc|apply Kept.drewN|apply Kept.drew)|exact HK.out)⟩,⟨by repeat (first|(with_reducible first|exact HB.out|apply below_alloc|apply pw_below_drewN|apply below_drew1)|exact HB.out)⟩⟩
    ·rw[if_neg c4] at H
     exact absurd H (by simp)
   ·rw[if_neg c3] at H
    have c3b0:decide (x5_1 < (x0_1.length:Int))=false:=decide_eq_false c3
    clear c3
    simp only[Option.some.injEq,Prod.mk.injEq] at H
    obtain⟨rfl,rfl⟩:=H
    obtain⟨Ao21,co21,eo21⟩:=Kd.R_slice HO_0.out
    subst eo21
    go_wp2
    go_ret
    exact⟨bE,by(with_reducible repeat (first|apply Kd.R_alloc|apply Kd.R_drewN|apply Kd.R_drew));exact HO_0.out,by repeat (first|(with_reducible first|exact HB.out|apply below_alloc|apply pw_below_drewN|apply below_drew1)|exact HB.out),by repeat (first|(with_reducible first|exact HK.out|apply Kept.alloc|apply Kept.drewN|apply Kept.drew)|exact HK.out)⟩

/-! ### laws_markIntS: function 29 -/
def laws_markIntS.l0:Nat→List Int→Int→Int→Option (Int × List Int)
 | 0,_,_,_=>none
 | k+1,x0,x1,x5=>if x5 < (x0.length:Int) then (if 0≤x5 then (laws_markIntS.l0 k (x0.set (x5:Int).toNat x1) (wrap64 (x1+1)) (wrap64 (x5+1))) else (none)) else (some (x1,x0))
def laws_markIntS.f (k:Nat) (l0:List Int) (a1:Int):Option (Int × List Int):=laws_markIntS.l0 k l0 a1 0
theorem laws_markIntS.mono_l : ∀ k,(∀ y0 y1 y2,LeO (laws_markIntS.l0 k y0 y1 y2) (laws_markIntS.l0 (k+1) y0 y1 y2))
 | 0=>fun _ _ _ r h=>by simp[laws_markIntS.l0] at h
 | k+1=>by
  have ih0:=laws_markIntS.mono_l k
  ·intro y0 y1 y2
   unfold laws_markIntS.l0
   repeat' first
   | (with_reducible exact ih0 _ _ _)
   | (with_reducible exact LeO.refl _)
   | (with_reducible exact LeO.none _)
   | (with_reducible refine LeO.ite ?_ ?_)
   | (with_reducible refine LeO.bind ?_ (fun _ => ?_))
   | exact ih0 _ _ _
   | exact LeO.none _
   | refine LeO.ite ?_ ?_
   | refine LeO.bind ?_ (fun _ => ?_)
theorem laws_markIntS.mono : ∀ a0 a1 k,LeO (laws_markIntS.f k a0 a1) (laws_markIntS.f (k+1) a0 a1):=by
 intro a0 a1 k
 have ih0:=laws_markIntS.mono_l k
 unfold laws_markIntS.f
 repeat' first
  | (with_reducible exact ih0 _ _ _)
  | (with_reducible exact LeO.refl _)
  | (with_reducible exact LeO.none _)
  | (with_reducible refine LeO.ite ?_ ?_)
  | (with_reducible refine LeO.bind ?_ (fun _ => ?_))
  | exact ih0 _ _ _
  | exact LeO.none _
  | refine LeO.ite ?_ ?_
  | refine LeO.bind ?_ (fun _ => ?_)
set_option maxHeartbeats 8000000 in
set_option maxRecDepth 100000 in
theorem laws_markIntS.calls (k:Nat) (P0_:Nat→Prop) (u9000_:Value) (l0:List Int) (a1:Int) (r1:Int) (r2:List Int) (w0 w:World) (hB:Below w0.heap.size w0 w) (ho0:Kd.R (Kd.int .i64) 3 w w0.heap.size P0_ u9000_ l0) (h:laws_markIntS.f k l0 a1=some (r1,r2)) :
  Calls Try.prog 29 #[u9000_,.int .i64 a1] w fun e w'=>e=.returned (.int .i64 r1)∧Kd.R (Kd.int .i64) 3 w' w0.heap.size (fun k_=>(P0_ k_∨w.heap.size≤k_)) u9000_ r2∧Below w0.heap.size w0 w'∧Kept w w' (fun k_=>P0_ k_):=by
 have HO0:=Aside0.mk (show Kd.R (Kd.int .i64) 3 w w0.heap.size (fun k_=>(P0_ k_∨w.heap.size≤k_)) u9000_ l0 from Kd.R_mono ho0 (fun k_ hk=>(.inl hk)))
 have HK:=Aside0.mk (Kept.refl w (fun k_=>P0_ k_))
 have HW0:=Aside0.mk hB.size
 have HB:=Aside0.mk hB
 clear hB
 have H:(laws_markIntS.l0 k l0 a1 0)=some (r1,r2):=h
 clear h
 have H':=Aside0.mk H
 clear H
 go_enter Try.func29,Try.ntmps29
 go_wp2
 go_loopg [1,5] k (fun kq v1 v5 w' => ∃ (x0_1:List Int) (x1_1:Int) (x5_1:Int),v1=.int .i64 x1_1∧v5=.int .i64 x5_1∧Aside0 (laws_markIntS.l0 kq x0_1 x1_1 x5_1=some (r1,r2))∧Aside0 (kq≤k)∧Aside0 (Kd.R (Kd.int .i64) 3 w' w0.heap.size (fun k_=>(P0_ k_∨w.heap.size≤k_)) u9000_ x0_1)∧Aside0 (Kept w w' (fun k_=>P0_ k_))∧Aside0 (Below w0.heap.size w0 w'))
 case atStart=>exact⟨(l0),(a1),(0),(bR),(bR),H',⟨Nat.le_refl _⟩,⟨by(with_reducible repeat (first|apply Kd.R_alloc|apply Kd.R_drewN|apply Kd.R_drew));exact HO0.out⟩,⟨by repeat (first|(with_reducible first|exact HK.out|apply Kept.alloc|apply Kept.drewN|apply Kept.drew)|exact HK.out)⟩,⟨by repeat (first|(with_reducible first|exact HB.out|apply below_alloc|apply pw_below_drewN|apply below_drew1)|exact HB.out)⟩⟩
 case round =>
  clear H'
  try clear c2
  try clear p2
  obtain⟨x0_1,x1_1,x5_1,rfl,rfl,HA,HK1,HO_0,HK,HB⟩:=hrel
  cases gk with
  | zero=>exact absurd HA.out (by simp[laws_markIntS.l0])
  | succ k1 =>
   have H:=HA.out
   clear HA
   simp only[laws_markIntS.l0] at H
   by_cases c3:x5_1 < (x0_1.length:Int)
   ·rw[if_pos c3] at H
    have c3b0:decide (x5_1 < (x0_1.length:Int))=true:=decide_eq_true c3
    clear c3
    by_cases c4:0≤x5_1
    ·rw[if_pos c4] at H
     have c4b0:decide (0≤x5_1)=true:=decide_eq_true c4
     clear c4
     obtain⟨y220,hy220⟩ : ∃ y_:List Int,y_=(x0_1.set (x5_1:Int).toNat x1_1):=⟨_,rfl⟩
     replace H:(laws_markIntS.l0 k1 y220 (wrap64 (x1_1+1)) (wrap64 (x5_1+1)))=some (r1,r2):=by first|(rw[hy220];with_reducible exact H)|(have H2_:=(Option.bind_some _ _).symm.trans H;rw[hy220];with_reducible exact H2_)|(have H2_:=(Option.bind_some _ _).symm.trans H;with_reducible exact H2_)|with_reducible exact H|(rw[hy220];exact H)|exact H
     have Ny220:=Aside0.mk hy220
     clear hy220
     have H':=Aside0.mk H
     clear H
     obtain⟨Ao6,co6,eo6⟩:=Kd.R_slice HO_0.out
     subst eo6
     have p5:0≤(x5_1:Int):=of_decide_eq_true (bD)
     have q5:(x5_1:Int) < ((x0_1.length:Int):Int):=of_decide_eq_true (bD)
     obtain⟨go5,co5,eo5,gb5,gl5,cl5,HG5⟩:=Kd.R_form HO_0.out (by omega)
     (first|cases eo5|(injection eo5 with ea_ en_ ec_;(first|subst ea_|(injection ea_ with ea_;subst ea_));subst ec_;clear en_))
     have GB5:=Aside0.mk gb5
     have GG5:=Aside0.mk HG5
     clear gb5 gl5 HG5
     have HMgo5:=Aside0.mk (show(P0_ go5∨w.heap.size≤go5) from (HO_0.out.1 _ rfl))
     obtain⟨hx5_0,hf5_0⟩:=Kd.R_celln 0 HO_0.out (x5_1:Int) p5 q5
     replace p5:=eq_true p5
     replace q5:=eq_true q5
     have HP7:=Kd.R_putg HO_0.out (x5_1:Int) x1_1
     go_wp2_with (first|((with_reducible refine gate_store (t:=3) (p:=15) rfl ?_);refine store_event (t:=3) (p:=15) (v:=?vo_w8) (w1:=(wr.setCell ⟨go5,(x5_1:Int).toNat,none⟩ (.int .i64 x1_1))) ?hg ?ho ?hn ?hr ?_;(case ho=>rfl);(case hg=>rfl);(case hn=>rfl);(case hr=>first|(go_simp;done)|(go_simp;rfl));intro w8 hw;have hg:wr.grownBy w8 (some go5):=(by rw[hw];exact HP7.2);have hp_:Kd.R (Kd.int .i64) 3 w8 w0.heap.size (fun k_=>(P0_ k_∨w.heap.size≤k_)) (.slice (some ⟨go5,0,none⟩) x0_1.length co6) y220:=(by rw[hw,Ny220.out];exact HP7.1);clear HP7;have n0_:=Aside0.mk (hp_);have n1_:=Aside0.mk ((by rw[hw];exact below_set (HB.out) GB5.out:Below w0.heap.size w0 w8));have n2_:=Aside0.mk (Kept.of_grown (S:=(fun k_=>P0_ k_)) hg (b3_) (fun k_ e_=>(HO_0.out.1 k_ e_)));clear HO_0 HB HK;have HO_0:=n0_;have HB:=n1_;have HK:=n2_;clear n0_ n1_ n2_;clear hg hw hp_))
     go_roundg k1
     case measure=>have:=HK1.out;omega
     case rel=>exact⟨(y220),(wrap64 (x1_1+1)),(wrap64 (x5_1+1)),(bR),(bR),H',⟨by have:=HK1.out;omega⟩,⟨by(with_reducible repeat (first|apply Kd.R_alloc|apply Kd.R_drewN|apply Kd.R_drew));exact HO_0.out⟩,⟨by repeat (first|(with_reducible first|exact HK.out|apply Kept.alloc|apply Kept.drewN|apply Kept.drew)|exact HK.out)⟩,⟨by repeat (first|(with_reducible first|exact HB.out|apply below_alloc|apply pw_below_drewN|apply below_drew1)|exact HB.out)⟩⟩
    ·rw[if_neg c4] at H
     exact absurd H (by simp)
   ·rw[if_neg c3] at H
    have c3b0:decide (x5_1 < (x0_1.length:Int))=false:=decide_eq_false c3
    clear c3
    simp only[Option.some.injEq,Prod.mk.injEq] at H
    obtain⟨rfl,rfl⟩:=H
    obtain⟨Ao9,co9,eo9⟩:=Kd.R_slice HO_0.out
    subst eo9
    go_wp2
    go_ret
    exact⟨bE,by(with_reducible repeat (first|apply Kd.R_alloc|apply Kd.R_drewN|apply Kd.R_drew));exact HO_0.out,by repeat (first|(with_reducible first|exact HB.out|apply below_alloc|apply pw_below_drewN|apply below_drew1)|exact HB.out),by repeat (first|(with_reducible first|exact HK.out|apply Kept.alloc|apply Kept.drewN|apply Kept.drew)|exact HK.out)⟩

end Go.Proofs.Yteneeohaoplpbaa.XFnExactFloodUntil
