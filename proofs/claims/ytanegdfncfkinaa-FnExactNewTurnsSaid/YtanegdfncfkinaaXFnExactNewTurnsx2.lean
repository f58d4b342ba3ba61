-- Written by this session's own program (wip/xprint.py) out of the translation; Lean checks it.
import Derived.Test.YtanegdfncfkinaaXFnExactNewTurnsx0
import Derived.Test.YtanegdfncfkinaaXFnExactNewTurnsx1
namespace Go.Proofs.Ytanegdfncfkinaa.XFnExactNewTurns
open Go.RowKit Go.Proofs.YtanegdfncfkinaaW.PrintWords Go.Proofs.YtanegdfncfkinaaW.PrintLast Go.Proofs.YtanegdfncfkinaaW.PrintMore
attribute [local go_sem] max2_int min2_int max_two min_two max_three min_three max_four min_four   -- for this text's walks alone
set_option linter.unusedVariables false
set_option linter.unusedSimpArgs false

/-! ### laws_eqTurns: function 7 -/
def laws_eqTurns.f (k:Nat) (a0_0:Int) (l0_1:List (S61)) (a0_2:Int) (a1_0:Int) (l1_1:List (S61)) (a1_2:Int):Option (Bool):=if a0_0=a1_0 then ((laws_eqQueueS.f k l0_1 l1_1).bind fun t123=>(if t123=true then (if a0_2=a1_2 then (some true) else (some false)) else (some false))) else (some false)
theorem laws_eqTurns.mono : ∀ a0 a1 a2 a3 a4 a5 k,LeO (laws_eqTurns.f k a0 a1 a2 a3 a4 a5) (laws_eqTurns.f (k+1) a0 a1 a2 a3 a4 a5):=by
 intro a0 a1 a2 a3 a4 a5 k
 unfold laws_eqTurns.f
 repeat' first
  | (with_reducible exact laws_eqQueueS.mono _ _ _)
  | (with_reducible exact LeO.refl _)
  | (with_reducible exact LeO.none _)
  | (with_reducible refine LeO.ite ?_ ?_)
  | (with_reducible refine LeO.bind ?_ (fun _ => ?_))
  | exact laws_eqQueueS.mono _ _ _
  | exact LeO.none _
  | refine LeO.ite ?_ ?_
  | refine LeO.bind ?_ (fun _ => ?_)
set_option maxHeartbeats 8000000 in
set_option maxRecDepth 100000 in
theorem laws_eqTurns.calls (k:Nat) (a0_0:Int) (A0_1:Option Addr) (c0_1:Nat) (l0_1:List (S61)) (a0_2:Int) (a1_0:Int) (A1_1:Option Addr) (c1_1:Nat) (l1_1:List (S61)) (a1_2:Int) (r:Bool) (w:World) (hr0_1:Kd.C k61 w A0_1 l0_1.length l0_1) (hc0_1:l0_1.length≤c0_1) (hr1_1:Kd.C k61 w A1_1 l1_1.length l1_1) (hc1_1:l1_1.length≤c1_1) (h:laws_eqTurns.f k a0_0 l0_1 a0_2 a1_0 l1_1 a1_2=some r) :
  Calls Try.prog 7 #[.agg #[.int .i64 a0_0,.slice A0_1 l0_1.length c0_1,.int .i64 a0_2],.agg #[.int .i64 a1_0,.slice A1_1 l1_1.length c1_1,.int .i64 a1_2]] w fun e w'=>e=.returned (.bool r)∧Below w.heap.size w w':=by
 have hu24:=Try.underlying24
 have HR0_1:=Aside0.mk hr0_1
 have HC0_1:=Aside0.mk hc0_1
 clear hr0_1 hc0_1
 have HR1_1:=Aside0.mk hr1_1
 have HC1_1:=Aside0.mk hc1_1
 clear hr1_1 hc1_1
 have HB:=Aside0.mk (Below.refl w.heap.size w)
 have H:(if a0_0=a1_0 then ((laws_eqQueueS.f k l0_1 l1_1).bind fun t123=>(if t123=true then (if a0_2=a1_2 then (some true) else (some false)) else (some false))) else (some false))=some r:=h
 clear h
 by_cases c3:a0_0=a1_0
 ·rw[if_pos c3] at H
  have c3b0:(a0_0 == a1_0)=true:=beq_iff_eq.mpr c3
  have c3b1:(a0_0 != a1_0)=false:=bne_eq_false_iff_eq.mpr c3
  clear c3
  replace H:=Option.bind_eq_some_iff.mp H
  obtain⟨t123,A40,H⟩:=H
  have A4:=Aside0.mk A40
  clear A40
  by_cases c5:t123=true
  ·subst c5
   have H1:(if a0_2=a1_2 then (some true) else (some false))=some r:=by rw[if_pos rfl] at H;exact H
   clear H
   have H:=H1
   clear H1
   by_cases c6:a0_2=a1_2
   ·rw[if_pos c6] at H
    have c6b0:(a0_2 == a1_2)=true:=beq_iff_eq.mpr c6
    have c6b1:(a0_2 != a1_2)=false:=bne_eq_false_iff_eq.mpr c6
    clear c6
    obtain rfl:=Option.some.inj H
    go_enter Try.func7,Try.ntmps7
    go_wp2_with (first|((with_reducible refine gate_dst (N:=2) rfl ?_);refine box_event ?hg (N:=2) ?hd (cs:=#[.int .i64 a0_0,.slice A0_1 l0_1.length c0_1,.int .i64 a0_2]) (t:=24) ?hr ?_;(case hd=>rfl);(case hg=>rfl);(case hr=>first|(go_simp;done)|(go_simp;rfl));intro gb121 hg w7 hbox hb;have n0_:=Aside0.mk (below_step (bB) hb);have n1_:=Aside0.mk (hbox);have n2_:=Aside0.mk ((bG:w.heap.size≤gb121));have n3_:=Aside0.mk ((bG:w.heap.size≤gb121));clear HB;have HB:=n0_;have BK121:=n1_;have GW121:=n2_;have GE121:=n3_;clear n0_ n1_ n2_ n3_;clear hb hbox hg)|((with_reducible refine gate_dst (N:=3) rfl ?_);refine box_event ?hg (N:=3) ?hd (cs:=#[.int .i64 a1_0,.slice A1_1 l1_1.length c1_1,.int .i64 a1_2]) (t:=24) ?hr ?_;(case hd=>rfl);(case hg=>rfl);(case hr=>first|(go_simp;done)|(go_simp;rfl));intro gb122 hg w8 hbox hb;have n0_:=Aside0.mk (bM BK121.out hb);have n1_:=Aside0.mk (below_step (bS GE121.out) hb);have n2_:=Aside0.mk (hbox);have n3_:=Aside0.mk ((by rw[hg];exact(below_size (bS GE121.out)):w.heap.size≤gb122));have n4_:=Aside0.mk ((by rw[hg];exact(below_size (bS GE121.out)):w.heap.size≤gb122));have n5_:=Aside0.mk ((bN BK121.out hg:gb121≠gb122));have n6_:=Aside0.mk ((bO BK121.out hg:gb122≠gb121));clear BK121 HB;have BK121:=n0_;have HB:=n1_;have BK122:=n2_;have GW122:=n3_;have GE122:=n4_;have NB121_122:=n5_;have NB122_121:=n6_;clear n0_ n1_ n2_ n3_ n4_ n5_ n6_;clear hb hbox hg;have hnb9:=NB121_122.out;have hnc9:=NB122_121.out;obtain⟨hcz10_0,hcz10_1,hcz10_2⟩:=cC3 BK121.out;obtain⟨hfz10_0,hfz10_1,hfz10_2⟩:=cF3 BK121.out;obtain⟨hcz11_0,hcz11_1,hcz11_2⟩:=cC3 BK122.out;obtain⟨hfz11_0,hfz11_1,hfz11_2⟩:=cF3 BK122.out)|((with_reducible refine gate_callee (f:=18) rfl ?_);refine goesA (some 14) rfl rfl Try.func18 #[.slice A0_1 l0_1.length c0_1,.slice A1_1 l1_1.length c1_1] rfl ?_;(with_reducible refine(laws_eqQueueS.calls k _ _ l0_1 _ _ l1_1 true _ ?side1 ?side2 ?side3 ?side4 A4.out).mono ?_);(case side1=>exact bC HR0_1.out);(case side2=>exact HC0_1.out);(case side3=>exact bC HR1_1.out);(case side4=>exact HC1_1.out);rintro e w12 ⟨rfl,hb⟩;refine⟨_,rfl,?_⟩;have n0_:=Aside0.mk (bM BK121.out hb);have n1_:=Aside0.mk (bM BK122.out hb);have n2_:=Aside0.mk (below_step (bS2 GE121.out GE122.out) hb);clear BK121 BK122 HB;have BK121:=n0_;have BK122:=n1_;have HB:=n2_;clear n0_ n1_ n2_;(try clear hb);(try clear hb2);(try clear hk);(try clear hi);obtain⟨hcz13_0,hcz13_1,hcz13_2⟩:=cC3 BK121.out;obtain⟨hfz13_0,hfz13_1,hfz13_2⟩:=cF3 BK121.out;obtain⟨hcz14_0,hcz14_1,hcz14_2⟩:=cC3 BK122.out;obtain⟨hfz14_0,hfz14_1,hfz14_2⟩:=cF3 BK122.out))
    go_ret
    exact⟨bE,bS2 GE121.out GE122.out⟩
   ·rw[if_neg c6] at H
    have c6b0:(a0_2 == a1_2)=false:=beq_eq_false_iff_ne.mpr c6
    have c6b1:(a0_2 != a1_2)=true:=bne_iff_ne.mpr c6
    obtain rfl:=Option.some.inj H
    go_enter Try.func7,Try.ntmps7
    go_wp2_with (first|((with_reducible refine gate_dst (N:=2) rfl ?_);refine box_event ?hg (N:=2) ?hd (cs:=#[.int .i64 a0_0,.slice A0_1 l0_1.length c0_1,.int .i64 a0_2]) (t:=24) ?hr ?_;(case hd=>rfl);(case hg=>rfl);(case hr=>first|(go_simp;done)|(go_simp;rfl));intro gb121 hg w15 hbox hb;have n0_:=Aside0.mk (below_step (bB) hb);have n1_:=Aside0.mk (hbox);have n2_:=Aside0.mk ((bG:w.heap.size≤gb121));have n3_:=Aside0.mk ((bG:w.heap.size≤gb121));clear HB;have HB:=n0_;have BK121:=n1_;have GW121:=n2_;have GE121:=n3_;clear n0_ n1_ n2_ n3_;clear hb hbox hg)|((with_reducible refine gate_dst (N:=3) rfl ?_);refine box_event ?hg (N:=3) ?hd (cs:=#[.int .i64 a1_0,.slice A1_1 l1_1.length c1_1,.int .i64 a1_2]) (t:=24) ?hr ?_;(case hd=>rfl);(case hg=>rfl);(case hr=>first|(go_simp;done)|(go_simp;rfl));intro gb122 hg w16 hbox hb;have n0_:=Aside0.mk (bM BK121.out hb);have n1_:=Aside0.mk (below_step (bS GE121.out) hb);have n2_:=Aside0.mk (hbox);have n3_:=Aside0.mk ((by rw[hg];exact(below_size (bS GE121.out)):w.heap.size≤gb122));have n4_:=Aside0.mk ((by rw[hg];exact(below_size (bS GE121.out)):w.heap.size≤gb122));have n5_:=Aside0.mk ((bN BK121.out hg:gb121≠gb122));have n6_:=Aside0.mk ((bO BK121.out hg:gb122≠gb121));clear BK121 HB;have BK121:=n0_;have HB:=n1_;have BK122:=n2_;have GW122:=n3_;have GE122:=n4_;have NB121_122:=n5_;have NB122_121:=n6_;clear n0_ n1_ n2_ n3_ n4_ n5_ n6_;clear hb hbox hg;have hnb17:=NB121_122.out;have hnc17:=NB122_121.out;obtain⟨hcz18_0,hcz18_1,hcz18_2⟩:=cC3 BK121.out;obtain⟨hfz18_0,hfz18_1,hfz18_2⟩:=cF3 BK121.out;obtain⟨hcz19_0,hcz19_1,hcz19_2⟩:=cC3 BK122.out;obtain⟨hfz19_0,hfz19_1,hfz19_2⟩:=cF3 BK122.out)|((with_reducible refine gate_callee (f:=18) rfl ?_);refine goesA (some 14) rfl rfl Try.func18 #[.slice A0_1 l0_1.length c0_1,.slice A1_1 l1_1.length c1_1] rfl ?_;(with_reducible refine(laws_eqQueueS.calls k _ _ l0_1 _ _ l1_1 true _ ?side1 ?side2 ?side3 ?side4 A4.out).mono ?_);(case side1=>exact bC HR0_1.out);(case side2=>exact HC0_1.out);(case side3=>exact bC HR1_1.out);(case side4=>exact HC1_1.out);rintro e w20 ⟨rfl,hb⟩;refine⟨_,rfl,?_⟩;have n0_:=Aside0.mk (bM BK121.out hb);have n1_:=Aside0.mk (bM BK122.out hb);have n2_:=Aside0.mk (below_step (bS2 GE121.out GE122.out) hb);clear BK121 BK122 HB;have BK121:=n0_;have BK122:=n1_;have HB:=n2_;clear n0_ n1_ n2_;(try clear hb);(try clear hb2);(try clear hk);(try clear hi);obtain⟨hcz21_0,hcz21_1,hcz21_2⟩:=cC3 BK121.out;obtain⟨hfz21_0,hfz21_1,hfz21_2⟩:=cF3 BK121.out;obtain⟨hcz22_0,hcz22_1,hcz22_2⟩:=cC3 BK122.out;obtain⟨hfz22_0,hfz22_1,hfz22_2⟩:=cF3 BK122.out))
    go_ret
    exact⟨bE,bS2 GE121.out GE122.out⟩
  ·replace c5:=Bool.eq_false_iff.mpr c5
   subst c5
   have H1:(some false)=some r:=by rw[if_neg (show ¬ (false=true) by decide)] at H;exact H
   clear H
   have H:=H1
   clear H1
   obtain rfl:=Option.some.inj H
   go_enter Try.func7,Try.ntmps7
   go_wp2_with (first|((with_reducible refine gate_dst (N:=2) rfl ?_);refine box_event ?hg (N:=2) ?hd (cs:=#[.int .i64 a0_0,.slice A0_1 l0_1.length c0_1,.int .i64 a0_2]) (t:=24) ?hr ?_;(case hd=>rfl);(case hg=>rfl);(case hr=>first|(go_simp;done)|(go_simp;rfl));intro gb121 hg w23 hbox hb;have n0_:=Aside0.mk (below_step (bB) hb);have n1_:=Aside0.mk (hbox);have n2_:=Aside0.mk ((bG:w.heap.size≤gb121));have n3_:=Aside0.mk ((bG:w.heap.size≤gb121));clear HB;have HB:=n0_;have BK121:=n1_;have GW121:=n2_;have GE121:=n3_;clear n0_ n1_ n2_ n3_;clear hb hbox hg)|((with_reducible refine gate_dst (N:=3) rfl ?_);refine box_event ?hg (N:=3) ?hd (cs:=#[.int .i64 a1_0,.slice A1_1 l1_1.length c1_1,.int .i64 a1_2]) (t:=24) ?hr ?_;(case hd=>rfl);(case hg=>rfl);(case hr=>first|(go_simp;done)|(go_simp;rfl));intro gb122 hg w24 hbox hb;have n0_:=Aside0.mk (bM BK121.out hb);have n1_:=Aside0.mk (below_step (bS GE121.out) hb);have n2_:=Aside0.mk (hbox);have n3_:=Aside0.mk ((by rw[hg];exact(below_size (bS GE121.out)):w.heap.size≤gb122));have n4_:=Aside0.mk ((by rw[hg];exact(below_size (bS GE121.out)):w.heap.size≤gb122));have n5_:=Aside0.mk ((bN BK121.out hg:gb121≠gb122));have n6_:=Aside0.mk ((bO BK121.out hg:gb122≠gb121));clear BK121 HB;have BK121:=n0_;have HB:=n1_;have BK122:=n2_;have GW122:=n3_;have GE122:=n4_;have NB121_122:=n5_;have NB122_121:=n6_;clear n0_ n1_ n2_ n3_ n4_ n5_ n6_;clear hb hbox hg;have hnb25:=NB121_122.out;have hnc25:=NB122_121.out;obtain⟨hcz26_0,hcz26_1,hcz26_2⟩:=cC3 BK121.out;obtain⟨hfz26_0,hfz26_1,hfz26_2⟩:=cF3 BK121.out;obtain⟨hcz27_0,hcz27_1,hcz27_2⟩:=cC3 BK122.out;obtain⟨hfz27_0,hfz27_1,hfz27_2⟩:=cF3 BK122.out)|((with_reducible refine gate_callee (f:=18) rfl ?_);refine goesA (some 14) rfl rfl Try.func18 #[.slice A0_1 l0_1.length c0_1,.slice A1_1 l1_1.length c1_1] rfl ?_;(with_reducible refine(laws_eqQueueS.calls k _ _ l0_1 _ _ l1_1 false _ ?side1 ?side2 ?side3 ?side4 A4.out).mono ?_);(case side1=>exact bC HR0_1.out);(case side2=>exact HC0_1.out);(case side3=>exact bC HR1_1.out);(case side4=>exact HC1_1.out);rintro e w28 ⟨rfl,hb⟩;refine⟨_,rfl,?_⟩;have n0_:=Aside0.mk (bM BK121.out hb);have n1_:=Aside0.mk (bM BK122.out hb);have n2_:=Aside0.mk (below_step (bS2 GE121.out GE122.out) hb);clear BK121 BK122 HB;have BK121:=n0_;have BK122:=n1_;have HB:=n2_;clear n0_ n1_ n2_;(try clear hb);(try clear hb2);(try clear hk);(try clear hi)))
   go_ret
   exact⟨bE,bS2 GE121.out GE122.out⟩
 ·rw[if_neg c3] at H
  have c3b0:(a0_0 == a1_0)=false:=beq_eq_false_iff_ne.mpr c3
  have c3b1:(a0_0 != a1_0)=true:=bne_iff_ne.mpr c3
  obtain rfl:=Option.some.inj H
  go_enter Try.func7,Try.ntmps7
  go_wp2_with (first|((with_reducible refine gate_dst (N:=2) rfl ?_);refine box_event ?hg (N:=2) ?hd (cs:=#[.int .i64 a0_0,.slice A0_1 l0_1.length c0_1,.int .i64 a0_2]) (t:=24) ?hr ?_;(case hd=>rfl);(case hg=>rfl);(case hr=>first|(go_simp;done)|(go_simp;rfl));intro gb121 hg w29 hbox hb;have n0_:=Aside0.mk (below_step (bB) hb);have n1_:=Aside0.mk (hbox);have n2_:=Aside0.mk ((bG:w.heap.size≤gb121));have n3_:=Aside0.mk ((bG:w.heap.size≤gb121));clear HB;have HB:=n0_;have BK121:=n1_;have GW121:=n2_;have GE121:=n3_;clear n0_ n1_ n2_ n3_;clear hb hbox hg)|((with_reducible refine gate_dst (N:=3) rfl ?_);refine box_event ?hg (N:=3) ?hd (cs:=#[.int .i64 a1_0,.slice A1_1 l1_1.length c1_1,.int .i64 a1_2]) (t:=24) ?hr ?_;(case hd=>rfl);(case hg=>rfl);(case hr=>first|(go_simp;done)|(go_simp;rfl));intro gb122 hg w30 hbox hb;have n0_:=Aside0.mk (bM BK121.out hb);have n1_:=Aside0.mk (below_step (bS GE121.out) hb);have n2_:=Aside0.mk (hbox);have n3_:=Aside0.mk ((by rw[hg];exact(below_size (bS GE121.out)):w.heap.size≤gb122));have n4_:=Aside0.mk ((by rw[hg];exact(below_size (bS GE121.out)):w.heap.size≤gb122));have n5_:=Aside0.mk ((bN BK121.out hg:gb121≠gb122));have n6_:=Aside0.mk ((bO BK121.out hg:gb122≠gb121));clear BK121 HB;have BK121:=n0_;have HB:=n1_;have BK122:=n2_;have GW122:=n3_;have GE122:=n4_;have NB121_122:=n5_;have NB122_121:=n6_;clear n0_ n1_ n2_ n3_ n4_ n5_ n6_;clear hb hbox hg;have hnb31:=NB121_122.out;have hnc31:=NB122_121.out;obtain⟨hcz32_0,hcz32_1,hcz32_2⟩:=cC3 BK121.out;obtain⟨hfz32_0,hfz32_1,hfz32_2⟩:=cF3 BK121.out;obtain⟨hcz33_0,hcz33_1,hcz33_2⟩:=cC3 BK122.out;obtain⟨hfz33_0,hfz33_1,hfz33_2⟩:=cF3 BK122.out))
  go_ret
  exact⟨bE,bS2 GE121.out GE122.out⟩

/-! ### laws_markIntS: function 35 -/
def laws_markIntS.l0:Nat→List Int→Int→Int→Option (Int × List Int)
 | 0,_,_,_=>none
 | k+1,x0,x1,x5=>if x5 < (x0.length:Int) then (if 0≤x5 then (laws_markIntS.l0 k (x0.set (x5:Int).toNat x1) (wrap64 (x1+1)) (wrap64 (x5+1))) else (none)) else (some (x1,x0))
def laws_markIntS.f (k:Nat) (l0:List Int) (a1:Int):Option (Int × List Int):=laws_markIntS.l0 k l0 a1 0
theorem laws_markIntS.mono_l : ∀ k,(∀ y0 y1 y2,LeO (laws_markIntS.l0 k y0 y1 y2) (laws_markIntS.l0 (k+1) y0 y1 y2))
 | 0=>fun _ _ _ r h=>by simp[laws_markIntS.l0] at h
 | k+1=>by
  have ih0:=laws_markIntS.mono_l k
  ·intro y0 y1 y2
   unfold laws_markIntS.l0
   repeat' first
   | (with_reducible exact ih0 _ _ _)
   | (with_reducible exact LeO.refl _)
   | (with_reducible exact LeO.none _)
   | (with_reducible refine LeO.ite ?_ ?_)
   | (with_reducible refine LeO.bind ?_ (fun _ => ?_))
   | exact ih0 _ _ _
   | exact LeO.none _
   | refine LeO.ite ?_ ?_
   | refine LeO.bind ?_ (fun _ => ?_)
theorem laws_markIntS.mono : ∀ a0 a1 k,LeO (laws_markIntS.f k a0 a1) (laws_markIntS.f (k+1) a0 a1):=by
 intro a0 a1 k
 have ih0:=laws_markIntS.mono_l k
 unfold laws_markIntS.f
 repeat' first
  | (with_reducible exact ih0 _ _ _)
  | (with_reducible exact LeO.refl _)
  | (with_reducible exact LeO.none _)
  | (with_reducible refine LeO.ite ?_ ?_)
  | (with_reducible refine LeO.bind ?_ (fun _ => ?_))
  | exact ih0 _ _ _
  | exact LeO.none _
  | refine LeO.ite ?_ ?_
  | refine LeO.bind ?_ (fun _ => ?_)
set_option maxHeartbeats 8000000 in
set_option maxRecDepth 100000 in
theorem laws_markIntS.calls (k:Nat) (P0_:Nat→Prop) (u9000_:Value) (l0:List Int) (a1:Int) (r1:Int) (r2:List Int) (w0 w:World) (hB:Below w0.heap.size w0 w) (ho0:Kd.R (Kd.int .i64) 3 w w0.heap.size P0_ u9000_ l0) (h:laws_markIntS.f k l0 a1=some (r1,r2)) :
  Calls Try.prog 35 #[u9000_,.int .i64 a1] w fun e w'=>e=.returned (.int .i64 r1)∧Kd.R (Kd.int .i64) 3 w' w0.heap.size (fun k_=>(P0_ k_∨w.heap.size≤k_)) u9000_ r2∧Below w0.heap.size w0 w'∧Kept w w' (fun k_=>P0_ k_):=by
 have HO0:=Aside0.mk (show Kd.R (Kd.int .i64) 3 w w0.heap.size (fun k_=>(P0_ k_∨w.heap.size≤k_)) u9000_ l0 from Kd.R_mono ho0 (fun k_ hk=>(.inl hk)))
 have HK:=Aside0.mk (Kept.refl w (fun k_=>P0_ k_))
 have HW0:=Aside0.mk hB.size
 have HB:=Aside0.mk hB
 clear hB
 have H:(laws_markIntS.l0 k l0 a1 0)=some (r1,r2):=h
 clear h
 have H':=Aside0.mk H
 clear H
 go_enter Try.func35,Try.ntmps35
 go_wp2
 go_loopg [1,5] k (fun kq v1 v5 w' => ∃ (x0_1:List Int) (x1_1:Int) (x5_1:Int),v1=.int .i64 x1_1∧v5=.int .i64 x5_1∧Aside0 (laws_markIntS.l0 kq x0_1 x1_1 x5_1=some (r1,r2))∧Aside0 (kq≤k)∧Aside0 (Kd.R (Kd.int .i64) 3 w' w0.heap.size (fun k_=>(P0_ k_∨w.heap.size≤k_)) u9000_ x0_1)∧Aside0 (Kept w w' (fun k_=>P0_ k_))∧Aside0 (Below w0.heap.size w0 w'))
 case atStart=>exact⟨(l0),(a1),(0),(bR),(bR),H',⟨Nat.le_refl _⟩,⟨by(with_reducible repeat (first|apply Kd.R_alloc|apply Kd.R_drewN|apply Kd.R_drew));exact HO0.out⟩,⟨by repeat (first|(with_reducible first|exact HK.out|apply Kept.alloc|apply Kept.drewN|apply Kept.drew)|exact HK.out)⟩,⟨by repeat (first|(with_reducible first|exact HB.out|apply below_alloc|apply pw_below_drewN|apply below_drew1)|exact HB.out)⟩⟩
 case round =>
  clear H'
  try clear p2
  obtain⟨x0_1,x1_1,x5_1,rfl,rfl,HA,HK1,HO_0,HK,HB⟩:=hrel
  cases gk with
  | zero=>exact absurd HA.out (by simp[laws_markIntS.l0])
  | succ k1 =>
   have H:=HA.out
   clear HA
   simp only[laws_markIntS.l0] at H
   by_cases c3:x5_1 < (x0_1.length:Int)
   ·rw[if_pos c3] at H
    have c3b0:decide (x5_1 < (x0_1.length:Int))=true:=decide_eq_true c3
    clear c3
    by_cases c4:0≤x5_1
    ·rw[if_pos c4] at H
     have c4b0:decide (0≤x5_1)=true:=decide_eq_true c4
     clear c4
     obtain⟨y124,hy124⟩ : ∃ y_:List Int,y_=(x0_1.set (x5_1:Int).toNat x1_1):=⟨_,rfl⟩
     replace H:(laws_markIntS.l0 k1 y124 (wrap64 (x1_1+1)) (wrap64 (x5_1+1)))=some (r1,r2):=by first|(rw[hy124];with_reducible exact H)|(have H2_:=(Option.bind_some _ _).symm.trans H;rw[hy124];with_reducible exact H2_)|(have H2_:=(Option.bind_some _ _).symm.trans H;with_reducible exact H2_)|with_reducible exact H|(rw[hy124];exact H)|exact H
     have Ny124:=Aside0.mk hy124
     clear hy124
     have H':=Aside0.mk H
     clear H
     obtain⟨Ao6,co6,eo6⟩:=Kd.R_slice HO_0.out
     subst eo6
     have p5:0≤(x5_1:Int):=of_decide_eq_true (bD)
     have q5:(x5_1:Int) < ((x0_1.length:Int):Int):=of_decide_eq_true (bD)
     obtain⟨go5,co5,eo5,gb5,gl5,cl5,HG5⟩:=Kd.R_form HO_0.out (by omega)
     (first|cases eo5|(injection eo5 with ea_ en_ ec_;(first|subst ea_|(injection ea_ with ea_;subst ea_));subst ec_;clear en_))
     have GB5:=Aside0.mk gb5
     have GG5:=Aside0.mk HG5
     clear gb5 gl5 HG5
     have HMgo5:=Aside0.mk (show(P0_ go5∨w.heap.size≤go5) from (HO_0.out.1 _ rfl))
     obtain⟨hx5_0,hf5_0⟩:=Kd.R_celln 0 HO_0.out (x5_1:Int) p5 q5
     replace p5:=eq_true p5
     replace q5:=eq_true q5
     have HP7:=Kd.R_putg HO_0.out (x5_1:Int) x1_1
     go_wp2_with (first|((with_reducible refine gate_store (t:=3) (p:=15) rfl ?_);refine store_event (t:=3) (p:=15) (v:=?vo_w8) (w1:=(wr.setCell ⟨go5,(x5_1:Int).toNat,none⟩ (.int .i64 x1_1))) ?hg ?ho ?hn ?hr ?_;(case ho=>rfl);(case hg=>rfl);(case hn=>rfl);(case hr=>first|(go_simp;done)|(go_simp;rfl));intro w8 hw;have hg:wr.grownBy w8 (some go5):=(by rw[hw];exact HP7.2);have hp_:Kd.R (Kd.int .i64) 3 w8 w0.heap.size (fun k_=>(P0_ k_∨w.heap.size≤k_)) (.slice (some ⟨go5,0,none⟩) x0_1.length co6) y124:=(by rw[hw,Ny124.out];exact HP7.1);clear HP7;have n0_:=Aside0.mk (hp_);have n1_:=Aside0.mk ((by rw[hw];exact below_set (HB.out) GB5.out:Below w0.heap.size w0 w8));have n2_:=Aside0.mk (Kept.of_grown (S:=(fun k_=>P0_ k_)) hg (by repeat (first|(with_reducible first|exact HK.out|apply Kept.alloc|apply Kept.drewN|apply Kept.drew)|exact HK.out)) (fun k_ e_=>(HO_0.out.1 k_ e_)));clear HO_0 HB HK;have HO_0:=n0_;have HB:=n1_;have HK:=n2_;clear n0_ n1_ n2_;clear hg hw hp_))
     go_roundg k1
     case measure=>have:=HK1.out;omega
     case rel=>exact⟨(y124),(wrap64 (x1_1+1)),(wrap64 (x5_1+1)),(bR),(bR),H',⟨by have:=HK1.out;omega⟩,⟨by(with_reducible repeat (first|apply Kd.R_alloc|apply Kd.R_drewN|apply Kd.R_drew));exact HO_0.out⟩,⟨by repeat (first|(with_reducible first|exact HK.out|apply Kept.alloc|apply Kept.drewN|apply Kept.drew)|exact HK.out)⟩,⟨by repeat (first|(with_reducible first|exact HB.out|apply below_alloc|apply pw_below_drewN|apply below_drew1)|exact HB.out)⟩⟩
    ·rw[if_neg c4] at H
     exact absurd H (by simp)
   ·rw[if_neg c3] at H
    have c3b0:decide (x5_1 < (x0_1.length:Int))=false:=decide_eq_false c3
    clear c3
    simp only[Option.some.injEq,Prod.mk.injEq] at H
    obtain⟨rfl,rfl⟩:=H
    obtain⟨Ao9,co9,eo9⟩:=Kd.R_slice HO_0.out
    subst eo9
    go_wp2
    go_ret
    exact⟨bE,by(with_reducible repeat (first|apply Kd.R_alloc|apply Kd.R_drewN|apply Kd.R_drew));exact HO_0.out,by repeat (first|(with_reducible first|exact HB.out|apply below_alloc|apply pw_below_drewN|apply below_drew1)|exact HB.out),by repeat (first|(with_reducible first|exact HK.out|apply Kept.alloc|apply Kept.drewN|apply Kept.drew)|exact HK.out)⟩

/-! ### laws_markQueueS: function 19, by hand -/
def laws_markQueueS.l0:Nat→List (S61)→Int→Int→Option (Int × (List (S61)))
 | 0,_,_,_=>none
 | k+1,x0,x1,x5=>if x5 < (x0.length:Int) then (if 0≤x5 then ((laws_markIntS.f k (rd_T61 x0 x5).f0 x1).bind fun bt=>(laws_markQueueS.l0 k (x0.set (x5:Int).toNat (⟨bt.2,bt.1,wrap64 (bt.1+1)⟩:S61)) (wrap64 ((wrap64 (bt.1+1))+1)) (wrap64 (x5+1)))) else (none)) else (some (x1,x0))
def laws_markQueueS.f (k:Nat) (l0:List (S61)) (a1:Int):Option (Int × (List (S61))):=laws_markQueueS.l0 k l0 a1 0
/-- Element i of a row of queues: its own row, written, and two of its cells, stored into. -/
theorem markQ_step {W:World} {base:Nat} {ok:Nat→Prop} {g n cap:Nat} {xs:List S61} (h:Kd.S k61 61 W base ok (.slice (some ⟨g,0,none⟩) n cap) xs) (i:Int) (h0:0≤i) (h1:i < n) :
  ∃ v,W.cell? ⟨g,i.toNat * 3,none⟩=some v∧Kd.R (Kd.int .i64) 3 W base (fun k=>some k=v.ownBlock) v (rd_T61 xs i).f0∧(∀ k,v.ownBlock=some k→ok k) ∧
   ∀ (W1:World) (ys:List Int),W.grownBy W1 v.ownBlock→(∃ ok1,Kd.R (Kd.int .i64) 3 W1 base ok1 v ys) →
    W1.cell? ⟨g,i.toNat * 3+1,none⟩=some (.int .i64 (rd_T61 xs i).f1)∧W1.cell? ⟨g,i.toNat * 3+2,none⟩=some (.int .i64 (rd_T61 xs i).f2)∧W1.frozen? ⟨g,i.toNat * 3+1,none⟩=false∧W1.frozen? ⟨g,i.toNat * 3+2,none⟩=false ∧
    ∀ a b:Int,Kd.S k61 61 ((W1.setCell ⟨g,i.toNat * 3+1,none⟩ (.int .i64 a)).setCell ⟨g,i.toNat * 3+2,none⟩ (.int .i64 b)) base ok (.slice (some ⟨g,0,none⟩) n cap) (xs.set i.toNat ⟨ys,a,b⟩):=by
 obtain⟨oki,c,hcl,hM,hcc,hfr,hok,hH⟩:=Kd.S_elem h z61 i h0 h1
 have hn:=(Kd.S_reads' h).1
 obtain⟨v,rfl,hv⟩:=k61_openM hM
 refine⟨v,hcc 0 _ rfl,Kd.R_tight rfl hv,fun k hk=>(hok k (hv.1 k hk)).1,fun W1 ys hg hy => ?_⟩
 obtain⟨ok1,hy⟩:=hy
 have hS1:=Kd.H_back (Kd.H_grown hH hg (fun k e=>hv.1 k e)) (k61_mkM W1 base oki (⟨ys,(rd_T61 xs i).f1,(rd_T61 xs i).f2⟩:S61) (Kd.R_reok rfl hy hv.1)) (fun _ hk=>hk)
 obtain⟨oki',c',hcl',hM',hcc',hfr',hok',hH'⟩:=Kd.S_elem hS1 z61 i h0 h1
 have e:(xs.set i.toNat (⟨ys,(rd_T61 xs i).f1,(rd_T61 xs i).f2⟩:S61)).getD i.toNat z61=⟨ys,(rd_T61 xs i).f1,(rd_T61 xs i).f2⟩:=by
  rw[List.getD_eq_getElem?_getD,List.getElem?_set_self (by omega)]
  rfl
 rw[e] at hM'
 obtain⟨v',rfl,hv'⟩:=k61_openM hM'
 refine⟨hcc' 1 _ rfl,hcc' 2 _ rfl,hfr' 1,hfr' 2,fun a b => ?_⟩
 have hS2:=(Kd.S_seg0 hH' h0 h1 (seg:=[.int .i64 a,.int .i64 b]) (j:=1) (show 3≤3 from Nat.le_refl _) (x':=(⟨ys,a,b⟩:S61)) (k61_mkM W1 base oki' (⟨ys,a,b⟩:S61) hv') (fun _ hk=>hk)).1
 rw[List.set_set] at hS2
 exact hS2
theorem grown_of_kept {w0 W W1:World} {row:Option Nat} (h0:Below w0.heap.size w0 W) (h1:Below w0.heap.size w0 W1) (hk:Kept W W1 (fun k=>some k=row)):W.grownBy W1 row :=
 ⟨h1.os.trans h0.os.symm,h1.tape.trans h0.tape.symm,h1.output.trans h0.output.symm,hk.1,fun k hk2 hne=>hk.2 k hk2 hne⟩
theorem laws_markQueueS.mono_l : ∀ k,(∀ y0 y1 y2,LeO (laws_markQueueS.l0 k y0 y1 y2) (laws_markQueueS.l0 (k+1) y0 y1 y2))
 | 0=>fun _ _ _ r h=>by simp[laws_markQueueS.l0] at h
 | k+1=>by
  have ih0:=laws_markQueueS.mono_l k
  intro y0 y1 y2
  unfold laws_markQueueS.l0
  repeat' first
  | exact ih0 _ _ _
  | exact laws_markIntS.mono _ _ _
  | exact LeO.refl _
  | exact LeO.none _
  | refine LeO.ite ?_ ?_
  | refine LeO.bind ?_ (fun _ => ?_)
theorem laws_markQueueS.mono : ∀ a0 a1 k,LeO (laws_markQueueS.f k a0 a1) (laws_markQueueS.f (k+1) a0 a1):=fun a0 a1 k=>laws_markQueueS.mono_l k a0 a1 0
set_option maxHeartbeats 8000000 in
set_option maxRecDepth 100000 in
theorem laws_markQueueS.calls (k:Nat) (ok:Nat→Prop) (u9000_:Value) (l0:List (S61)) (a1:Int) (r1:Int) (r2:List (S61)) (w0 w:World) (hB:Below w0.heap.size w0 w) (ho0:Kd.S k61 61 w w0.heap.size ok u9000_ l0) (h:laws_markQueueS.f k l0 a1=some (r1,r2)) :
  Calls Try.prog 19 #[u9000_,.int .i64 a1] w fun e w'=>e=.returned (.int .i64 r1)∧Kd.S k61 61 w' w0.heap.size ok u9000_ r2∧Below w0.heap.size w0 w'∧Kept w w' ok:=by
 have HO0:=Aside0.mk ho0
 have HB:=Aside0.mk hB
 have HK:=Aside0.mk (Kept.refl w ok)
 clear hB ho0
 have H:(laws_markQueueS.l0 k l0 a1 0)=some (r1,r2):=h
 clear h
 have H':=Aside0.mk H
 clear H
 go_enter Try.func19,Try.ntmps19
 go_wp2
 go_loopg [1,5] k (fun kq v1 v5 w' => ∃ (x0_1:List (S61)) (x1_1:Int) (x5_1:Int),v1=.int .i64 x1_1∧v5=.int .i64 x5_1∧Aside0 (laws_markQueueS.l0 kq x0_1 x1_1 x5_1=some (r1,r2))∧Aside0 (kq≤k)∧Aside0 (Kd.S k61 61 w' w0.heap.size ok u9000_ x0_1)∧Aside0 (Kept w w' ok)∧Aside0 (Below w0.heap.size w0 w'))
 case atStart=>exact⟨(l0),(a1),(0),(bR),(bR),H',⟨Nat.le_refl _⟩,⟨by(with_reducible repeat (first|apply Kd.S_alloc|apply Kd.S_drewN|apply Kd.S_drew));exact HO0.out⟩,⟨by repeat (first|(with_reducible first|exact HK.out|apply Kept.alloc|apply Kept.drewN|apply Kept.drew)|exact HK.out)⟩,⟨by repeat (first|(with_reducible first|exact HB.out|apply below_alloc|apply pw_below_drewN|apply below_drew1)|exact HB.out)⟩⟩
 case round =>
  clear H'
  try clear p2
  obtain⟨x0_1,x1_1,x5_1,rfl,rfl,HA,HK1,HO_0,HK,HB⟩:=hrel
  cases gk with
  | zero=>exact absurd HA.out (by simp[laws_markQueueS.l0])
  | succ k1 =>
   have H:=HA.out
   clear HA
   simp only[laws_markQueueS.l0] at H
   by_cases c3:x5_1 < (x0_1.length:Int)
   ·rw[if_pos c3] at H
    have c3b0:decide (x5_1 < (x0_1.length:Int))=true:=decide_eq_true c3
    clear c3
    by_cases c4:0≤x5_1
    ·rw[if_pos c4] at H
     have c4b0:decide (0≤x5_1)=true:=decide_eq_true c4
     clear c4
     replace H:=Option.bind_eq_some_iff.mp H
     obtain⟨⟨t1,t2⟩,A50,H⟩:=H
     have A5:=Aside0.mk A50
     clear A50
     have H':=Aside0.mk H
     clear H
     obtain⟨Ao6,co6,eo6⟩:=Kd.S_slice HO_0.out
     subst eo6
     have p5:0≤(x5_1:Int):=of_decide_eq_true (bD)
     have q5:(x5_1:Int) < ((x0_1.length:Int):Int):=of_decide_eq_true (bD)
     obtain⟨go5,co5,eo5,gb5,gl5,cl5,HG5⟩:=Kd.S_form HO_0.out (by omega)
     (first|cases eo5|(injection eo5 with ea_ en_ ec_;(first|subst ea_|(injection ea_ with ea_;subst ea_));subst ec_;clear en_))
     have GB5:=Aside0.mk gb5
     clear gb5 gl5 HG5
     have HG5:Aside0 (ok go5):=Aside0.mk ((Kd.S_R HO_0.out).1 _ rfl)
     obtain⟨vi,hx5_0,hR5,hok5,hst5⟩:=markQ_step HO_0.out (x5_1:Int) p5 q5
     obtain⟨Ai,ci,ei⟩:=Kd.R_slice hR5
     subst ei
     have HR5:=Aside0.mk hR5
     have HS5:=Aside0.mk hst5
     have HOK5:=Aside0.mk hok5
     clear hR5 hst5 hok5
     replace p5:=eq_true p5
     replace q5:=eq_true q5
     go_wp2_with (first|((with_reducible refine gate_callee (f:=35) rfl ?_);refine goesA (some 18) rfl rfl Try.func35 #[.slice Ai (rd_T61 x0_1 x5_1).f0.length ci,.int .i64 x1_1] rfl ?_;(with_reducible refine(laws_markIntS.calls k1 (fun k_=>some k_=(.slice Ai (rd_T61 x0_1 x5_1).f0.length ci:Value).ownBlock) (.slice Ai (rd_T61 x0_1 x5_1).f0.length ci) (rd_T61 x0_1 x5_1).f0 x1_1 t1 t2 w0 _ ?side1 ?side2 A5.out).mono ?_);(case side1=>exact HB.out);(case side2=>exact HR5.out);rintro e w12 ⟨rfl,hy,hb,hkp⟩;refine⟨_,rfl,?_⟩;obtain⟨hx1,hx2,hf1,hf2,hfin⟩:=HS5.out w12 t2 (grown_of_kept HB.out hb hkp) ⟨_,hy⟩;have n0_:=Aside0.mk hb;have n1_:Aside0 (Kept w w12 ok):=Aside0.mk (Kept.then_ HK.out hkp (fun k_ hk_=>.inl (HOK5.out k_ hk_.symm)));have HF:=Aside0.mk hfin;clear HB HK hb hkp hfin;have HB:=n0_;have HK:=n1_;clear n0_ n1_ hy))
     go_roundg k1
     case measure=>have:=HK1.out;omega
     case rel=>exact⟨_,(wrap64 ((wrap64 (t1+1))+1)),(wrap64 (x5_1+1)),(bR),(bR),H',⟨by have:=HK1.out;omega⟩,⟨HF.out _ _⟩,⟨Kept.setCell (Kept.setCell HK.out (.inl HG5.out) _) (.inl HG5.out) _⟩,⟨below_set (below_set HB.out GB5.out) GB5.out⟩⟩
    ·rw[if_neg c4] at H
     exact absurd H (by simp)
   ·rw[if_neg c3] at H
    have c3b0:decide (x5_1 < (x0_1.length:Int))=false:=decide_eq_false c3
    clear c3
    simp only[Option.some.injEq,Prod.mk.injEq] at H
    obtain⟨rfl,rfl⟩:=H
    obtain⟨Ao9,co9,eo9⟩:=Kd.S_slice HO_0.out
    subst eo9
    go_wp2
    go_ret
    exact⟨bE,by(with_reducible repeat (first|apply Kd.S_alloc|apply Kd.S_drewN|apply Kd.S_drew));exact HO_0.out,by repeat (first|(with_reducible first|exact HB.out|apply below_alloc|apply pw_below_drewN|apply below_drew1)|exact HB.out),by repeat (first|(with_reducible first|exact HK.out|apply Kept.alloc|apply Kept.drewN|apply Kept.drew)|exact HK.out)⟩


/-! ### laws_markTurns: function 8, by hand -/
def laws_markTurns.f (k:Nat) (a0_0:Int) (l0_1:List (S61)) (a0_2:Int) (a1:Int):Option (Int × (List (S61))):=laws_markQueueS.f k l0_1 a1
theorem laws_markTurns.mono : ∀ a0 a1 a2 a3 k,LeO (laws_markTurns.f k a0 a1 a2 a3) (laws_markTurns.f (k+1) a0 a1 a2 a3):=fun _ a1 _ a3 k=>laws_markQueueS.mono a1 a3 k
set_option maxHeartbeats 8000000 in
set_option maxRecDepth 100000 in
theorem laws_markTurns.calls (k:Nat) (ok:Nat→Prop) (u9000_:Value) (a0_0:Int) (l0_1:List (S61)) (a0_2:Int) (a1:Int) (r1:Int) (r2:List (S61)) (w0 w:World) (hB:Below w0.heap.size w0 w) (ho0:Kd.S k61 61 w w0.heap.size ok u9000_ l0_1) (h:laws_markTurns.f k a0_0 l0_1 a0_2 a1=some (r1,r2)) :
  Calls Try.prog 8 #[.agg #[.int .i64 a0_0,u9000_,.int .i64 a0_2],.int .i64 a1] w fun e w'=>e=.returned (.int .i64 r1)∧Kd.S k61 61 w' w0.heap.size ok u9000_ r2∧Below w0.heap.size w0 w'∧Kept w w' ok:=by
 obtain⟨A0,c0,e0⟩:=Kd.S_slice ho0
 subst e0
 have HO:=Aside0.mk ho0
 have HB:=Aside0.mk hB
 have HL:=Aside0.mk (below_size hB)
 have HA:=Aside0.mk (show laws_markQueueS.f k l0_1 a1=some (r1,r2) from h)
 clear hB ho0 h
 go_enter Try.func8,Try.ntmps8
 go_wp2_with (first|((with_reducible refine gate_dst (N:=2) rfl ?_);refine box_event ?hg (N:=2) ?hd (cs:=#[.int .i64 a0_0,.slice A0 l0_1.length c0,.int .i64 a0_2]) (t:=24) ?hr ?_;(case hd=>rfl);(case hg=>rfl);(case hr=>first|(go_simp;done)|(go_simp;rfl));intro gb2 hg w6 hbox hb;have n0_:=Aside0.mk (Kd.S_below HO.out hb);have n1_:=Aside0.mk (below_weaken HB.out HL.out hb);have HK:=Aside0.mk (Kept.of_below hb ok);have hcz1:w6.cell? ⟨gb2,1,none⟩=some (.slice A0 l0_1.length c0):=(blk_cell hbox 1).trans rfl;clear HO HB hb hbox hg;have HO:=n0_;have HB:=n1_;clear n0_ n1_)|((with_reducible refine gate_callee (f:=19) rfl ?_);refine goesA (some 8) rfl rfl Try.func19 #[.slice A0 l0_1.length c0,.int .i64 a1] rfl ?_;(with_reducible refine(laws_markQueueS.calls k ok (.slice A0 l0_1.length c0) l0_1 a1 r1 r2 w0 _ ?side1 ?side2 HA.out).mono ?_);(case side1=>exact HB.out);(case side2=>exact HO.out);rintro e w7 ⟨rfl,ho,hb,hkp⟩;refine⟨_,rfl,?_⟩;have n0_:=Aside0.mk ho;have n1_:=Aside0.mk hb;have n2_:Aside0 (Kept w w7 ok):=Aside0.mk (Kept.then_ HK.out hkp (fun _ h_=>.inl h_));clear HO HB HK ho hb hkp;have HO:=n0_;have HB:=n1_;have HK:=n2_;clear n0_ n1_ n2_))
 go_ret
 exact⟨bE,HO.out,HB.out,HK.out⟩


/-! ### laws_heldIntS: function 36 -/
def laws_heldIntS.l0:Nat→List Int→Int→Int→Option (Int)
 | 0,_,_,_=>none
 | k+1,x0,x1,x5=>if x5 < (x0.length:Int) then (if 0≤x5 then (if (rd x0 x5)=x1 then (laws_heldIntS.l0 k x0 (wrap64 (x1+1)) (wrap64 (x5+1))) else (some (-1))) else (none)) else (some x1)
def laws_heldIntS.f (k:Nat) (l0:List Int) (a1:Int):Option (Int):=laws_heldIntS.l0 k l0 a1 0
theorem laws_heldIntS.mono_l : ∀ k,(∀ y0 y1 y2,LeO (laws_heldIntS.l0 k y0 y1 y2) (laws_heldIntS.l0 (k+1) y0 y1 y2))
 | 0=>fun _ _ _ r h=>by simp[laws_heldIntS.l0] at h
 | k+1=>by
  have ih0:=laws_heldIntS.mono_l k
  ·intro y0 y1 y2
   unfold laws_heldIntS.l0
   repeat' first
   | (with_reducible exact ih0 _ _ _)
   | (with_reducible exact LeO.refl _)
   | (with_reducible exact LeO.none _)
   | (with_reducible refine LeO.ite ?_ ?_)
   | (with_reducible refine LeO.bind ?_ (fun _ => ?_))
   | exact ih0 _ _ _
   | exact LeO.none _
   | refine LeO.ite ?_ ?_
   | refine LeO.bind ?_ (fun _ => ?_)
theorem laws_heldIntS.mono : ∀ a0 a1 k,LeO (laws_heldIntS.f k a0 a1) (laws_heldIntS.f (k+1) a0 a1):=by
 intro a0 a1 k
 have ih0:=laws_heldIntS.mono_l k
 unfold laws_heldIntS.f
 repeat' first
  | (with_reducible exact ih0 _ _ _)
  | (with_reducible exact LeO.refl _)
  | (with_reducible exact LeO.none _)
  | (with_reducible refine LeO.ite ?_ ?_)
  | (with_reducible refine LeO.bind ?_ (fun _ => ?_))
  | exact ih0 _ _ _
  | exact LeO.none _
  | refine LeO.ite ?_ ?_
  | refine LeO.bind ?_ (fun _ => ?_)
set_option maxHeartbeats 8000000 in
set_option maxRecDepth 100000 in
theorem laws_heldIntS.calls (k:Nat) (A0:Option Addr) (c0:Nat) (l0:List Int) (a1:Int) (r:Int) (w:World) (hr0:Kd.C (Kd.int .i64) w A0 l0.length l0) (hc0:l0.length≤c0) (h:laws_heldIntS.f k l0 a1=some r) :
  Calls Try.prog 36 #[.slice A0 l0.length c0,.int .i64 a1] w fun e w'=>e=.returned (.int .i64 r)∧Drawn0 w w':=by
 have HR0:=Aside0.mk hr0
 have HC0:=Aside0.mk hc0
 clear hr0 hc0
 have H:(laws_heldIntS.l0 k l0 a1 0)=some r:=h
 clear h
 have H':=Aside0.mk H
 clear H
 go_enter Try.func36,Try.ntmps36
 go_wp2
 go_loopg [1,5] k (fun kq v1 v5 w' => ∃ (x1_1:Int) (x5_1:Int),v1=.int .i64 x1_1∧v5=.int .i64 x5_1∧Aside0 (laws_heldIntS.l0 kq l0 x1_1 x5_1=some r)∧Aside0 (kq≤k)∧Drawn0 w w')
 case atStart=>exact⟨(a1),(0),(bR),(bR),H',⟨Nat.le_refl _⟩,bW⟩
 case round =>
  clear H'
  try clear p2
  obtain⟨x1_1,x5_1,rfl,rfl,HA,HK1,⟨m1,rfl⟩⟩:=hrel
  cases gk with
  | zero=>exact absurd HA.out (by simp[laws_heldIntS.l0])
  | succ k1 =>
   have H:=HA.out
   clear HA
   simp only[laws_heldIntS.l0] at H
   by_cases c3:x5_1 < (l0.length:Int)
   ·rw[if_pos c3] at H
    have c3b0:decide (x5_1 < (l0.length:Int))=true:=decide_eq_true c3
    clear c3
    by_cases c4:0≤x5_1
    ·rw[if_pos c4] at H
     have c4b0:decide (0≤x5_1)=true:=decide_eq_true c4
     clear c4
     by_cases c5:(rd l0 x5_1)=x1_1
     ·rw[if_pos c5] at H
      have c5b0:((rd l0 x5_1) == x1_1)=true:=beq_iff_eq.mpr c5
      have c5b1:((rd l0 x5_1) != x1_1)=false:=bne_eq_false_iff_eq.mpr c5
      clear c5
      have H':=Aside0.mk H
      clear H
      have p125:0≤(x5_1:Int):=of_decide_eq_true (bD)
      have q125:x5_1 < (l0.length:Int):=of_decide_eq_true (bD)
      obtain⟨ad125,e125,hx125_0⟩:=Kd.at_int HR0.out x5_1 p125 q125
      cases e125
      replace p125:=eq_true p125
      replace q125:=eq_true q125
      go_wp2
      go_roundg k1
      case measure=>have:=HK1.out;omega
      case rel=>exact⟨(wrap64 (x1_1+1)),(wrap64 (x5_1+1)),(bR),(bR),H',⟨by have:=HK1.out;omega⟩,bW⟩
     ·rw[if_neg c5] at H
      have c5b0:((rd l0 x5_1) == x1_1)=false:=beq_eq_false_iff_ne.mpr c5
      have c5b1:((rd l0 x5_1) != x1_1)=true:=bne_iff_ne.mpr c5
      obtain rfl:=Option.some.inj H
      have p125:0≤(x5_1:Int):=of_decide_eq_true (bD)
      have q125:x5_1 < (l0.length:Int):=of_decide_eq_true (bD)
      obtain⟨ad125,e125,hx125_0⟩:=Kd.at_int HR0.out x5_1 p125 q125
      cases e125
      replace p125:=eq_true p125
      replace q125:=eq_true q125
      go_wp2
      go_ret
      exact⟨bR,bW⟩
    ·rw[if_neg c4] at H
     exact absurd H (by simp)
   ·rw[if_neg c3] at H
    have c3b0:decide (x5_1 < (l0.length:Int))=false:=decide_eq_false c3
    clear c3
    obtain rfl:=Option.some.inj H
    go_wp2
    go_ret
    exact⟨bR,bW⟩

/-! ### laws_heldQueueS: function 20 -/
def laws_heldQueueS.l0:Nat→List (S61)→Int→Int→Option (Int)
 | 0,_,_,_=>none
 | k+1,x0,x1,x5=>if x5 < (x0.length:Int) then (if 0≤x5 then ((laws_heldIntS.f k ((rd_T61 x0 x5).f0) x1).bind fun t127=>(if t127 < 0 then (some (-1)) else (if ((rd_T61 x0 x5).f1)=t127 then (if ((rd_T61 x0 x5).f2)=(wrap64 (t127+1)) then (laws_heldQueueS.l0 k x0 (wrap64 ((wrap64 (t127+1))+1)) (wrap64 (x5+1))) else (some (-1))) else (some (-1))))) else (none)) else (some x1)
def laws_heldQueueS.f (k:Nat) (l0:List (S61)) (a1:Int):Option (Int):=laws_heldQueueS.l0 k l0 a1 0
theorem laws_heldQueueS.mono_l : ∀ k,(∀ y0 y1 y2,LeO (laws_heldQueueS.l0 k y0 y1 y2) (laws_heldQueueS.l0 (k+1) y0 y1 y2))
 | 0=>fun _ _ _ r h=>by simp[laws_heldQueueS.l0] at h
 | k+1=>by
  have ih0:=laws_heldQueueS.mono_l k
  ·intro y0 y1 y2
   unfold laws_heldQueueS.l0
   repeat' first
   | (with_reducible exact ih0 _ _ _)
   | (with_reducible exact laws_heldIntS.mono _ _ _)
   | (with_reducible exact LeO.refl _)
   | (with_reducible exact LeO.none _)
   | (with_reducible refine LeO.ite ?_ ?_)
   | (with_reducible refine LeO.bind ?_ (fun _ => ?_))
   | exact ih0 _ _ _
   | exact laws_heldIntS.mono _ _ _
   | exact LeO.none _
   | refine LeO.ite ?_ ?_
   | refine LeO.bind ?_ (fun _ => ?_)
theorem laws_heldQueueS.mono : ∀ a0 a1 k,LeO (laws_heldQueueS.f k a0 a1) (laws_heldQueueS.f (k+1) a0 a1):=by
 intro a0 a1 k
 have ih0:=laws_heldQueueS.mono_l k
 unfold laws_heldQueueS.f
 repeat' first
  | (with_reducible exact ih0 _ _ _)
  | (with_reducible exact laws_heldIntS.mono _ _ _)
  | (with_reducible exact LeO.refl _)
  | (with_reducible exact LeO.none _)
  | (with_reducible refine LeO.ite ?_ ?_)
  | (with_reducible refine LeO.bind ?_ (fun _ => ?_))
  | exact ih0 _ _ _
  | exact laws_heldIntS.mono _ _ _
  | exact LeO.none _
  | refine LeO.ite ?_ ?_
  | refine LeO.bind ?_ (fun _ => ?_)
set_option maxHeartbeats 8000000 in
set_option maxRecDepth 100000 in
theorem laws_heldQueueS.calls (k:Nat) (A0:Option Addr) (c0:Nat) (l0:List (S61)) (a1:Int) (r:Int) (w:World) (hr0:Kd.C k61 w A0 l0.length l0) (hc0:l0.length≤c0) (h:laws_heldQueueS.f k l0 a1=some r) :
  Calls Try.prog 20 #[.slice A0 l0.length c0,.int .i64 a1] w fun e w'=>e=.returned (.int .i64 r)∧Drawn0 w w':=by
 have HR0:=Aside0.mk hr0
 have HC0:=Aside0.mk hc0
 clear hr0 hc0
 have H:(laws_heldQueueS.l0 k l0 a1 0)=some r:=h
 clear h
 have H':=Aside0.mk H
 clear H
 go_enter Try.func20,Try.ntmps20
 go_wp2
 go_loopg [1,5] k (fun kq v1 v5 w' => ∃ (x1_1:Int) (x5_1:Int),v1=.int .i64 x1_1∧v5=.int .i64 x5_1∧Aside0 (laws_heldQueueS.l0 kq l0 x1_1 x5_1=some r)∧Aside0 (kq≤k)∧Drawn0 w w')
 case atStart=>exact⟨(a1),(0),(bR),(bR),H',⟨Nat.le_refl _⟩,bW⟩
 case round =>
  clear H'
  try clear c2
  try clear p2
  obtain⟨x1_1,x5_1,rfl,rfl,HA,HK1,⟨m1,rfl⟩⟩:=hrel
  cases gk with
  | zero=>exact absurd HA.out (by simp[laws_heldQueueS.l0])
  | succ k1 =>
   have H:=HA.out
   clear HA
   simp only[laws_heldQueueS.l0] at H
   by_cases c3:x5_1 < (l0.length:Int)
   ·rw[if_pos c3] at H
    have c3b0:decide (x5_1 < (l0.length:Int))=true:=decide_eq_true c3
    clear c3
    by_cases c4:0≤x5_1
    ·rw[if_pos c4] at H
     have c4b0:decide (0≤x5_1)=true:=decide_eq_true c4
     clear c4
     replace H:=Option.bind_eq_some_iff.mp H
     obtain⟨t127,A50,H⟩:=H
     have A5:=Aside0.mk A50
     clear A50
     by_cases c6:t127 < 0
     ·rw[if_pos c6] at H
      have c6b0:decide (t127 < 0)=true:=decide_eq_true c6
      clear c6
      obtain rfl:=Option.some.inj H
      have p126:0≤(x5_1:Int):=of_decide_eq_true (bD)
      have q126:x5_1 < (l0.length:Int):=of_decide_eq_true (bD)
      obtain⟨ad126,A126_0,c126_0,e126,hx126_0,hx126_1,hx126_2,hl126_0,hi126_0⟩:=at_T61 HR0.out x5_1 p126 q126
      cases e126
      have HR126_0:=Aside0.mk hi126_0
      have HC126_0:=Aside0.mk hl126_0
      clear hi126_0 hl126_0
      replace p126:=eq_true p126
      replace q126:=eq_true q126
      go_wp2_with (first|((with_reducible refine gate_callee (f:=36) rfl ?_);refine goesA (some 18) rfl rfl Try.func36 #[.slice A126_0 ((rd_T61 l0 x5_1).f0).length c126_0,.int .i64 x1_1] rfl ?_;(with_reducible refine(laws_heldIntS.calls k1 _ _ ((rd_T61 l0 x5_1).f0) x1_1 t127 _ ?side1 ?side2 A5.out).mono ?_);(case side1=>exact b2_);(case side2=>exact HC126_0.out);rintro e w' ⟨rfl,⟨nd,rfl⟩⟩;refine⟨_,rfl,?_⟩))
      go_ret
      exact⟨bR,bW⟩
     ·rw[if_neg c6] at H
      have c6b0:decide (t127 < 0)=false:=decide_eq_false c6
      clear c6
      by_cases c7:((rd_T61 l0 x5_1).f1)=t127
      ·rw[if_pos c7] at H
       have c7b0:(((rd_T61 l0 x5_1).f1) == t127)=true:=beq_iff_eq.mpr c7
       have c7b1:(((rd_T61 l0 x5_1).f1) != t127)=false:=bne_eq_false_iff_eq.mpr c7
       clear c7
       by_cases c8:((rd_T61 l0 x5_1).f2)=(wrap64 (t127+1))
       ·rw[if_pos c8] at H
        have c8b0:(((rd_T61 l0 x5_1).f2) == (wrap64 (t127+1)))=true:=beq_iff_eq.mpr c8
        have c8b1:(((rd_T61 l0 x5_1).f2) != (wrap64 (t127+1)))=false:=bne_eq_false_iff_eq.mpr c8
        clear c8
        have H':=Aside0.mk H
        clear H
        have p126:0≤(x5_1:Int):=of_decide_eq_true (bD)
        have q126:x5_1 < (l0.length:Int):=of_decide_eq_true (bD)
        obtain⟨ad126,A126_0,c126_0,e126,hx126_0,hx126_1,hx126_2,hl126_0,hi126_0⟩:=at_T61 HR0.out x5_1 p126 q126
        cases e126
        have HR126_0:=Aside0.mk hi126_0
        have HC126_0:=Aside0.mk hl126_0
        clear hi126_0 hl126_0
        replace p126:=eq_true p126
        replace q126:=eq_true q126
        go_wp2_with (first|((with_reducible refine gate_callee (f:=36) rfl ?_);refine goesA (some 18) rfl rfl Try.func36 #[.slice A126_0 ((rd_T61 l0 x5_1).f0).length c126_0,.int .i64 x1_1] rfl ?_;(with_reducible refine(laws_heldIntS.calls k1 _ _ ((rd_T61 l0 x5_1).f0) x1_1 t127 _ ?side1 ?side2 A5.out).mono ?_);(case side1=>exact b2_);(case side2=>exact HC126_0.out);rintro e w' ⟨rfl,⟨nd,rfl⟩⟩;refine⟨_,rfl,?_⟩;have p128:0≤(x5_1:Int):=of_decide_eq_true (bD);have q128:x5_1 < (l0.length:Int):=of_decide_eq_true (bD);obtain⟨ad128,A128_0,c128_0,e128,hx128_0,hx128_1,hx128_2,hl128_0,hi128_0⟩:=at_T61 HR0.out x5_1 p128 q128;obtain rfl:ad126=ad128:=(by injection e128);have HR128_0:=Aside0.mk hi128_0;have HC128_0:=Aside0.mk hl128_0;clear hi128_0 hl128_0;replace p128:=eq_true p128;replace q128:=eq_true q128;have ea_:=Option.some.inj (hx126_0.symm.trans hx128_0);injection ea_ with ea_ en_ ec_;subst ea_;subst ec_;clear en_;have p129:0≤(x5_1:Int):=of_decide_eq_true (bD);have q129:x5_1 < (l0.length:Int):=of_decide_eq_true (bD);obtain⟨ad129,A129_0,c129_0,e129,hx129_0,hx129_1,hx129_2,hl129_0,hi129_0⟩:=at_T61 HR0.out x5_1 p129 q129;obtain rfl:ad126=ad129:=(by injection e129);have HR129_0:=Aside0.mk hi129_0;have HC129_0:=Aside0.mk hl129_0;clear hi129_0 hl129_0;replace p129:=eq_true p129;replace q129:=eq_true q129;have ea_:=Option.some.inj (hx126_0.symm.trans hx129_0);injection ea_ with ea_ en_ ec_;subst ea_;subst ec_;clear en_))
        go_roundg k1
        case measure=>have:=HK1.out;omega
        case rel=>exact⟨(wrap64 ((wrap64 (t127+1))+1)),(wrap64 (x5_1+1)),(bR),(bR),H',⟨by have:=HK1.out;omega⟩,bW⟩
       ·rw[if_neg c8] at H
        have c8b0:(((rd_T61 l0 x5_1).f2) == (wrap64 (t127+1)))=false:=beq_eq_false_iff_ne.mpr c8
        have c8b1:(((rd_T61 l0 x5_1).f2) != (wrap64 (t127+1)))=true:=bne_iff_ne.mpr c8
        obtain rfl:=Option.some.inj H
        have p126:0≤(x5_1:Int):=of_decide_eq_true (bD)
        have q126:x5_1 < (l0.length:Int):=of_decide_eq_true (bD)
        obtain⟨ad126,A126_0,c126_0,e126,hx126_0,hx126_1,hx126_2,hl126_0,hi126_0⟩:=at_T61 HR0.out x5_1 p126 q126
        cases e126
        have HR126_0:=Aside0.mk hi126_0
        have HC126_0:=Aside0.mk hl126_0
        clear hi126_0 hl126_0
        replace p126:=eq_true p126
        replace q126:=eq_true q126
        go_wp2_with (first|((with_reducible refine gate_callee (f:=36) rfl ?_);refine goesA (some 18) rfl rfl Try.func36 #[.slice A126_0 ((rd_T61 l0 x5_1).f0).length c126_0,.int .i64 x1_1] rfl ?_;(with_reducible refine(laws_heldIntS.calls k1 _ _ ((rd_T61 l0 x5_1).f0) x1_1 t127 _ ?side1 ?side2 A5.out).mono ?_);(case side1=>exact b2_);(case side2=>exact HC126_0.out);rintro e w' ⟨rfl,⟨nd,rfl⟩⟩;refine⟨_,rfl,?_⟩;have p128:0≤(x5_1:Int):=of_decide_eq_true (bD);have q128:x5_1 < (l0.length:Int):=of_decide_eq_true (bD);obtain⟨ad128,A128_0,c128_0,e128,hx128_0,hx128_1,hx128_2,hl128_0,hi128_0⟩:=at_T61 HR0.out x5_1 p128 q128;obtain rfl:ad126=ad128:=(by injection e128);have HR128_0:=Aside0.mk hi128_0;have HC128_0:=Aside0.mk hl128_0;clear hi128_0 hl128_0;replace p128:=eq_true p128;replace q128:=eq_true q128;have ea_:=Option.some.inj (hx126_0.symm.trans hx128_0);injection ea_ with ea_ en_ ec_;subst ea_;subst ec_;clear en_;have p129:0≤(x5_1:Int):=of_decide_eq_true (bD);have q129:x5_1 < (l0.length:Int):=of_decide_eq_true (bD);obtain⟨ad129,A129_0,c129_0,e129,hx129_0,hx129_1,hx129_2,hl129_0,hi129_0⟩:=at_T61 HR0.out x5_1 p129 q129;obtain rfl:ad126=ad129:=(by injection e129);have HR129_0:=Aside0.mk hi129_0;have HC129_0:=Aside0.mk hl129_0;clear hi129_0 hl129_0;replace p129:=eq_true p129;replace q129:=eq_true q129;have ea_:=Option.some.inj (hx126_0.symm.trans hx129_0);injection ea_ with ea_ en_ ec_;subst ea_;subst ec_;clear en_))
        go_ret
        exact⟨bR,bW⟩
      ·rw[if_neg c7] at H
       have c7b0:(((rd_T61 l0 x5_1).f1) == t127)=false:=beq_eq_false_iff_ne.mpr c7
       have c7b1:(((rd_T61 l0 x5_1).f1) != t127)=true:=bne_iff_ne.mpr c7
       obtain rfl:=Option.some.inj H
       have p126:0≤(x5_1:Int):=of_decide_eq_true (bD)
       have q126:x5_1 < (l0.length:Int):=of_decide_eq_true (bD)
       obtain⟨ad126,A126_0,c126_0,e126,hx126_0,hx126_1,hx126_2,hl126_0,hi126_0⟩:=at_T61 HR0.out x5_1 p126 q126
       cases e126
       have HR126_0:=Aside0.mk hi126_0
       have HC126_0:=Aside0.mk hl126_0
       clear hi126_0 hl126_0
       replace p126:=eq_true p126
       replace q126:=eq_true q126
       go_wp2_with (first|((with_reducible refine gate_callee (f:=36) rfl ?_);refine goesA (some 18) rfl rfl Try.func36 #[.slice A126_0 ((rd_T61 l0 x5_1).f0).length c126_0,.int .i64 x1_1] rfl ?_;(with_reducible refine(laws_heldIntS.calls k1 _ _ ((rd_T61 l0 x5_1).f0) x1_1 t127 _ ?side1 ?side2 A5.out).mono ?_);(case side1=>exact b2_);(case side2=>exact HC126_0.out);rintro e w' ⟨rfl,⟨nd,rfl⟩⟩;refine⟨_,rfl,?_⟩;have p128:0≤(x5_1:Int):=of_decide_eq_true (bD);have q128:x5_1 < (l0.length:Int):=of_decide_eq_true (bD);obtain⟨ad128,A128_0,c128_0,e128,hx128_0,hx128_1,hx128_2,hl128_0,hi128_0⟩:=at_T61 HR0.out x5_1 p128 q128;obtain rfl:ad126=ad128:=(by injection e128);have HR128_0:=Aside0.mk hi128_0;have HC128_0:=Aside0.mk hl128_0;clear hi128_0 hl128_0;replace p128:=eq_true p128;replace q128:=eq_true q128;have ea_:=Option.some.inj (hx126_0.symm.trans hx128_0);injection ea_ with ea_ en_ ec_;subst ea_;subst ec_;clear en_))
       go_ret
       exact⟨bR,bW⟩
    ·rw[if_neg c4] at H
     exact absurd H (by simp)
   ·rw[if_neg c3] at H
    have c3b0:decide (x5_1 < (l0.length:Int))=false:=decide_eq_false c3
    clear c3
    obtain rfl:=Option.some.inj H
    go_wp2
    go_ret
    exact⟨bR,bW⟩

/-! ### laws_heldTurns: function 9 -/
def laws_heldTurns.f (k:Nat) (a0_0:Int) (l0_1:List (S61)) (a0_2:Int) (a1:Int):Option (Int):=(laws_heldQueueS.f k l0_1 a1).bind fun t131=>(if t131 < 0 then (some (-1)) else (some t131))
theorem laws_heldTurns.mono : ∀ a0 a1 a2 a3 k,LeO (laws_heldTurns.f k a0 a1 a2 a3) (laws_heldTurns.f (k+1) a0 a1 a2 a3):=by
 intro a0 a1 a2 a3 k
 unfold laws_heldTurns.f
 repeat' first
  | (with_reducible exact laws_heldQueueS.mono _ _ _)
  | (with_reducible exact LeO.refl _)
  | (with_reducible exact LeO.none _)
  | (with_reducible refine LeO.ite ?_ ?_)
  | (with_reducible refine LeO.bind ?_ (fun _ => ?_))
  | exact laws_heldQueueS.mono _ _ _
  | exact LeO.none _
  | refine LeO.ite ?_ ?_
  | refine LeO.bind ?_ (fun _ => ?_)
set_option maxHeartbeats 8000000 in
set_option maxRecDepth 100000 in
theorem laws_heldTurns.calls (k:Nat) (a0_0:Int) (A0_1:Option Addr) (c0_1:Nat) (l0_1:List (S61)) (a0_2:Int) (a1:Int) (r:Int) (w:World) (hr0_1:Kd.C k61 w A0_1 l0_1.length l0_1) (hc0_1:l0_1.length≤c0_1) (h:laws_heldTurns.f k a0_0 l0_1 a0_2 a1=some r) :
  Calls Try.prog 9 #[.agg #[.int .i64 a0_0,.slice A0_1 l0_1.length c0_1,.int .i64 a0_2],.int .i64 a1] w fun e w'=>e=.returned (.int .i64 r)∧Below w.heap.size w w':=by
 have hu24:=Try.underlying24
 have HR0_1:=Aside0.mk hr0_1
 have HC0_1:=Aside0.mk hc0_1
 clear hr0_1 hc0_1
 have HB:=Aside0.mk (Below.refl w.heap.size w)
 have H:((laws_heldQueueS.f k l0_1 a1).bind fun t131=>(if t131 < 0 then (some (-1)) else (some t131)))=some r:=h
 clear h
 replace H:=Option.bind_eq_some_iff.mp H
 obtain⟨t131,A30,H⟩:=H
 have A3:=Aside0.mk A30
 clear A30
 by_cases c4:t131 < 0
 ·rw[if_pos c4] at H
  have c4b0:decide (t131 < 0)=true:=decide_eq_true c4
  clear c4
  obtain rfl:=Option.some.inj H
  go_enter Try.func9,Try.ntmps9
  go_wp2_with (first|((with_reducible refine gate_dst (N:=2) rfl ?_);refine box_event ?hg (N:=2) ?hd (cs:=#[.int .i64 a0_0,.slice A0_1 l0_1.length c0_1,.int .i64 a0_2]) (t:=24) ?hr ?_;(case hd=>rfl);(case hg=>rfl);(case hr=>first|(go_simp;done)|(go_simp;rfl));intro gb130 hg w5 hbox hb;have n0_:=Aside0.mk (below_step (bB) hb);have n1_:=Aside0.mk (hbox);have n2_:=Aside0.mk ((bG:w.heap.size≤gb130));have n3_:=Aside0.mk ((bG:w.heap.size≤gb130));clear HB;have HB:=n0_;have BK130:=n1_;have GW130:=n2_;have GE130:=n3_;clear n0_ n1_ n2_ n3_;clear hb hbox hg;obtain⟨hcz6_0,hcz6_1,hcz6_2⟩:=cC3 BK130.out;obtain⟨hfz6_0,hfz6_1,hfz6_2⟩:=cF3 BK130.out)|((with_reducible refine gate_callee (f:=20) rfl ?_);refine goesA (some 8) rfl rfl Try.func20 #[.slice A0_1 l0_1.length c0_1,.int .i64 a1] rfl ?_;(with_reducible refine(laws_heldQueueS.calls k _ _ l0_1 a1 t131 _ ?side1 ?side2 A3.out).mono ?_);(case side1=>exact bC HR0_1.out);(case side2=>exact HC0_1.out);rintro e w' ⟨rfl,⟨nd,rfl⟩⟩;refine⟨_,rfl,?_⟩))
  go_ret
  exact⟨bE,bS GE130.out⟩
 ·rw[if_neg c4] at H
  have c4b0:decide (t131 < 0)=false:=decide_eq_false c4
  clear c4
  obtain rfl:=Option.some.inj H
  go_enter Try.func9,Try.ntmps9
  go_wp2_with (first|((with_reducible refine gate_dst (N:=2) rfl ?_);refine box_event ?hg (N:=2) ?hd (cs:=#[.int .i64 a0_0,.slice A0_1 l0_1.length c0_1,.int .i64 a0_2]) (t:=24) ?hr ?_;(case hd=>rfl);(case hg=>rfl);(case hr=>first|(go_simp;done)|(go_simp;rfl));intro gb130 hg w7 hbox hb;have n0_:=Aside0.mk (below_step (bB) hb);have n1_:=Aside0.mk (hbox);have n2_:=Aside0.mk ((bG:w.heap.size≤gb130));have n3_:=Aside0.mk ((bG:w.heap.size≤gb130));clear HB;have HB:=n0_;have BK130:=n1_;have GW130:=n2_;have GE130:=n3_;clear n0_ n1_ n2_ n3_;clear hb hbox hg;obtain⟨hcz8_0,hcz8_1,hcz8_2⟩:=cC3 BK130.out;obtain⟨hfz8_0,hfz8_1,hfz8_2⟩:=cF3 BK130.out)|((with_reducible refine gate_callee (f:=20) rfl ?_);refine goesA (some 8) rfl rfl Try.func20 #[.slice A0_1 l0_1.length c0_1,.int .i64 a1] rfl ?_;(with_reducible refine(laws_heldQueueS.calls k _ _ l0_1 a1 t131 _ ?side1 ?side2 A3.out).mono ?_);(case side1=>exact bC HR0_1.out);(case side2=>exact HC0_1.out);rintro e w' ⟨rfl,⟨nd,rfl⟩⟩;refine⟨_,rfl,?_⟩))
  go_ret
  exact⟨bE,bS GE130.out⟩

/-! ### laws_FnExactNewTurns: function 3, by hand -/
def laws_FnExactNewTurns.f (k:Nat) (a0:Int) (a1:Int):Option Bool:=(spec_NewTurns.f a0 a1).bind fun g=>((laws_eqTurns.f k g.1 g.2.1 g.2.2.1 g.1 g.2.1 g.2.2.1).bind fun t1=>if t1=true then ((laws_markTurns.f k g.1 g.2.1 g.2.2.1 1).bind fun m=>((laws_heldTurns.f k g.1 m.2 g.2.2.1 1).bind fun q=>if q=m.1 then (if q < 0 then none else some true) else none)) else none)
theorem bT3_ {w:World} {g t:Nat} {a0 a1 a2 b0 b1 b2:Value} (h:w.heap[g]?=some (.cells #[a0,a1,a2] t (0,0))):(((w.setCell ⟨g,0,none⟩ b0).setCell ⟨g,1,none⟩ b1).setCell ⟨g,2,none⟩ b2).heap[g]?=some (.cells #[b0,b1,b2] t (0,0)):=(blk_put (cs:=#[b0,b1,a2]) (blk_put (cs:=#[b0,a1,a2]) (blk_put (cs:=#[a0,a1,a2]) h 0 _ rfl) 1 _ rfl) 2 _ rfl)
theorem newTurns_same (a b:Int):impl_NewTurns.f a b=spec_NewTurns.f a b:=by
 unfold impl_NewTurns.f spec_NewTurns.f impl_within.f spec_l1In.f
 rfl
theorem laws_FnExactNewTurns.mono : ∀ a0 a1 k,LeO (laws_FnExactNewTurns.f k a0 a1) (laws_FnExactNewTurns.f (k+1) a0 a1):=by
 intro a0 a1 k
 unfold laws_FnExactNewTurns.f
 repeat' first
 | exact laws_eqTurns.mono _ _ _ _ _ _ _
 | exact laws_markTurns.mono _ _ _ _ _
 | exact laws_heldTurns.mono _ _ _ _ _
 | exact LeO.refl _
 | exact LeO.none _
 | refine LeO.ite ?_ ?_
 | refine LeO.bind ?_ (fun _ => ?_)
set_option maxHeartbeats 8000000 in
set_option maxRecDepth 100000 in
theorem laws_FnExactNewTurns.calls (k:Nat) (a0:Int) (a1:Int) (r:Bool) (w:World) (h:laws_FnExactNewTurns.f k a0 a1=some r) :
  Calls Try.prog 3 #[.int .i64 a0,.int .i64 a1] w fun e w'=>e=.returned (.bool r)∧Below w.heap.size w w':=by
 unfold laws_FnExactNewTurns.f at h
 replace h:=Option.bind_eq_some_iff.mp h
 obtain⟨⟨q,row,r,ok⟩,E1,h⟩:=h
 have E2:=(newTurns_same a0 a1).trans E1
 ·replace h:=Option.bind_eq_some_iff.mp h
  obtain⟨t1,E3,h⟩:=h
  by_cases c2:t1=true
  ·subst c2
   rw[if_pos rfl] at h
   replace h:=Option.bind_eq_some_iff.mp h
   obtain⟨⟨m,row2⟩,E4,h⟩:=h
   replace h:=Option.bind_eq_some_iff.mp h
   obtain⟨m2,E5,h⟩:=h
   by_cases c3:m2=m
   ·rw[if_pos c3] at h
    subst c3
    by_cases c4:m2 < 0
    ·rw[if_pos c4] at h
     cases h
    ·rw[if_neg c4] at h
     obtain rfl:=Option.some.inj h
     have E1:=Aside0.mk E1
     have E2:=Aside0.mk E2
     have E3:=Aside0.mk E3
     have E4:=Aside0.mk E4
     have E5:=Aside0.mk E5
     clear h
     have c4b0:decide (m2 < 0)=false:=decide_eq_false c4
     have okb0:(ok != ok)=false:=by simp
     have mmb0:(m2 != m2)=false:=by simp
     clear c4
     go_enter Try.func3,Try.ntmps3
     go_wp2_with (first|((with_reducible refine gate_callee (f:=5) rfl ?_);refine goesA (some 16) rfl rfl Try.func5 #[.int .i64 a0,.int .i64 a1] rfl ?_;(with_reducible refine(spec_NewTurns.calls a0 a1 q row r ok _ E1.out).mono ?_);rintro e w1 ⟨v1,rfl,ho,hb⟩;refine⟨_,rfl,?_⟩;obtain⟨Aw,cw,ew⟩:=Kd.S_slice ho;subst ew;have HW:=Aside0.mk ho;have HB:=Aside0.mk hb;clear ho hb)|((with_reducible refine gate_dst (N:=5) rfl ?_);refine box_event ?hg (N:=5) ?hd (cs:=#[.int .i64 0,.slice none 0 0,.int .i64 0]) (t:=24) ?hr ?_;(case hd=>rfl);(case hg=>rfl);(case hr=>first|(go_simp;done)|(go_simp;rfl));intro gb5 hg w2 hbox hb;have n0_:=Aside0.mk (Kd.S_below HW.out hb);have n1_:=Aside0.mk (below_step HB.out hb);have BK5:=Aside0.mk hbox;have GE5:Aside0 (w.heap.size≤gb5):=Aside0.mk (by rw[hg];exact below_size HB.out);clear HW HB hb hbox hg;have HW:=n0_;have HB:=n1_;clear n0_ n1_;obtain⟨hcgb5_0,hcgb5_1,hcgb5_2⟩:=cC3 BK5.out;have hfgb5_0:w2.frozen? ⟨gb5,0,none⟩=false:=blk_frozen BK5.out 0;have hfgb5_1:w2.frozen? ⟨gb5,1,none⟩=false:=blk_frozen BK5.out 1;have hfgb5_2:w2.frozen? ⟨gb5,2,none⟩=false:=blk_frozen BK5.out 2)|((with_reducible refine gate_callee (f:=6) rfl ?_);refine goesA (some 22) rfl rfl Try.func6 #[.int .i64 a0,.int .i64 a1] rfl ?_;(with_reducible refine(impl_NewTurns.calls a0 a1 q row r ok _ E2.out).mono ?_);rintro e w3 ⟨v2,rfl,ho,hb⟩;refine⟨_,rfl,?_⟩;obtain⟨Ag,cg,eg⟩:=Kd.S_slice ho;subst eg;have HW2:Aside0 (Kd.S k61 61 (((w2.setCell ⟨gb5,0,none⟩ (.int .i64 q)).setCell ⟨gb5,1,none⟩ (.slice Aw row.length cw)).setCell ⟨gb5,2,none⟩ (.int .i64 r)) w.heap.size (fun _=>True) (.slice Aw row.length cw) row):=Aside0.mk (Kd.S_mono (Kd.S_far (p:=⟨gb5,2,none⟩) (Kd.S_far (p:=⟨gb5,1,none⟩) (Kd.S_far (p:=⟨gb5,0,none⟩) (Kd.S_types HW.out BK5.out (by decide)) (fun _ hk=>hk.2) (.int .i64 q)) (fun _ hk=>hk.2) (.slice Aw row.length cw)) (fun _ hk=>hk.2) (.int .i64 r)) (fun _ hk=>hk.1));have HB2:Aside0 (Below w.heap.size w (((w2.setCell ⟨gb5,0,none⟩ (.int .i64 q)).setCell ⟨gb5,1,none⟩ (.slice Aw row.length cw)).setCell ⟨gb5,2,none⟩ (.int .i64 r))):=Aside0.mk (below_set (below_set (below_set HB.out GE5.out) GE5.out) GE5.out);have BK52:Aside0 ((((w2.setCell ⟨gb5,0,none⟩ (.int .i64 q)).setCell ⟨gb5,1,none⟩ (.slice Aw row.length cw)).setCell ⟨gb5,2,none⟩ (.int .i64 r)).heap[gb5]?=some (.cells #[.int .i64 q,.slice Aw row.length cw,.int .i64 r] 24 (0,0))):=Aside0.mk (bT3_ BK5.out);have HG:=Aside0.mk ho;have HD:=Aside0.mk hb;clear HW HB BK5 ho hb;(try clear hcgb5_0 hcgb5_1 hcgb5_2);(try clear hfgb5_0 hfgb5_1 hfgb5_2);have hcgb5_0:w3.cell? ⟨gb5,0,none⟩=some (.int .i64 q):=(blk_cell (blk_below BK52.out HD.out) 0).trans rfl;have hcgb5_1:w3.cell? ⟨gb5,1,none⟩=some (.slice Aw row.length cw):=(blk_cell (blk_below BK52.out HD.out) 1).trans rfl;have hcgb5_2:w3.cell? ⟨gb5,2,none⟩=some (.int .i64 r):=(blk_cell (blk_below BK52.out HD.out) 2).trans rfl)|((with_reducible refine gate_dst (N:=7) rfl ?_);refine box_event ?hg (N:=7) ?hd (cs:=#[.int .i64 0,.slice none 0 0,.int .i64 0]) (t:=24) ?hr ?_;(case hd=>rfl);(case hg=>rfl);(case hr=>first|(go_simp;done)|(go_simp;rfl));intro gb7 hg w4 hbox hb;have n0_:=Aside0.mk (Kd.S_below HG.out hb);have n1_:=Aside0.mk (below_step HD.out hb);have BK7:=Aside0.mk hbox;have GE7:Aside0 ((((w2.setCell ⟨gb5,0,none⟩ (.int .i64 q)).setCell ⟨gb5,1,none⟩ (.slice Aw row.length cw)).setCell ⟨gb5,2,none⟩ (.int .i64 r)).heap.size≤gb7):=Aside0.mk (by rw[hg];exact below_size HD.out);have hne57:gb5≠gb7:=(by have h1_:=blk_lt BK52.out;have h2_:=GE7.out;omega);have hne75:gb7≠gb5:=Ne.symm hne57;clear HG HD hb hbox hg;have HG:=n0_;have HD:=n1_;clear n0_ n1_;(try clear hcgb5_0 hcgb5_1 hcgb5_2);have hcgb5_0:w4.cell? ⟨gb5,0,none⟩=some (.int .i64 q):=(blk_cell (blk_below BK52.out HD.out) 0).trans rfl;have hcgb5_1:w4.cell? ⟨gb5,1,none⟩=some (.slice Aw row.length cw):=(blk_cell (blk_below BK52.out HD.out) 1).trans rfl;have hcgb5_2:w4.cell? ⟨gb5,2,none⟩=some (.int .i64 r):=(blk_cell (blk_below BK52.out HD.out) 2).trans rfl;obtain⟨hcgb7_0,hcgb7_1,hcgb7_2⟩:=cC3 BK7.out;have hfgb7_0:w4.frozen? ⟨gb7,0,none⟩=false:=blk_frozen BK7.out 0;have hfgb7_1:w4.frozen? ⟨gb7,1,none⟩=false:=blk_frozen BK7.out 1;have hfgb7_2:w4.frozen? ⟨gb7,2,none⟩=false:=blk_frozen BK7.out 2)|((with_reducible refine gate_callee (f:=7) rfl ?_);refine goesA (some 27) rfl rfl Try.func7 #[.agg #[.int .i64 q,.slice Ag row.length cg,.int .i64 r],.agg #[.int .i64 q,.slice Aw row.length cw,.int .i64 r]] rfl ?_;(with_reducible refine(laws_eqTurns.calls k q Ag cg row r q Aw cw row r true _ ?side1 ?side2 ?side3 ?side4 E3.out).mono ?_);(case side1=>exact(Kd.S_reads' (Kd.S_mono (ok':=fun k_=>k_≠gb7) (Kd.S_far (p:=⟨gb7,2,none⟩) (Kd.S_far (p:=⟨gb7,1,none⟩) (Kd.S_far (p:=⟨gb7,0,none⟩) (Kd.S_types HG.out BK7.out (by decide)) (fun _ hk=>hk.2) (.int .i64 q)) (fun _ hk=>hk.2) (.slice Ag row.length cg)) (fun _ hk=>hk.2) (.int .i64 r)) (fun _ hk=>hk.2))).2.2);(case side2=>exact(Kd.S_reads' (Kd.S_mono (ok':=fun k_=>k_≠gb7) (Kd.S_far (p:=⟨gb7,2,none⟩) (Kd.S_far (p:=⟨gb7,1,none⟩) (Kd.S_far (p:=⟨gb7,0,none⟩) (Kd.S_types HG.out BK7.out (by decide)) (fun _ hk=>hk.2) (.int .i64 q)) (fun _ hk=>hk.2) (.slice Ag row.length cg)) (fun _ hk=>hk.2) (.int .i64 r)) (fun _ hk=>hk.2))).2.1);(case side3=>exact(Kd.S_reads' (Kd.S_below HW2.out (below_set (below_set (below_set HD.out GE7.out) GE7.out) GE7.out))).2.2);(case side4=>exact(Kd.S_reads' HW2.out).2.1);rintro e w5 ⟨rfl,hb⟩;refine⟨_,rfl,?_⟩;have n0_:=Aside0.mk (Kd.S_below (Kd.S_mono (ok':=fun k_=>k_≠gb7) (Kd.S_far (p:=⟨gb7,2,none⟩) (Kd.S_far (p:=⟨gb7,1,none⟩) (Kd.S_far (p:=⟨gb7,0,none⟩) (Kd.S_types HG.out BK7.out (by decide)) (fun _ hk=>hk.2) (.int .i64 q)) (fun _ hk=>hk.2) (.slice Ag row.length cg)) (fun _ hk=>hk.2) (.int .i64 r)) (fun _ hk=>hk.2)) hb);have n1_:=Aside0.mk (below_step (below_set (below_set (below_set HD.out GE7.out) GE7.out) GE7.out) hb);have n2_:Aside0 (w5.heap[gb7]?=some (.cells #[.int .i64 q,.slice Ag row.length cg,.int .i64 r] 24 (0,0))):=Aside0.mk (blk_below (bT3_ BK7.out) hb);clear HG HD BK7 hb;have HG:=n0_;have HD:=n1_;have BK7:=n2_;clear n0_ n1_ n2_;(try clear hcgb5_0 hcgb5_1 hcgb5_2 hcgb7_0 hcgb7_1 hcgb7_2);(try clear hfgb7_0 hfgb7_1 hfgb7_2);have hcgb5_0:w5.cell? ⟨gb5,0,none⟩=some (.int .i64 q):=(blk_cell (blk_below BK52.out HD.out) 0).trans rfl;have hcgb5_1:w5.cell? ⟨gb5,1,none⟩=some (.slice Aw row.length cw):=(blk_cell (blk_below BK52.out HD.out) 1).trans rfl;have hcgb5_2:w5.cell? ⟨gb5,2,none⟩=some (.int .i64 r):=(blk_cell (blk_below BK52.out HD.out) 2).trans rfl;obtain⟨hcgb7_0,hcgb7_1,hcgb7_2⟩:=cC3 BK7.out)|((with_reducible refine gate_callee (f:=8) rfl ?_);refine goesA (some 36) rfl rfl Try.func8 #[.agg #[.int .i64 q,.slice Ag row.length cg,.int .i64 r],.int .i64 1] rfl ?_;(with_reducible refine(laws_markTurns.calls k (fun k_=>k_≠gb7) (.slice Ag row.length cg) q row r 1 m2 row2 (((w2.setCell ⟨gb5,0,none⟩ (.int .i64 q)).setCell ⟨gb5,1,none⟩ (.slice Aw row.length cw)).setCell ⟨gb5,2,none⟩ (.int .i64 r)) _ ?side1 ?side2 E4.out).mono ?_);(case side1=>exact HD.out);(case side2=>exact HG.out);rintro e w6 ⟨rfl,ho,hb,hkp⟩;refine⟨_,rfl,?_⟩;have n0_:=Aside0.mk ho;have n1_:=Aside0.mk hb;have n2_:Aside0 (w6.heap[gb7]?=some (.cells #[.int .i64 q,.slice Ag row.length cg,.int .i64 r] 24 (0,0))):=Aside0.mk (blk_kept BK7.out hkp (fun h_=>h_ rfl));have HLN:Aside0 (row.length=row2.length):=Aside0.mk (Kd.S_reads' ho).1;clear HG HD BK7 ho hb hkp;have HG:=n0_;have HD:=n1_;have BK7:=n2_;clear n0_ n1_ n2_;(try clear hcgb5_0 hcgb5_1 hcgb5_2 hcgb7_0 hcgb7_1 hcgb7_2);have hcgb5_0:w6.cell? ⟨gb5,0,none⟩=some (.int .i64 q):=(blk_cell (blk_below BK52.out HD.out) 0).trans rfl;have hcgb5_1:w6.cell? ⟨gb5,1,none⟩=some (.slice Aw row.length cw):=(blk_cell (blk_below BK52.out HD.out) 1).trans rfl;have hcgb5_2:w6.cell? ⟨gb5,2,none⟩=some (.int .i64 r):=(blk_cell (blk_below BK52.out HD.out) 2).trans rfl;obtain⟨hcgb7_0,hcgb7_1,hcgb7_2⟩:=cC3 BK7.out)|((with_reducible refine gate_callee (f:=9) rfl ?_);refine goesA (some 39) rfl rfl Try.func9 #[.agg #[.int .i64 q,.slice Ag row.length cg,.int .i64 r],.int .i64 1] rfl ?_;have HC:=fun (W_:World) h1_ h2_=>laws_heldTurns.calls k q Ag cg row2 r 1 m2 W_ h1_ h2_ E5.out;rw[← HLN.out] at HC;(with_reducible refine(HC _ ?side1 ?side2).mono ?_);(case side1=>have h_:=(Kd.S_reads' HG.out).2.2;rw[← HLN.out] at h_;exact h_);(case side2=>exact(Kd.S_reads' HG.out).2.1);rintro e w7 ⟨rfl,hb⟩;refine⟨_,rfl,?_⟩;clear HC;have n0_:=Aside0.mk (Kd.S_below HG.out hb);have n1_:=Aside0.mk (below_step HD.out hb);have n2_:=Aside0.mk (blk_below BK7.out hb);clear HG HD BK7 hb;have HG:=n0_;have HD:=n1_;have BK7:=n2_;clear n0_ n1_ n2_;(try clear hcgb5_0 hcgb5_1 hcgb5_2 hcgb7_0 hcgb7_1 hcgb7_2);have hcgb5_0:w7.cell? ⟨gb5,0,none⟩=some (.int .i64 q):=(blk_cell (blk_below BK52.out HD.out) 0).trans rfl;have hcgb5_1:w7.cell? ⟨gb5,1,none⟩=some (.slice Aw row.length cw):=(blk_cell (blk_below BK52.out HD.out) 1).trans rfl;have hcgb5_2:w7.cell? ⟨gb5,2,none⟩=some (.int .i64 r):=(blk_cell (blk_below BK52.out HD.out) 2).trans rfl;obtain⟨hcgb7_0,hcgb7_1,hcgb7_2⟩:=cC3 BK7.out)|((with_reducible refine gate_callee (f:=6) rfl ?_);refine goesA (some 48) rfl rfl Try.func6 #[.int .i64 a0,.int .i64 a1] rfl ?_;(with_reducible refine(impl_NewTurns.calls a0 a1 q row r ok _ E2.out).mono ?_);rintro e w9 ⟨v3,rfl,ho,hb⟩;refine⟨_,rfl,?_⟩;obtain⟨Ah,ch,eh⟩:=Kd.S_slice ho;subst eh;have HH:=Aside0.mk ho;have n0_:=Aside0.mk (Kd.S_below HG.out hb);have n1_:=Aside0.mk (below_step HD.out hb);have n2_:=Aside0.mk (blk_below BK7.out hb);clear HG HD BK7 ho hb;have HG:=n0_;have HD:=n1_;have BK7:=n2_;clear n0_ n1_ n2_;(try clear hcgb5_0 hcgb5_1 hcgb5_2 hcgb7_0 hcgb7_1 hcgb7_2);have hcgb5_0:w9.cell? ⟨gb5,0,none⟩=some (.int .i64 q):=(blk_cell (blk_below BK52.out HD.out) 0).trans rfl;have hcgb5_1:w9.cell? ⟨gb5,1,none⟩=some (.slice Aw row.length cw):=(blk_cell (blk_below BK52.out HD.out) 1).trans rfl;have hcgb5_2:w9.cell? ⟨gb5,2,none⟩=some (.int .i64 r):=(blk_cell (blk_below BK52.out HD.out) 2).trans rfl;obtain⟨hcgb7_0,hcgb7_1,hcgb7_2⟩:=cC3 BK7.out)|((with_reducible refine gate_dst (N:=11) rfl ?_);refine box_event ?hg (N:=11) ?hd (cs:=#[.int .i64 0,.slice none 0 0,.int .i64 0]) (t:=24) ?hr ?_;(case hd=>rfl);(case hg=>rfl);(case hr=>first|(go_simp;done)|(go_simp;rfl));intro gb11 hg w10 hbox hb;have n0_:=Aside0.mk (Kd.S_below HG.out hb);have n1_:=Aside0.mk (below_step HD.out hb);have n2_:=Aside0.mk (blk_below BK7.out hb);have n3_:=Aside0.mk (Kd.S_below HH.out hb);have BK11:=Aside0.mk hbox;have GE11:Aside0 ((((w2.setCell ⟨gb5,0,none⟩ (.int .i64 q)).setCell ⟨gb5,1,none⟩ (.slice Aw row.length cw)).setCell ⟨gb5,2,none⟩ (.int .i64 r)).heap.size≤gb11):=Aside0.mk (by rw[hg];exact below_size HD.out);have hne5b:gb5≠gb11:=(by have h1_:=blk_lt (blk_below BK52.out HD.out);omega);have hneb5:gb11≠gb5:=Ne.symm hne5b;have hne7b:gb7≠gb11:=(by have h1_:=blk_lt BK7.out;omega);have hneb7:gb11≠gb7:=Ne.symm hne7b;clear HG HD BK7 HH hb hbox hg;have HG:=n0_;have HD:=n1_;have BK7:=n2_;have HH:=n3_;clear n0_ n1_ n2_ n3_;(try clear hcgb5_0 hcgb5_1 hcgb5_2 hcgb7_0 hcgb7_1 hcgb7_2);have hcgb5_0:w10.cell? ⟨gb5,0,none⟩=some (.int .i64 q):=(blk_cell (blk_below BK52.out HD.out) 0).trans rfl;have hcgb5_1:w10.cell? ⟨gb5,1,none⟩=some (.slice Aw row.length cw):=(blk_cell (blk_below BK52.out HD.out) 1).trans rfl;have hcgb5_2:w10.cell? ⟨gb5,2,none⟩=some (.int .i64 r):=(blk_cell (blk_below BK52.out HD.out) 2).trans rfl;obtain⟨hcgb7_0,hcgb7_1,hcgb7_2⟩:=cC3 BK7.out;obtain⟨hcgb11_0,hcgb11_1,hcgb11_2⟩:=cC3 BK11.out;have hfgb11_0:w10.frozen? ⟨gb11,0,none⟩=false:=blk_frozen BK11.out 0;have hfgb11_1:w10.frozen? ⟨gb11,1,none⟩=false:=blk_frozen BK11.out 1;have hfgb11_2:w10.frozen? ⟨gb11,2,none⟩=false:=blk_frozen BK11.out 2)|((with_reducible refine gate_callee (f:=7) rfl ?_);refine goesA (some 53) rfl rfl Try.func7 #[.agg #[.int .i64 q,.slice Ah row.length ch,.int .i64 r],.agg #[.int .i64 q,.slice Aw row.length cw,.int .i64 r]] rfl ?_;(with_reducible refine(laws_eqTurns.calls k q Ah ch row r q Aw cw row r true _ ?side1 ?side2 ?side3 ?side4 E3.out).mono ?_);(case side1=>exact(Kd.S_reads' (Kd.S_mono (Kd.S_far (p:=⟨gb11,2,none⟩) (Kd.S_far (p:=⟨gb11,1,none⟩) (Kd.S_far (p:=⟨gb11,0,none⟩) (Kd.S_types HH.out BK11.out (by decide)) (fun _ hk=>hk.2) (.int .i64 q)) (fun _ hk=>hk.2) (.slice Ah row.length ch)) (fun _ hk=>hk.2) (.int .i64 r)) (fun _ hk=>hk.1))).2.2);(case side2=>exact(Kd.S_reads' (Kd.S_mono (Kd.S_far (p:=⟨gb11,2,none⟩) (Kd.S_far (p:=⟨gb11,1,none⟩) (Kd.S_far (p:=⟨gb11,0,none⟩) (Kd.S_types HH.out BK11.out (by decide)) (fun _ hk=>hk.2) (.int .i64 q)) (fun _ hk=>hk.2) (.slice Ah row.length ch)) (fun _ hk=>hk.2) (.int .i64 r)) (fun _ hk=>hk.1))).2.1);(case side3=>exact(Kd.S_reads' (Kd.S_below HW2.out (below_set (below_set (below_set HD.out GE11.out) GE11.out) GE11.out))).2.2);(case side4=>exact(Kd.S_reads' HW2.out).2.1);rintro e w11 ⟨rfl,hb⟩;refine⟨_,rfl,?_⟩;have n0_:=Aside0.mk (Kd.S_below (Kd.S_mono (Kd.S_far (p:=⟨gb11,2,none⟩) (Kd.S_far (p:=⟨gb11,1,none⟩) (Kd.S_far (p:=⟨gb11,0,none⟩) (Kd.S_types HG.out BK11.out (by decide)) (fun _ hk=>hk.2) (.int .i64 q)) (fun _ hk=>hk.2) (.slice Ah row.length ch)) (fun _ hk=>hk.2) (.int .i64 r)) (fun _ hk=>hk.1)) hb);have n1_:=Aside0.mk (below_step (below_set (below_set (below_set HD.out GE11.out) GE11.out) GE11.out) hb);have n2_:Aside0 (w11.heap[gb7]?=some (.cells #[.int .i64 q,.slice Ag row.length cg,.int .i64 r] 24 (0,0))):=Aside0.mk (blk_below (blk_far (p:=⟨gb11,2,none⟩) (blk_far (p:=⟨gb11,1,none⟩) (blk_far (p:=⟨gb11,0,none⟩) BK7.out hne7b _) hne7b _) hne7b _) hb);clear HG HD BK7 HH BK11 hb;have HG:=n0_;have HD:=n1_;have BK7:=n2_;clear n0_ n1_ n2_;(try clear hcgb5_0 hcgb5_1 hcgb5_2 hcgb7_0 hcgb7_1 hcgb7_2 hcgb11_0 hcgb11_1 hcgb11_2);(try clear hfgb11_0 hfgb11_1 hfgb11_2);have hcgb5_0:w11.cell? ⟨gb5,0,none⟩=some (.int .i64 q):=(blk_cell (blk_below BK52.out HD.out) 0).trans rfl;have hcgb5_1:w11.cell? ⟨gb5,1,none⟩=some (.slice Aw row.length cw):=(blk_cell (blk_below BK52.out HD.out) 1).trans rfl;have hcgb5_2:w11.cell? ⟨gb5,2,none⟩=some (.int .i64 r):=(blk_cell (blk_below BK52.out HD.out) 2).trans rfl;obtain⟨hcgb7_0,hcgb7_1,hcgb7_2⟩:=cC3 BK7.out)|((with_reducible refine gate_callee (f:=9) rfl ?_);refine goesA (some 62) rfl rfl Try.func9 #[.agg #[.int .i64 q,.slice Ag row.length cg,.int .i64 r],.int .i64 1] rfl ?_;have HC:=fun (W_:World) h1_ h2_=>laws_heldTurns.calls k q Ag cg row2 r 1 m2 W_ h1_ h2_ E5.out;rw[← HLN.out] at HC;(with_reducible refine(HC _ ?side1 ?side2).mono ?_);(case side1=>have h_:=(Kd.S_reads' HG.out).2.2;rw[← HLN.out] at h_;exact h_);(case side2=>exact(Kd.S_reads' HG.out).2.1);rintro e w12 ⟨rfl,hb⟩;refine⟨_,rfl,?_⟩;clear HC;have n0_:=Aside0.mk (Kd.S_below HG.out hb);have n1_:=Aside0.mk (below_step HD.out hb);have n2_:=Aside0.mk (blk_below BK7.out hb);clear HG HD BK7 hb;have HG:=n0_;have HD:=n1_;have BK7:=n2_;clear n0_ n1_ n2_;(try clear hcgb5_0 hcgb5_1 hcgb5_2 hcgb7_0 hcgb7_1 hcgb7_2);have hcgb5_0:w12.cell? ⟨gb5,0,none⟩=some (.int .i64 q):=(blk_cell (blk_below BK52.out HD.out) 0).trans rfl;have hcgb5_1:w12.cell? ⟨gb5,1,none⟩=some (.slice Aw row.length cw):=(blk_cell (blk_below BK52.out HD.out) 1).trans rfl;have hcgb5_2:w12.cell? ⟨gb5,2,none⟩=some (.int .i64 r):=(blk_cell (blk_below BK52.out HD.out) 2).trans rfl;obtain⟨hcgb7_0,hcgb7_1,hcgb7_2⟩:=cC3 BK7.out))
     go_ret
     exact⟨bE,below_step HB2.out HD.out⟩
   ·rw[if_neg c3] at h
    cases h
  ·rw[if_neg c2] at h
   cases h


end Go.Proofs.Ytanegdfncfkinaa.XFnExactNewTurns
