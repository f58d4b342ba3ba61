-- Written by this session's own program (wip/xprint.py) out of the translation; Lean checks it.
import Derived.Test.YtjmanpicdeebgaaXFnExactTreeForx0
import Derived.Test.YtjmanpicdeebgaaXFnExactTreeForx11
namespace Go.Proofs.Ytjmanpicdeebgaa.XFnExactTreeFor
open Go.RowKit Go.Proofs.YtjmanpicdeebgaaW.PrintWords Go.Proofs.YtjmanpicdeebgaaW.PrintLast Go.Proofs.YtjmanpicdeebgaaW.PrintMore
attribute [local go_sem] max2_int min2_int max_two min_two max_three min_three max_four min_four   -- for this text's walks alone
set_option linter.unusedVariables false
set_option linter.unusedSimpArgs false

/-! ### impl_TreeFor: function 53 -/
def impl_TreeFor.l0:Nat→List Int→List (S109)→Int→Int→Option (List Int × Bool)
 | 0,_,_,_,_=>none
 | k+1,x10,x23,x24,x25=>if x25 < x24 then (if 0≤x25 then (if x25 < (x23.length:Int) then (if x10.length+((rd_T109 x23 x25).f2).length < 17592186044416 then (impl_TreeFor.l0 k (x10++((rd_T109 x23 x25).f2)) x23 x24 (wrap64 (x25+1))) else (none)) else (none)) else (none)) else ((slices_Sort_int_int.f k x10).bind fun t358=>((slices_Compact_int_int.f k t358).bind fun t359=>(some (t359,true))))
def impl_TreeFor.f (k:Nat) (l0:List (S165)) (a1_0:Int) (a1_1:Int) (a1_2:Bool) (a1_3:Int) (a1_4:Int) (a1_5:Int) (a1_6:Int) (a1_7:Int) (a1_8:Int) (a1_9:ByteArray) (l2:List Int):Option (List Int × Bool):=(impl_ReachAll.f k l0 a1_0 a1_1 a1_2 a1_3 a1_4 a1_5 a1_6 a1_7 a1_8 a1_9 l2).bind fun bt346=>(if bt346.2=true then (impl_TreeFor.l0 k (([]:List Int)) bt346.1 (bt346.1.length:Int) 0) else (some (([]:List Int),false)))
theorem impl_TreeFor.mono_l : ∀ k,(∀ y0 y1 y2 y3,LeO (impl_TreeFor.l0 k y0 y1 y2 y3) (impl_TreeFor.l0 (k+1) y0 y1 y2 y3))
 | 0=>fun _ _ _ _ r h=>by simp[impl_TreeFor.l0] at h
 | k+1=>by
  have ih0:=impl_TreeFor.mono_l k
  ·intro y0 y1 y2 y3
   unfold impl_TreeFor.l0
   repeat' first
   | (with_reducible exact ih0 _ _ _ _)
   | (with_reducible exact impl_ReachAll.mono _ _ _ _ _ _ _ _ _ _ _ _ _)
   | (with_reducible exact slices_Compact_int_int.mono _ _)
   | (with_reducible exact slices_Sort_int_int.mono _ _)
   | (with_reducible exact LeO.refl _)
   | (with_reducible exact LeO.none _)
   | (with_reducible refine LeO.ite ?_ ?_)
   | (with_reducible refine LeO.bind ?_ (fun _ => ?_))
   | exact ih0 _ _ _ _
   | exact impl_ReachAll.mono _ _ _ _ _ _ _ _ _ _ _ _ _
   | exact slices_Compact_int_int.mono _ _
   | exact slices_Sort_int_int.mono _ _
   | exact LeO.none _
   | refine LeO.ite ?_ ?_
   | refine LeO.bind ?_ (fun _ => ?_)
theorem impl_TreeFor.mono : ∀ a0 a1 a2 a3 a4 a5 a6 a7 a8 a9 a10 a11 k,LeO (impl_TreeFor.f k a0 a1 a2 a3 a4 a5 a6 a7 a8 a9 a10 a11) (impl_TreeFor.f (k+1) a0 a1 a2 a3 a4 a5 a6 a7 a8 a9 a10 a11):=by
 intro a0 a1 a2 a3 a4 a5 a6 a7 a8 a9 a10 a11 k
 have ih0:=impl_TreeFor.mono_l k
 unfold impl_TreeFor.f
 repeat' first
  | (with_reducible exact ih0 _ _ _ _)
  | (with_reducible exact impl_ReachAll.mono _ _ _ _ _ _ _ _ _ _ _ _ _)
  | (with_reducible exact slices_Compact_int_int.mono _ _)
  | (with_reducible exact slices_Sort_int_int.mono _ _)
  | (with_reducible exact LeO.refl _)
  | (with_reducible exact LeO.none _)
  | (with_reducible refine LeO.ite ?_ ?_)
  | (with_reducible refine LeO.bind ?_ (fun _ => ?_))
  | exact ih0 _ _ _ _
  | exact impl_ReachAll.mono _ _ _ _ _ _ _ _ _ _ _ _ _
  | exact slices_Compact_int_int.mono _ _
  | exact slices_Sort_int_int.mono _ _
  | exact LeO.none _
  | refine LeO.ite ?_ ?_
  | refine LeO.bind ?_ (fun _ => ?_)
set_option maxHeartbeats 8000000 in
set_option maxRecDepth 100000 in
theorem impl_TreeFor.calls (k:Nat) (A0:Option Addr) (c0:Nat) (l0:List (S165)) (a1_0:Int) (a1_1:Int) (a1_2:Bool) (a1_3:Int) (a1_4:Int) (a1_5:Int) (a1_6:Int) (a1_7:Int) (a1_8:Int) (a1_9:ByteArray) (A2:Option Addr) (c2:Nat) (l2:List Int) (r1:List Int) (r2:Bool) (w:World) (hr0:Kd.C k165 w A0 l0.length l0) (hc0:l0.length≤c0) (hr2:Kd.C (Kd.int .i64) w A2 l2.length l2) (hc2:l2.length≤c2) (h:impl_TreeFor.f k l0 a1_0 a1_1 a1_2 a1_3 a1_4 a1_5 a1_6 a1_7 a1_8 a1_9 l2=some (r1,r2)) :
  Calls Try.prog 53 #[.slice A0 l0.length c0,.agg #[.int .i64 a1_0,.int .i64 a1_1,.bool a1_2,.int .i64 a1_3,.int .i64 a1_4,.int .i64 a1_5,.int .i64 a1_6,.int .i64 a1_7,.int .i64 a1_8,.string a1_9],.slice A2 l2.length c2] w fun e w' => ∃ v0_:Value,e=.returned (.tuple #[v0_,.bool r2])∧Kd.R (Kd.int .i64) 3 w' w.heap.size (fun _=>True) v0_ r1∧Below w.heap.size w w':=by
 have hu79:=Try.underlying79
 have hu109:=Try.underlying109
 have HR0:=Aside0.mk hr0
 have HC0:=Aside0.mk hc0
 clear hr0 hc0
 have HR2:=Aside0.mk hr2
 have HC2:=Aside0.mk hc2
 clear hr2 hc2
 have HB:=Aside0.mk (Below.refl w.heap.size w)
 have H:((impl_ReachAll.f k l0 a1_0 a1_1 a1_2 a1_3 a1_4 a1_5 a1_6 a1_7 a1_8 a1_9 l2).bind fun bt346=>(if bt346.2=true then (impl_TreeFor.l0 k (([]:List Int)) bt346.1 (bt346.1.length:Int) 0) else (some (([]:List Int),false))))=some (r1,r2):=h
 clear h
 replace H:=Option.bind_eq_some_iff.mp H
 obtain⟨⟨t346,t349⟩,A40,H⟩:=H
 replace H:(if t349=true then (impl_TreeFor.l0 k (([]:List Int)) t346 (t346.length:Int) 0) else (some (([]:List Int),false)))=some (r1,r2):=H
 have A4:=Aside0.mk A40
 clear A40
 by_cases c5:t349=true
 ·subst c5
  have H1:(impl_TreeFor.l0 k (([]:List Int)) t346 (t346.length:Int) 0)=some (r1,r2):=by rw[if_pos rfl] at H;exact H
  clear H
  have H:=H1
  clear H1
  obtain⟨y350,hy350⟩ : ∃ y_:List Int,y_=(([]:List Int)):=⟨_,rfl⟩
  replace H:(impl_TreeFor.l0 k y350 t346 (t346.length:Int) 0)=some (r1,r2):=by first|(rw[hy350];with_reducible exact H)|(have H2_:=(Option.bind_some _ _).symm.trans H;rw[hy350];with_reducible exact H2_)|(have H2_:=(Option.bind_some _ _).symm.trans H;with_reducible exact H2_)|with_reducible exact H|(rw[hy350];exact H)|exact H
  have Ny350:=Aside0.mk hy350
  clear hy350
  have H':=Aside0.mk H
  clear H
  go_enter Try.func53,Try.ntmps53
  go_wp2_with (first|((with_reducible refine gate_dst (N:=4) rfl ?_);refine box_event ?hg (N:=4) ?hd (cs:=#[.int .i64 a1_0,.int .i64 a1_1,.bool a1_2,.int .i64 a1_3,.int .i64 a1_4,.int .i64 a1_5,.int .i64 a1_6,.int .i64 a1_7,.int .i64 a1_8,.string a1_9]) (t:=79) ?hr ?_;(case hd=>rfl);(case hg=>rfl);(case hr=>first|(go_simp;done)|(go_simp;rfl));intro gb345 hg w6 hbox hb;have n0_:=Aside0.mk (below_step (bB) hb);have n1_:=Aside0.mk (hbox);have n2_:=Aside0.mk ((bG:w.heap.size≤gb345));have n3_:=Aside0.mk ((bG:w.heap.size≤gb345));clear HB;have HB:=n0_;have BK345:=n1_;have GW345:=n2_;have GE345:=n3_;clear n0_ n1_ n2_ n3_;clear hb hbox hg;obtain⟨hcz7_0,hcz7_1,hcz7_2,hcz7_3,hcz7_4,hcz7_5,hcz7_6,hcz7_7,hcz7_8,hcz7_9⟩:=cC10 BK345.out;obtain⟨hfz7_0,hfz7_1,hfz7_2,hfz7_3,hfz7_4,hfz7_5,hfz7_6,hfz7_7,hfz7_8,hfz7_9⟩:=cF10 BK345.out)|((with_reducible refine gate_callee (f:=67) rfl ?_);refine goesA (some 17) rfl rfl Try.func67 #[.slice A0 l0.length c0,.agg #[.int .i64 a1_0,.int .i64 a1_1,.bool a1_2,.int .i64 a1_3,.int .i64 a1_4,.int .i64 a1_5,.int .i64 a1_6,.int .i64 a1_7,.int .i64 a1_8,.string a1_9],.slice A2 l2.length c2] rfl ?_;(with_reducible refine(impl_ReachAll.calls k _ _ l0 a1_0 a1_1 a1_2 a1_3 a1_4 a1_5 a1_6 a1_7 a1_8 a1_9 _ _ l2 t346 true _ ?side1 ?side2 ?side3 ?side4 A4.out).mono ?_);(case side1=>exact bC HR0.out);(case side2=>exact HC0.out);(case side3=>exact bC HR2.out);(case side4=>exact HC2.out);rintro e w8 ⟨v347,rfl,ho0,hb⟩;refine⟨_,rfl,?_⟩;have n0_:=Aside0.mk (Kd.S_lower ho0 (below_size (bS GE345.out)));have n1_:=Aside0.mk (bM BK345.out hb);have n2_:=Aside0.mk (below_step (bS GE345.out) hb);clear BK345 HB;have HO348:=n0_;have BK345:=n1_;have HB:=n2_;clear n0_ n1_ n2_;(try clear hb);(try clear hb2);(try clear hk);(try clear hi);(try clear ho0))|((with_reducible refine gate_dst (N:=22) rfl ?_);refine Kd.R_lit (Kd.int .i64) _ 3 ?hg (N:=22) ?hd (xs:=([]:List Int)) (inner:=[]) (ok:=fun _=>True) (okp:=fun _=>True) ?hr ?hp (fun _ hk=>hk) trivial (Below.refl _ _) (Nat.le_refl _) (by simp) ?_;(case hd=>rfl);(case hg=>rfl);(case hr=>first|(go_simp;done)|(go_simp;rfl));(case hp=>exact(Reps.none _ _));intro v351 w9 ho10 hb hg_ hnew_;clear hg_ hnew_;(first|rw[← Ny350.out] at ho10|(simp only[Int.reduceToNat] at ho10;rw[← Ny350.out] at ho10));have n0_:=Aside0.mk (Kd.S_elder' (by(with_reducible repeat (first|apply Kd.S_alloc|apply Kd.S_drewN|apply Kd.S_drew));exact HO348.out) (Kd.R_base ho10) hb);have n1_:=Aside0.mk (Kd.R_lower ho10 (below_size (bS GE345.out)));have n2_:=Aside0.mk (bM BK345.out hb);have n3_:=Aside0.mk (below_step (bS GE345.out) hb);clear HO348 BK345 HB;have HO348:=n0_;have HO352:=n1_;have BK345:=n2_;have HB:=n3_;clear n0_ n1_ n2_ n3_;clear hb ho10;obtain⟨Ao11,co11,eo11⟩:=Kd.S_slice HO348.out;subst eo11))
  go_loopg [10,25] k (fun kq v10 v25 w' => ∃ (x10_1:List Int) (x25_1:Int),v25=.int .i64 x25_1∧Aside0 (impl_TreeFor.l0 kq x10_1 t346 (t346.length:Int) x25_1=some (r1,r2))∧Aside0 (kq≤k)∧Aside0 (Kd.R (Kd.int .i64) 3 w' w.heap.size (fun _=>True) v10 x10_1)∧Aside0 (Kd.S k109 109 w' w.heap.size (fun k_=>some k_≠(v10:Value).ownBlock) (.slice Ao11 t346.length co11) t346)∧Aside0 (w'.heap[gb345]?=some (.cells #[.int .i64 a1_0,.int .i64 a1_1,.bool a1_2,.int .i64 a1_3,.int .i64 a1_4,.int .i64 a1_5,.int .i64 a1_6,.int .i64 a1_7,.int .i64 a1_8,.string a1_9] 79 (0,0)))∧Aside0 (Below w.heap.size w w'))
  case atStart=>exact⟨(y350),(0),(bR),H',⟨Nat.le_refl _⟩,⟨by(with_reducible repeat (first|apply Kd.R_alloc|apply Kd.R_drewN|apply Kd.R_drew));exact HO352.out⟩,⟨by(with_reducible repeat (first|apply Kd.S_alloc|apply Kd.S_drewN|apply Kd.S_drew));exact Kd.S_mono HO348.out (fun _ hk=>hk.2)⟩,⟨by(with_reducible repeat (first|refine blk_drewN ?_ _|refine blk_drew ?_|refine blk_alloc ?_ _));exact BK345.out⟩,⟨bS GE345.out⟩⟩
  case round =>
   clear H'
   try clear c2
   try clear p2
   try clear c5
   try clear c6
   try clear hcz7_0 hcz7_1 hcz7_2 hcz7_3 hcz7_4 hcz7_5 hcz7_6 hcz7_7 hcz7_8 hcz7_9
   try clear hfz7_0 hfz7_1 hfz7_2 hfz7_3 hfz7_4 hfz7_5 hfz7_6 hfz7_7 hfz7_8 hfz7_9
   obtain⟨x10_1,x25_1,rfl,HA,HK1,HO_10,HO_23,BK345,HB⟩:=hrel
   cases gk with
   | zero=>exact absurd HA.out (by simp[impl_TreeFor.l0])
   | succ k1 =>
    have H:=HA.out
    clear HA
    simp only[impl_TreeFor.l0] at H
    by_cases c12:x25_1 < (t346.length:Int)
    ·rw[if_pos c12] at H
     have c12b0:decide (x25_1 < (t346.length:Int))=true:=decide_eq_true c12
     clear c12
     by_cases c13:0≤x25_1
     ·rw[if_pos c13] at H
      have c13b0:decide (0≤x25_1)=true:=decide_eq_true c13
      clear c13
      by_cases c14:x25_1 < (t346.length:Int)
      ·rw[if_pos c14] at H
       have c14b0:decide (x25_1 < (t346.length:Int))=true:=decide_eq_true c14
       clear c14
       by_cases c15:x10_1.length+((rd_T109 t346 x25_1).f2).length < 17592186044416
       ·rw[if_pos c15] at H
        have LMc15:=Aside0.mk c15
        clear c15
        obtain⟨y355,hy355⟩ : ∃ y_:List Int,y_=(x10_1++((rd_T109 t346 x25_1).f2)):=⟨_,rfl⟩
        replace H:(impl_TreeFor.l0 k1 y355 t346 (t346.length:Int) (wrap64 (x25_1+1)))=some (r1,r2):=by first|(rw[hy355];with_reducible exact H)|(have H2_:=(Option.bind_some _ _).symm.trans H;rw[hy355];with_reducible exact H2_)|(have H2_:=(Option.bind_some _ _).symm.trans H;with_reducible exact H2_)|with_reducible exact H|(rw[hy355];exact H)|exact H
        have Ny355:=Aside0.mk hy355
        clear hy355
        have H':=Aside0.mk H
        clear H
        have p353:0≤(x25_1:Int):=of_decide_eq_true (bD)
        have q353:x25_1 < (t346.length:Int):=of_decide_eq_true (bD)
        obtain⟨ad353,A353_2,c353_2,e353,hx353_0,hx353_1,hx353_2,hl353_2,hi353_2⟩:=at_T109 (Kd.S_reads' HO_23.out).2.2 x25_1 p353 q353
        cases e353
        obtain⟨ce353,hce353,hMe353,hcc353⟩:=Kd.S_get HO_23.out z109 x25_1 p353 (by first|exact q353|exact of_decide_eq_true (bD)|(have e_:=(Kd.S_reads' HO_23.out).1;omega))
        obtain⟨ve353_2,rfl,ge353_2⟩:=k109_openM hMe353
        have hv353_2:=hcc353 2 _ rfl
        rw[add_field _ _ 2 (by omega)] at hv353_2
        replace hv353_2:=Option.some.inj (hv353_2.symm.trans hx353_2)
        rw[hv353_2] at ge353_2
        have HL353_2:=Aside0.mk (show Kd.R (Kd.int .i64) 3 _ _ _ _ ((rd_T109 t346 x25_1).f2) from ge353_2)
        clear hv353_2 ge353_2 hcc353 hce353
        have HR353_2:=Aside0.mk hi353_2
        have HC353_2:=Aside0.mk hl353_2
        clear hi353_2 hl353_2
        replace p353:=eq_true p353
        replace q353:=eq_true q353
        go_wp2_with (first|((with_reducible refine gate_dst (N:=12) rfl ?_);refine box_event ?hg (N:=12) ?hd (cs:=#[.int .i64 0,.int .i64 0,.slice none 0 0]) (t:=109) ?hr ?_;(case hd=>rfl);(case hg=>rfl);(case hr=>first|(go_simp;done)|(go_simp;rfl));intro gb354 hg w16 hbox hb;have n0_:=Aside0.mk (Kd.R_below (bK HO_10.out) hb);have n1_:=Aside0.mk (Kd.S_below (Kd.S_elderB (by(with_reducible repeat (first|apply Kd.S_alloc|apply Kd.S_drewN|apply Kd.S_drew));exact HO_23.out) gb354 (Nat.le_of_eq hg.symm)) hb);have n2_:=Aside0.mk (Kd.R_below (bK HL353_2.out) hb);have n3_:=Aside0.mk (bM BK345.out hb);have n4_:=Aside0.mk (Kd.C_below (by repeat (first|(with_reducible exact HR353_2.out)|(with_reducible refine Kd.C_alloc ?_ _)|(with_reducible refine Kd.C_drewN ?_ _)|(with_reducible refine Kd.C_drew ?_)|exact HR353_2.out)) hb);have n5_:=Aside0.mk (below_step (bS GE345.out) hb);have n6_:=Aside0.mk (hbox);have n7_:=Aside0.mk ((by rw[hg];exact(below_size (bS GE345.out)):w.heap.size≤gb354));have n8_:=Aside0.mk ((by rw[hg];exact(below_size (bS GE345.out)):w.heap.size≤gb354));have n9_:=Aside0.mk ((bN BK345.out hg:gb345≠gb354));have n10_:=Aside0.mk ((bO BK345.out hg:gb354≠gb345));clear HO_10 HO_23 HL353_2 BK345 HR353_2 HB;have HO_10:=n0_;have HO_23:=n1_;have HL353_2:=n2_;have BK345:=n3_;have HR353_2:=n4_;have HB:=n5_;have BK354:=n6_;have GW354:=n7_;have GE354:=n8_;have NB345_354:=n9_;have NB354_345:=n10_;clear n0_ n1_ n2_ n3_ n4_ n5_ n6_ n7_ n8_ n9_ n10_;clear hb hbox hg;have hnb17:=NB354_345.out;have hnc17:=NB345_354.out;obtain⟨hcz18_0,hcz18_1,hcz18_2⟩:=cC3 BK354.out;obtain⟨hfz18_0,hfz18_1,hfz18_2⟩:=cF3 BK354.out)|((with_reducible refine gate_builtin (b:=.append) (xs:=#[.tmp 29,.tmp 31]) rfl ?_);at_builtin;refine Kd.R_append_rows (Kd.int .i64) (w0:=w) w.heap.size rfl (.tmp 29) (.tmp 31) 47 3 (.int .i64 0) 8 rfl Try.underlying47 info3 rfl (by decide) (by omega) u10 x10_1 ((rd_T109 t346 x25_1).f2) _ _ _ (fun _=>True) (fun _=>False) rfl rfl ?aO ?aR (fun _ _ h=>h) (fun _ h=>h.elim) ?aF ?aB ?aS ?aL ?_;(case aR=>repeat (first|exact((Kd.R_reads' (by(with_reducible repeat (first|apply Kd.R_alloc|apply Kd.R_drewN|apply Kd.R_drew));exact(Kd.R_mono (Kd.R_far (p:=⟨gb354,2,none⟩) (Kd.R_far (p:=⟨gb354,1,none⟩) (Kd.R_far (p:=⟨gb354,0,none⟩) (Kd.R_types HL353_2.out BK354.out (by decide)) (fun _ hk=>hk.2) (.int .i64 ((rd_T109 t346 x25_1).f0))) (fun _ hk=>hk.2) (.int .i64 ((rd_T109 t346 x25_1).f1))) (fun _ hk=>hk.2) (.slice A353_2 ((rd_T109 t346 x25_1).f2).length c353_2)) (fun _ h_=>h_.1)))).2.2)|(with_reducible refine Kd.C_alloc ?_ _)|(with_reducible refine Kd.C_drewN ?_ _)|(with_reducible refine Kd.C_drew ?_)));(case aB=>exact(bS2 GE345.out GE354.out));(case aF=>exact(fun _ _=>trivial));(case aO=>exact(by(with_reducible repeat (first|apply Kd.R_alloc|apply Kd.R_drewN|apply Kd.R_drew));exact Kd.R_mono (Kd.R_far (p:=⟨gb354,2,none⟩) (Kd.R_far (p:=⟨gb354,1,none⟩) (Kd.R_far (p:=⟨gb354,0,none⟩) (Kd.R_types HO_10.out BK354.out (by decide)) (fun _ hk=>hk.2) (.int .i64 ((rd_T109 t346 x25_1).f0))) (fun _ hk=>hk.2) (.int .i64 ((rd_T109 t346 x25_1).f1))) (fun _ hk=>hk.2) (.slice A353_2 ((rd_T109 t346 x25_1).f2).length c353_2)) (fun _ hk=>trivial)));(case aS=>exact(below_size (bS2 GE345.out GE354.out)));(case aL=>have:=LMc15.out;omega);intro v356 w19 ho hb hg hat;rw[← Ny355.out] at ho;have n0_:=Aside0.mk (Kd.S_after (ok:=(fun k_=>k_≠gb354)) (by(with_reducible repeat (first|apply Kd.S_alloc|apply Kd.S_drewN|apply Kd.S_drew));exact Kd.S_mono (Kd.S_far (p:=⟨gb354,2,none⟩) (Kd.S_far (p:=⟨gb354,1,none⟩) (Kd.S_far (p:=⟨gb354,0,none⟩) (Kd.S_mono HO_23.out (fun k_ hk=>(⟨hk,hk.2⟩:_∧k_≠gb354))) (fun _ hk=>hk.2) (.int .i64 ((rd_T109 t346 x25_1).f0))) (fun _ hk=>hk.2) (.int .i64 ((rd_T109 t346 x25_1).f1))) (fun _ hk=>hk.2) (.slice A353_2 ((rd_T109 t346 x25_1).f2).length c353_2)) (fun _ hk=>⟨hk.1.2,hk.1.1⟩)) hg hat);have n1_:=Aside0.mk (blk_grown (g:=gb345) (o:=.cells #[.int .i64 a1_0,.int .i64 a1_1,.bool a1_2,.int .i64 a1_3,.int .i64 a1_4,.int .i64 a1_5,.int .i64 a1_6,.int .i64 a1_7,.int .i64 a1_8,.string a1_9] 79 (0,0)) (by(with_reducible repeat (first|refine blk_drewN ?_ _|refine blk_drew ?_|refine blk_alloc ?_ _));refine blk_far ?_ NB345_354.out _;(with_reducible repeat (first|refine blk_drewN ?_ _|refine blk_drew ?_|refine blk_alloc ?_ _));refine blk_far ?_ NB345_354.out _;(with_reducible repeat (first|refine blk_drewN ?_ _|refine blk_drew ?_|refine blk_alloc ?_ _));refine blk_far ?_ NB345_354.out _;(with_reducible repeat (first|refine blk_drewN ?_ _|refine blk_drew ?_|refine blk_alloc ?_ _));exact BK345.out) hg (Kd.R_ne HO_10.out BK345.out (by decide)));have n2_:=Aside0.mk (Kd.R_after (ok:=(fun k_=>some k_≠(.slice (some ad353) t346.length co11:Value).ownBlock)) (by(with_reducible repeat (first|apply Kd.R_alloc|apply Kd.R_drewN|apply Kd.R_drew));exact Kd.R_mono (Kd.R_far (p:=⟨gb354,2,none⟩) (Kd.R_far (p:=⟨gb354,1,none⟩) (Kd.R_far (p:=⟨gb354,0,none⟩) (Kd.R_types HL353_2.out BK354.out (by decide)) (fun _ hk=>hk.2) (.int .i64 ((rd_T109 t346 x25_1).f0))) (fun _ hk=>hk.2) (.int .i64 ((rd_T109 t346 x25_1).f1))) (fun _ hk=>hk.2) (.slice A353_2 ((rd_T109 t346 x25_1).f2).length c353_2)) (fun _ hk=>⟨hk.1.2,hk.1.1⟩)) hg hat);have n3_:=Aside0.mk (blk_grown (g:=gb354) (o:=.cells #[.int .i64 ((rd_T109 t346 x25_1).f0),.int .i64 ((rd_T109 t346 x25_1).f1),.slice A353_2 ((rd_T109 t346 x25_1).f2).length c353_2] 109 (0,0)) (by(with_reducible repeat (first|refine blk_drewN ?_ _|refine blk_drew ?_|refine blk_alloc ?_ _));refine blk_put (cs:=#[.int .i64 ((rd_T109 t346 x25_1).f0),.int .i64 ((rd_T109 t346 x25_1).f1),.slice none 0 0]) ?_ 2 _ rfl;(with_reducible repeat (first|refine blk_drewN ?_ _|refine blk_drew ?_|refine blk_alloc ?_ _));refine blk_put (cs:=#[.int .i64 ((rd_T109 t346 x25_1).f0),.int .i64 0,.slice none 0 0]) ?_ 1 _ rfl;(with_reducible repeat (first|refine blk_drewN ?_ _|refine blk_drew ?_|refine blk_alloc ?_ _));refine blk_put (cs:=#[.int .i64 0,.int .i64 0,.slice none 0 0]) ?_ 0 _ rfl;(with_reducible repeat (first|refine blk_drewN ?_ _|refine blk_drew ?_|refine blk_alloc ?_ _));exact BK354.out) hg (Kd.R_ne HO_10.out BK354.out (by decide)));have n4_:=Aside0.mk (hb);have n5_:=Aside0.mk (ho);clear HO_23 BK345 HL353_2 BK354 HB HO_10;have HO_23:=n0_;have BK345:=n1_;have HL353_2:=n2_;have BK354:=n3_;have HB:=n4_;have HO357:=n5_;clear n0_ n1_ n2_ n3_ n4_ n5_;clear ho hb hg hat))
        go_roundg k1
        case measure=>have:=HK1.out;omega
        case rel=>exact⟨(y355),(wrap64 (x25_1+1)),(bR),H',⟨by have:=HK1.out;omega⟩,⟨by(with_reducible repeat (first|apply Kd.R_alloc|apply Kd.R_drewN|apply Kd.R_drew));exact HO357.out⟩,⟨by(with_reducible repeat (first|apply Kd.S_alloc|apply Kd.S_drewN|apply Kd.S_drew));exact Kd.S_mono HO_23.out (fun _ hk=>hk.2)⟩,⟨by(with_reducible repeat (first|refine blk_drewN ?_ _|refine blk_drew ?_|refine blk_alloc ?_ _));exact BK345.out⟩,⟨bS2 GE345.out GE354.out⟩⟩
       ·rw[if_neg c15] at H
        exact absurd H (by simp)
      ·rw[if_neg c14] at H
       exact absurd H (by simp)
     ·rw[if_neg c13] at H
      exact absurd H (by simp)
    ·rw[if_neg c12] at H
     have c12b0:decide (x25_1 < (t346.length:Int))=false:=decide_eq_false c12
     clear c12
     replace H:=Option.bind_eq_some_iff.mp H
     obtain⟨t358,A200,H⟩:=H
     replace H:((slices_Compact_int_int.f k1 t358).bind fun t359=>(some (t359,true)))=some (r1,r2):=H
     have A20:=Aside0.mk A200
     clear A200
     replace H:=Option.bind_eq_some_iff.mp H
     obtain⟨t359,A210,H⟩:=H
     replace H:(some (t359,true))=some (r1,r2):=H
     have A21:=Aside0.mk A210
     clear A210
     simp only[Option.some.injEq,Prod.mk.injEq] at H
     obtain⟨rfl,rfl⟩:=H
     obtain⟨Ao22,co22,eo22⟩:=Kd.R_slice HO_10.out
     subst eo22
     go_wp2_with (first|((with_reducible refine gate_callee (f:=126) rfl ?_);refine goesA (some 35) rfl rfl Try.func126 #[.slice Ao22 x10_1.length co22] rfl ?_;(with_reducible refine(slices_Sort_int_int.calls k1 (fun k_=>some k_=(.slice Ao22 x10_1.length co22:Value).ownBlock) (.slice Ao22 x10_1.length co22) x10_1 t358 w _ ?side1 ?side2 A20.out).mono ?_);(case side1=>repeat (first|(with_reducible first|exact HB.out|apply below_alloc|apply pw_below_drewN|apply below_drew1|refine below_set ?_ GE345.out)|exact HB.out));(case side2=>exact Kd.R_tight rfl HO_10.out);rintro e w23 ⟨rfl,hy0,hb,hkp⟩;refine⟨_,rfl,?_⟩;have n0_:=Aside0.mk (Kd.R_reok rfl hy0 (fun k_ e_=>HO_10.out.1 k_ e_));have n1_:=Aside0.mk (Kd.S_mono (ok':=fun k_=>some k_≠(.slice Ao22 x10_1.length co22:Value).ownBlock) (Kd.S_keptB (HO_23.out) hkp (fun k_ hk_ hs_=>(hk_) hs_)) (fun k_ hk_=>hk_.1));have n2_:=Aside0.mk (blk_kept (bL BK345.out) hkp (fun hs_=>(fun e_=>(Kd.R_ne HO_10.out BK345.out (by decide)) e_) hs_));have n3_:=Aside0.mk (hb);clear HO_10 HO_23 BK345 HB;have HO_10:=n0_;have HO_23:=n1_;have BK345:=n2_;have HB:=n3_;clear n0_ n1_ n2_ n3_;(try clear hb);(try clear hkp);(try clear hy0))|((with_reducible refine gate_callee (f:=127) rfl ?_);refine goesA (some 37) rfl rfl Try.func127 #[.slice Ao22 x10_1.length co22] rfl ?_;(with_reducible refine(slices_Compact_int_int.calls k1 (fun k_=>some k_=(.slice Ao22 x10_1.length co22:Value).ownBlock) (.slice Ao22 x10_1.length co22) t358 t359 w _ ?side1 ?side2 A21.out).mono ?_);(case side1=>repeat (first|(with_reducible first|exact HB.out|apply below_alloc|apply pw_below_drewN|apply below_drew1|refine below_set ?_ GE345.out)|exact HB.out));(case side2=>exact Kd.R_tight rfl HO_10.out);rintro e w24 ⟨v360,rfl,ho0,hb,hkp⟩;refine⟨_,rfl,?_⟩;have n0_:=Aside0.mk (Kd.S_mono (ok':=fun k_=>some k_≠(v360:Value).ownBlock) (Kd.S_keptB (HO_23.out) hkp (fun k_ hk_ hs_=>(hk_) hs_)) (fun k_ hk_=>fun e_=>Or.elim (ho0.1 k_ e_.symm) (fun hs_=>hk_.2.1 hs_) (fun hn_=>Nat.not_le.2 hk_.2.2 hn_)));have n1_:=Aside0.mk (blk_kept (bL BK345.out) hkp (fun hs_=>(fun e_=>(Kd.R_ne HO_10.out BK345.out (by decide)) e_) hs_));have n2_:=Aside0.mk (Kd.R_mono (ok':=fun k_=>True) ho0 (fun k_ hk_=>trivial));have n3_:=Aside0.mk (hb);clear HO_23 BK345 HB HO_10;have HO_23:=n0_;have BK345:=n1_;have HO361:=n2_;have HB:=n3_;clear n0_ n1_ n2_ n3_;(try clear hb);(try clear hkp);(try clear ho0)))
     go_ret2
     exact⟨_,by first|rfl|(simp[errW_none,errW_some]<;>rfl)|(simp[*,errW_none,errW_some]<;>rfl),by(with_reducible repeat (first|apply Kd.R_alloc|apply Kd.R_drewN|apply Kd.R_drew));exact HO361.out,bS GE345.out⟩
 ·replace c5:=Bool.eq_false_iff.mpr c5
  subst c5
  have H1:(some (([]:List Int),false))=some (r1,r2):=by rw[if_neg (show ¬ (false=true) by decide)] at H;exact H
  clear H
  have H:=H1
  clear H1
  simp only[Option.some.injEq,Prod.mk.injEq] at H
  obtain⟨rfl,rfl⟩:=H
  go_enter Try.func53,Try.ntmps53
  go_wp2_with (first|((with_reducible refine gate_dst (N:=4) rfl ?_);refine box_event ?hg (N:=4) ?hd (cs:=#[.int .i64 a1_0,.int .i64 a1_1,.bool a1_2,.int .i64 a1_3,.int .i64 a1_4,.int .i64 a1_5,.int .i64 a1_6,.int .i64 a1_7,.int .i64 a1_8,.string a1_9]) (t:=79) ?hr ?_;(case hd=>rfl);(case hg=>rfl);(case hr=>first|(go_simp;done)|(go_simp;rfl));intro gb345 hg w25 hbox hb;have n0_:=Aside0.mk (below_step (bB) hb);have n1_:=Aside0.mk (hbox);have n2_:=Aside0.mk ((bG:w.heap.size≤gb345));have n3_:=Aside0.mk ((bG:w.heap.size≤gb345));clear HB;have HB:=n0_;have BK345:=n1_;have GW345:=n2_;have GE345:=n3_;clear n0_ n1_ n2_ n3_;clear hb hbox hg;obtain⟨hcz26_0,hcz26_1,hcz26_2,hcz26_3,hcz26_4,hcz26_5,hcz26_6,hcz26_7,hcz26_8,hcz26_9⟩:=cC10 BK345.out;obtain⟨hfz26_0,hfz26_1,hfz26_2,hfz26_3,hfz26_4,hfz26_5,hfz26_6,hfz26_7,hfz26_8,hfz26_9⟩:=cF10 BK345.out)|((with_reducible refine gate_callee (f:=67) rfl ?_);refine goesA (some 17) rfl rfl Try.func67 #[.slice A0 l0.length c0,.agg #[.int .i64 a1_0,.int .i64 a1_1,.bool a1_2,.int .i64 a1_3,.int .i64 a1_4,.int .i64 a1_5,.int .i64 a1_6,.int .i64 a1_7,.int .i64 a1_8,.string a1_9],.slice A2 l2.length c2] rfl ?_;(with_reducible refine(impl_ReachAll.calls k _ _ l0 a1_0 a1_1 a1_2 a1_3 a1_4 a1_5 a1_6 a1_7 a1_8 a1_9 _ _ l2 t346 false _ ?side1 ?side2 ?side3 ?side4 A4.out).mono ?_);(case side1=>exact bC HR0.out);(case side2=>exact HC0.out);(case side3=>exact bC HR2.out);(case side4=>exact HC2.out);rintro e w27 ⟨v347,rfl,ho0,hb⟩;refine⟨_,rfl,?_⟩;have n0_:=Aside0.mk (Kd.S_lower ho0 (below_size (bS GE345.out)));have n1_:=Aside0.mk (bM BK345.out hb);have n2_:=Aside0.mk (below_step (bS GE345.out) hb);clear BK345 HB;have HO348:=n0_;have BK345:=n1_;have HB:=n2_;clear n0_ n1_ n2_;(try clear hb);(try clear hb2);(try clear hk);(try clear hi);(try clear ho0)))
  go_ret2
  exact⟨_,by first|rfl|(simp[errW_none,errW_some]<;>rfl)|(simp[*,errW_none,errW_some]<;>rfl),by first|exact Kd.R_nil _ _ _ _ _|exact Kd.N_nil _ _ _ _ _|exact Kd.V_nil _ _ _ _ _|exact Kd.Q_nil _ _ _ _ _|exact Kd.S_nil _ _ _ _ _,bS GE345.out⟩

/-! ### laws_eqIntS: function 54 -/
def laws_eqIntS.l0:Nat→List Int→List Int→Int→Option (Bool)
 | 0,_,_,_=>none
 | k+1,x0,x1,x5=>if x5 < (x0.length:Int) then (if 0≤x5 then (if x5 < (x1.length:Int) then (if (rd x0 x5)=(rd x1 x5) then (laws_eqIntS.l0 k x0 x1 (wrap64 (x5+1))) else (some false)) else (none)) else (none)) else (some true)
def laws_eqIntS.f (k:Nat) (l0:List Int) (l1:List Int):Option (Bool):=if (l0.length:Int)=(l1.length:Int) then (laws_eqIntS.l0 k l0 l1 0) else (some false)
theorem laws_eqIntS.mono_l : ∀ k,(∀ y0 y1 y2,LeO (laws_eqIntS.l0 k y0 y1 y2) (laws_eqIntS.l0 (k+1) y0 y1 y2))
 | 0=>fun _ _ _ r h=>by simp[laws_eqIntS.l0] at h
 | k+1=>by
  have ih0:=laws_eqIntS.mono_l k
  ·intro y0 y1 y2
   unfold laws_eqIntS.l0
   repeat' first
   | (with_reducible exact ih0 _ _ _)
   | (with_reducible exact LeO.refl _)
   | (with_reducible exact LeO.none _)
   | (with_reducible refine LeO.ite ?_ ?_)
   | (with_reducible refine LeO.bind ?_ (fun _ => ?_))
   | exact ih0 _ _ _
   | exact LeO.none _
   | refine LeO.ite ?_ ?_
   | refine LeO.bind ?_ (fun _ => ?_)
theorem laws_eqIntS.mono : ∀ a0 a1 k,LeO (laws_eqIntS.f k a0 a1) (laws_eqIntS.f (k+1) a0 a1):=by
 intro a0 a1 k
 have ih0:=laws_eqIntS.mono_l k
 unfold laws_eqIntS.f
 repeat' first
  | (with_reducible exact ih0 _ _ _)
  | (with_reducible exact LeO.refl _)
  | (with_reducible exact LeO.none _)
  | (with_reducible refine LeO.ite ?_ ?_)
  | (with_reducible refine LeO.bind ?_ (fun _ => ?_))
  | exact ih0 _ _ _
  | exact LeO.none _
  | refine LeO.ite ?_ ?_
  | refine LeO.bind ?_ (fun _ => ?_)
set_option maxHeartbeats 8000000 in
set_option maxRecDepth 100000 in
theorem laws_eqIntS.calls (k:Nat) (A0:Option Addr) (c0:Nat) (l0:List Int) (A1:Option Addr) (c1:Nat) (l1:List Int) (r:Bool) (w:World) (hr0:Kd.C (Kd.int .i64) w A0 l0.length l0) (hc0:l0.length≤c0) (hr1:Kd.C (Kd.int .i64) w A1 l1.length l1) (hc1:l1.length≤c1) (h:laws_eqIntS.f k l0 l1=some r) :
  Calls Try.prog 54 #[.slice A0 l0.length c0,.slice A1 l1.length c1] w fun e w'=>e=.returned (.bool r)∧Drawn0 w w':=by
 have HR0:=Aside0.mk hr0
 have HC0:=Aside0.mk hc0
 clear hr0 hc0
 have HR1:=Aside0.mk hr1
 have HC1:=Aside0.mk hc1
 clear hr1 hc1
 have H:(if (l0.length:Int)=(l1.length:Int) then (laws_eqIntS.l0 k l0 l1 0) else (some false))=some r:=h
 clear h
 by_cases c3:(l0.length:Int)=(l1.length:Int)
 ·rw[if_pos c3] at H
  have c3b0:((l0.length:Int) == (l1.length:Int))=true:=beq_iff_eq.mpr c3
  have c3b1:((l0.length:Int) != (l1.length:Int))=false:=bne_eq_false_iff_eq.mpr c3
  have c3b2:(l0.length == l1.length)=true:=by first|simpa using c3|(simp at c3 ⊢;omega)
  clear c3
  have H':=Aside0.mk H
  clear H
  go_enter Try.func54,Try.ntmps54
  go_wp2
  repeat (go_quiet (fail);try go_wp2)
  go_loopg [5] k (fun kq v5 w' => ∃ (x5_1:Int),v5=.int .i64 x5_1∧Aside0 (laws_eqIntS.l0 kq l0 l1 x5_1=some r)∧Aside0 (kq≤k)∧Drawn0 w w')
  case atStart=>exact⟨(0),(bR),H',⟨Nat.le_refl _⟩,bW⟩
  case round =>
   clear H'
   try clear c1
   try clear p2
   try clear c3
   try clear c3b0
   try clear c3b1
   try clear c3b2
   obtain⟨x5_1,rfl,HA,HK1,⟨m1,rfl⟩⟩:=hrel
   cases gk with
   | zero=>exact absurd HA.out (by simp[laws_eqIntS.l0])
   | succ k1 =>
    have H:=HA.out
    clear HA
    simp only[laws_eqIntS.l0] at H
    by_cases c4:x5_1 < (l0.length:Int)
    ·rw[if_pos c4] at H
     have c4b0:decide (x5_1 < (l0.length:Int))=true:=decide_eq_true c4
     clear c4
     by_cases c5:0≤x5_1
     ·rw[if_pos c5] at H
      have c5b0:decide (0≤x5_1)=true:=decide_eq_true c5
      clear c5
      by_cases c6:x5_1 < (l1.length:Int)
      ·rw[if_pos c6] at H
       have c6b0:decide (x5_1 < (l1.length:Int))=true:=decide_eq_true c6
       clear c6
       by_cases c7:(rd l0 x5_1)=(rd l1 x5_1)
       ·rw[if_pos c7] at H
        have c7b0:((rd l0 x5_1) == (rd l1 x5_1))=true:=beq_iff_eq.mpr c7
        have c7b1:((rd l0 x5_1) != (rd l1 x5_1))=false:=bne_eq_false_iff_eq.mpr c7
        clear c7
        have H':=Aside0.mk H
        clear H
        have p362:0≤(x5_1:Int):=of_decide_eq_true (bD)
        have q362:x5_1 < (l0.length:Int):=of_decide_eq_true (bD)
        obtain⟨ad362,e362,hx362_0⟩:=Kd.at_int HR0.out x5_1 p362 q362
        cases e362
        replace p362:=eq_true p362
        replace q362:=eq_true q362
        have p363:0≤(x5_1:Int):=of_decide_eq_true (bD)
        have q363:x5_1 < (l1.length:Int):=of_decide_eq_true (bD)
        obtain⟨ad363,e363,hx363_0⟩:=Kd.at_int HR1.out x5_1 p363 q363
        cases e363
        replace p363:=eq_true p363
        replace q363:=eq_true q363
        go_wp2
        repeat (go_quiet (fail);try go_wp2)
        go_roundg k1
        case measure=>have:=HK1.out;omega
        case rel=>exact⟨(wrap64 (x5_1+1)),(bR),H',⟨by have:=HK1.out;omega⟩,bW⟩
       ·rw[if_neg c7] at H
        have c7b0:((rd l0 x5_1) == (rd l1 x5_1))=false:=beq_eq_false_iff_ne.mpr c7
        have c7b1:((rd l0 x5_1) != (rd l1 x5_1))=true:=bne_iff_ne.mpr c7
        obtain rfl:=Option.some.inj H
        have p362:0≤(x5_1:Int):=of_decide_eq_true (bD)
        have q362:x5_1 < (l0.length:Int):=of_decide_eq_true (bD)
        obtain⟨ad362,e362,hx362_0⟩:=Kd.at_int HR0.out x5_1 p362 q362
        cases e362
        replace p362:=eq_true p362
        replace q362:=eq_true q362
        have p363:0≤(x5_1:Int):=of_decide_eq_true (bD)
        have q363:x5_1 < (l1.length:Int):=of_decide_eq_true (bD)
        obtain⟨ad363,e363,hx363_0⟩:=Kd.at_int HR1.out x5_1 p363 q363
        cases e363
        replace p363:=eq_true p363
        replace q363:=eq_true q363
        go_wp2
        repeat (go_quiet (fail);try go_wp2)
        go_ret
        exact⟨bR,bW⟩
      ·rw[if_neg c6] at H
       exact absurd H (by simp)
     ·rw[if_neg c5] at H
      exact absurd H (by simp)
    ·rw[if_neg c4] at H
     have c4b0:decide (x5_1 < (l0.length:Int))=false:=decide_eq_false c4
     clear c4
     obtain rfl:=Option.some.inj H
     go_wp2
     repeat (go_quiet (fail);try go_wp2)
     go_ret
     exact⟨bR,bW⟩
 ·rw[if_neg c3] at H
  have c3b0:((l0.length:Int) == (l1.length:Int))=false:=beq_eq_false_iff_ne.mpr c3
  have c3b1:((l0.length:Int) != (l1.length:Int))=true:=bne_iff_ne.mpr c3
  have c3b2:(l0.length == l1.length)=false:=by first|simpa using c3|(simp at c3 ⊢;omega)
  obtain rfl:=Option.some.inj H
  go_enter Try.func54,Try.ntmps54
  go_wp2
  repeat (go_quiet (fail);try go_wp2)
  go_ret
  exact⟨bR,bW⟩

/-! ### laws_eqContact: function 128 -/
def laws_eqContact.f (a0_0:Int) (a0_1:Int) (a0_2:Int) (a0_3:Int) (a0_4:Int) (a1_0:Int) (a1_1:Int) (a1_2:Int) (a1_3:Int) (a1_4:Int):Option (Bool):=if a0_0=a1_0 then (if a0_1=a1_1 then (if a0_2=a1_2 then (if a0_3=a1_3 then (if a0_4=a1_4 then (some true) else (some false)) else (some false)) else (some false)) else (some false)) else (some false)
set_option maxHeartbeats 8000000 in
set_option maxRecDepth 100000 in
theorem laws_eqContact.calls (a0_0:Int) (a0_1:Int) (a0_2:Int) (a0_3:Int) (a0_4:Int) (a1_0:Int) (a1_1:Int) (a1_2:Int) (a1_3:Int) (a1_4:Int) (r:Bool) (w:World) (h:laws_eqContact.f a0_0 a0_1 a0_2 a0_3 a0_4 a1_0 a1_1 a1_2 a1_3 a1_4=some r) :
  Calls Try.prog 128 #[.agg #[.int .i64 a0_0,.int .i64 a0_1,.int .i64 a0_2,.int .i64 a0_3,.int .i64 a0_4],.agg #[.int .i64 a1_0,.int .i64 a1_1,.int .i64 a1_2,.int .i64 a1_3,.int .i64 a1_4]] w fun e w'=>e=.returned (.bool r)∧Below w.heap.size w w':=by
 have hu165:=Try.underlying165
 have HB:=Aside0.mk (Below.refl w.heap.size w)
 have H:(if a0_0=a1_0 then (if a0_1=a1_1 then (if a0_2=a1_2 then (if a0_3=a1_3 then (if a0_4=a1_4 then (some true) else (some false)) else (some false)) else (some false)) else (some false)) else (some false))=some r:=h
 clear h
 by_cases c3:a0_0=a1_0
 ·rw[if_pos c3] at H
  have c3b0:(a0_0 == a1_0)=true:=beq_iff_eq.mpr c3
  have c3b1:(a0_0 != a1_0)=false:=bne_eq_false_iff_eq.mpr c3
  clear c3
  by_cases c4:a0_1=a1_1
  ·rw[if_pos c4] at H
   have c4b0:(a0_1 == a1_1)=true:=beq_iff_eq.mpr c4
   have c4b1:(a0_1 != a1_1)=false:=bne_eq_false_iff_eq.mpr c4
   clear c4
   by_cases c5:a0_2=a1_2
   ·rw[if_pos c5] at H
    have c5b0:(a0_2 == a1_2)=true:=beq_iff_eq.mpr c5
    have c5b1:(a0_2 != a1_2)=false:=bne_eq_false_iff_eq.mpr c5
    clear c5
    by_cases c6:a0_3=a1_3
    ·rw[if_pos c6] at H
     have c6b0:(a0_3 == a1_3)=true:=beq_iff_eq.mpr c6
     have c6b1:(a0_3 != a1_3)=false:=bne_eq_false_iff_eq.mpr c6
     clear c6
     by_cases c7:a0_4=a1_4
     ·rw[if_pos c7] at H
      have c7b0:(a0_4 == a1_4)=true:=beq_iff_eq.mpr c7
      have c7b1:(a0_4 != a1_4)=false:=bne_eq_false_iff_eq.mpr c7
      clear c7
      obtain rfl:=Option.some.inj H
      go_enter Try.func128,Try.ntmps128
      go_wp2_with (first|((with_reducible refine gate_dst (N:=2) rfl ?_);refine box_event ?hg (N:=2) ?hd (cs:=#[.int .i64 a0_0,.int .i64 a0_1,.int .i64 a0_2,.int .i64 a0_3,.int .i64 a0_4]) (t:=165) ?hr ?_;(case hd=>rfl);(case hg=>rfl);(case hr=>first|(go_simp;done)|(go_simp;rfl));intro gb364 hg w8 hbox hb;have n0_:=Aside0.mk (below_step (bB) hb);have n1_:=Aside0.mk (hbox);have n2_:=Aside0.mk ((bG:w.heap.size≤gb364));have n3_:=Aside0.mk ((bG:w.heap.size≤gb364));clear HB;have HB:=n0_;have BK364:=n1_;have GW364:=n2_;have GE364:=n3_;clear n0_ n1_ n2_ n3_;clear hb hbox hg)|((with_reducible refine gate_dst (N:=3) rfl ?_);refine box_event ?hg (N:=3) ?hd (cs:=#[.int .i64 a1_0,.int .i64 a1_1,.int .i64 a1_2,.int .i64 a1_3,.int .i64 a1_4]) (t:=165) ?hr ?_;(case hd=>rfl);(case hg=>rfl);(case hr=>first|(go_simp;done)|(go_simp;rfl));intro gb365 hg w9 hbox hb;have n0_:=Aside0.mk (bM BK364.out hb);have n1_:=Aside0.mk (below_step (bS GE364.out) hb);have n2_:=Aside0.mk (hbox);have n3_:=Aside0.mk ((by rw[hg];exact(below_size (bS GE364.out)):w.heap.size≤gb365));have n4_:=Aside0.mk ((by rw[hg];exact(below_size (bS GE364.out)):w.heap.size≤gb365));have n5_:=Aside0.mk ((bN BK364.out hg:gb364≠gb365));have n6_:=Aside0.mk ((bO BK364.out hg:gb365≠gb364));clear BK364 HB;have BK364:=n0_;have HB:=n1_;have BK365:=n2_;have GW365:=n3_;have GE365:=n4_;have NB364_365:=n5_;have NB365_364:=n6_;clear n0_ n1_ n2_ n3_ n4_ n5_ n6_;clear hb hbox hg;have hnb10:=NB364_365.out;have hnc10:=NB365_364.out;obtain⟨hcz11_0,hcz11_1,hcz11_2,hcz11_3,hcz11_4⟩:=cC5 BK364.out;obtain⟨hfz11_0,hfz11_1,hfz11_2,hfz11_3,hfz11_4⟩:=cF5 BK364.out;obtain⟨hcz12_0,hcz12_1,hcz12_2,hcz12_3,hcz12_4⟩:=cC5 BK365.out;obtain⟨hfz12_0,hfz12_1,hfz12_2,hfz12_3,hfz12_4⟩:=cF5 BK365.out))
      go_ret
      exact⟨bE,bS2 GE364.out GE365.out⟩
     ·rw[if_neg c7] at H
      have c7b0:(a0_4 == a1_4)=false:=beq_eq_false_iff_ne.mpr c7
      have c7b1:(a0_4 != a1_4)=true:=bne_iff_ne.mpr c7
      obtain rfl:=Option.some.inj H
      go_enter Try.func128,Try.ntmps128
      go_wp2_with (first|((with_reducible refine gate_dst (N:=2) rfl ?_);refine box_event ?hg (N:=2) ?hd (cs:=#[.int .i64 a0_0,.int .i64 a0_1,.int .i64 a0_2,.int .i64 a0_3,.int .i64 a0_4]) (t:=165) ?hr ?_;(case hd=>rfl);(case hg=>rfl);(case hr=>first|(go_simp;done)|(go_simp;rfl));intro gb364 hg w13 hbox hb;have n0_:=Aside0.mk (below_step (bB) hb);have n1_:=Aside0.mk (hbox);have n2_:=Aside0.mk ((bG:w.heap.size≤gb364));have n3_:=Aside0.mk ((bG:w.heap.size≤gb364));clear HB;have HB:=n0_;have BK364:=n1_;have GW364:=n2_;have GE364:=n3_;clear n0_ n1_ n2_ n3_;clear hb hbox hg)|((with_reducible refine gate_dst (N:=3) rfl ?_);refine box_event ?hg (N:=3) ?hd (cs:=#[.int .i64 a1_0,.int .i64 a1_1,.int .i64 a1_2,.int .i64 a1_3,.int .i64 a1_4]) (t:=165) ?hr ?_;(case hd=>rfl);(case hg=>rfl);(case hr=>first|(go_simp;done)|(go_simp;rfl));intro gb365 hg w14 hbox hb;have n0_:=Aside0.mk (bM BK364.out hb);have n1_:=Aside0.mk (below_step (bS GE364.out) hb);have n2_:=Aside0.mk (hbox);have n3_:=Aside0.mk ((by rw[hg];exact(below_size (bS GE364.out)):w.heap.size≤gb365));have n4_:=Aside0.mk ((by rw[hg];exact(below_size (bS GE364.out)):w.heap.size≤gb365));have n5_:=Aside0.mk ((bN BK364.out hg:gb364≠gb365));have n6_:=Aside0.mk ((bO BK364.out hg:gb365≠gb364));clear BK364 HB;have BK364:=n0_;have HB:=n1_;have BK365:=n2_;have GW365:=n3_;have GE365:=n4_;have NB364_365:=n5_;have NB365_364:=n6_;clear n0_ n1_ n2_ n3_ n4_ n5_ n6_;clear hb hbox hg;have hnb15:=NB364_365.out;have hnc15:=NB365_364.out;obtain⟨hcz16_0,hcz16_1,hcz16_2,hcz16_3,hcz16_4⟩:=cC5 BK364.out;obtain⟨hfz16_0,hfz16_1,hfz16_2,hfz16_3,hfz16_4⟩:=cF5 BK364.out;obtain⟨hcz17_0,hcz17_1,hcz17_2,hcz17_3,hcz17_4⟩:=cC5 BK365.out;obtain⟨hfz17_0,hfz17_1,hfz17_2,hfz17_3,hfz17_4⟩:=cF5 BK365.out))
      go_ret
      exact⟨bE,bS2 GE364.out GE365.out⟩
    ·rw[if_neg c6] at H
     have c6b0:(a0_3 == a1_3)=false:=beq_eq_false_iff_ne.mpr c6
     have c6b1:(a0_3 != a1_3)=true:=bne_iff_ne.mpr c6
     obtain rfl:=Option.some.inj H
     go_enter Try.func128,Try.ntmps128
     go_wp2_with (first|((with_reducible refine gate_dst (N:=2) rfl ?_);refine box_event ?hg (N:=2) ?hd (cs:=#[.int .i64 a0_0,.int .i64 a0_1,.int .i64 a0_2,.int .i64 a0_3,.int .i64 a0_4]) (t:=165) ?hr ?_;(case hd=>rfl);(case hg=>rfl);(case hr=>first|(go_simp;done)|(go_simp;rfl));intro gb364 hg w18 hbox hb;have n0_:=Aside0.mk (below_step (bB) hb);have n1_:=Aside0.mk (hbox);have n2_:=Aside0.mk ((bG:w.heap.size≤gb364));have n3_:=Aside0.mk ((bG:w.heap.size≤gb364));clear HB;have HB:=n0_;have BK364:=n1_;have GW364:=n2_;have GE364:=n3_;clear n0_ n1_ n2_ n3_;clear hb hbox hg)|((with_reducible refine gate_dst (N:=3) rfl ?_);refine box_event ?hg (N:=3) ?hd (cs:=#[.int .i64 a1_0,.int .i64 a1_1,.int .i64 a1_2,.int .i64 a1_3,.int .i64 a1_4]) (t:=165) ?hr ?_;(case hd=>rfl);(case hg=>rfl);(case hr=>first|(go_simp;done)|(go_simp;rfl));intro gb365 hg w19 hbox hb;have n0_:=Aside0.mk (bM BK364.out hb);have n1_:=Aside0.mk (below_step (bS GE364.out) hb);have n2_:=Aside0.mk (hbox);have n3_:=Aside0.mk ((by rw[hg];exact(below_size (bS GE364.out)):w.heap.size≤gb365));have n4_:=Aside0.mk ((by rw[hg];exact(below_size (bS GE364.out)):w.heap.size≤gb365));have n5_:=Aside0.mk ((bN BK364.out hg:gb364≠gb365));have n6_:=Aside0.mk ((bO BK364.out hg:gb365≠gb364));clear BK364 HB;have BK364:=n0_;have HB:=n1_;have BK365:=n2_;have GW365:=n3_;have GE365:=n4_;have NB364_365:=n5_;have NB365_364:=n6_;clear n0_ n1_ n2_ n3_ n4_ n5_ n6_;clear hb hbox hg;have hnb20:=NB364_365.out;have hnc20:=NB365_364.out;obtain⟨hcz21_0,hcz21_1,hcz21_2,hcz21_3,hcz21_4⟩:=cC5 BK364.out;obtain⟨hfz21_0,hfz21_1,hfz21_2,hfz21_3,hfz21_4⟩:=cF5 BK364.out;obtain⟨hcz22_0,hcz22_1,hcz22_2,hcz22_3,hcz22_4⟩:=cC5 BK365.out;obtain⟨hfz22_0,hfz22_1,hfz22_2,hfz22_3,hfz22_4⟩:=cF5 BK365.out))
     go_ret
     exact⟨bE,bS2 GE364.out GE365.out⟩
   ·rw[if_neg c5] at H
    have c5b0:(a0_2 == a1_2)=false:=beq_eq_false_iff_ne.mpr c5
    have c5b1:(a0_2 != a1_2)=true:=bne_iff_ne.mpr c5
    obtain rfl:=Option.some.inj H
    go_enter Try.func128,Try.ntmps128
    go_wp2_with (first|((with_reducible refine gate_dst (N:=2) rfl ?_);refine box_event ?hg (N:=2) ?hd (cs:=#[.int .i64 a0_0,.int .i64 a0_1,.int .i64 a0_2,.int .i64 a0_3,.int .i64 a0_4]) (t:=165) ?hr ?_;(case hd=>rfl);(case hg=>rfl);(case hr=>first|(go_simp;done)|(go_simp;rfl));intro gb364 hg w23 hbox hb;have n0_:=Aside0.mk (below_step (bB) hb);have n1_:=Aside0.mk (hbox);have n2_:=Aside0.mk ((bG:w.heap.size≤gb364));have n3_:=Aside0.mk ((bG:w.heap.size≤gb364));clear HB;have HB:=n0_;have BK364:=n1_;have GW364:=n2_;have GE364:=n3_;clear n0_ n1_ n2_ n3_;clear hb hbox hg)|((with_reducible refine gate_dst (N:=3) rfl ?_);refine box_event ?hg (N:=3) ?hd (cs:=#[.int .i64 a1_0,.int .i64 a1_1,.int .i64 a1_2,.int .i64 a1_3,.int .i64 a1_4]) (t:=165) ?hr ?_;(case hd=>rfl);(case hg=>rfl);(case hr=>first|(go_simp;done)|(go_simp;rfl));intro gb365 hg w24 hbox hb;have n0_:=Aside0.mk (bM BK364.out hb);have n1_:=Aside0.mk (below_step (bS GE364.out) hb);have n2_:=Aside0.mk (hbox);have n3_:=Aside0.mk ((by rw[hg];exact(below_size (bS GE364.out)):w.heap.size≤gb365));have n4_:=Aside0.mk ((by rw[hg];exact(below_size (bS GE364.out)):w.heap.size≤gb365));have n5_:=Aside0.mk ((bN BK364.out hg:gb364≠gb365));have n6_:=Aside0.mk ((bO BK364.out hg:gb365≠gb364));clear BK364 HB;have BK364:=n0_;have HB:=n1_;have BK365:=n2_;have GW365:=n3_;have GE365:=n4_;have NB364_365:=n5_;have NB365_364:=n6_;clear n0_ n1_ n2_ n3_ n4_ n5_ n6_;clear hb hbox hg;have hnb25:=NB364_365.out;have hnc25:=NB365_364.out;obtain⟨hcz26_0,hcz26_1,hcz26_2,hcz26_3,hcz26_4⟩:=cC5 BK364.out;obtain⟨hfz26_0,hfz26_1,hfz26_2,hfz26_3,hfz26_4⟩:=cF5 BK364.out;obtain⟨hcz27_0,hcz27_1,hcz27_2,hcz27_3,hcz27_4⟩:=cC5 BK365.out;obtain⟨hfz27_0,hfz27_1,hfz27_2,hfz27_3,hfz27_4⟩:=cF5 BK365.out))
    go_ret
    exact⟨bE,bS2 GE364.out GE365.out⟩
  ·rw[if_neg c4] at H
   have c4b0:(a0_1 == a1_1)=false:=beq_eq_false_iff_ne.mpr c4
   have c4b1:(a0_1 != a1_1)=true:=bne_iff_ne.mpr c4
   obtain rfl:=Option.some.inj H
   go_enter Try.func128,Try.ntmps128
   go_wp2_with (first|((with_reducible refine gate_dst (N:=2) rfl ?_);refine box_event ?hg (N:=2) ?hd (cs:=#[.int .i64 a0_0,.int .i64 a0_1,.int .i64 a0_2,.int .i64 a0_3,.int .i64 a0_4]) (t:=165) ?hr ?_;(case hd=>rfl);(case hg=>rfl);(case hr=>first|(go_simp;done)|(go_simp;rfl));intro gb364 hg w28 hbox hb;have n0_:=Aside0.mk (below_step (bB) hb);have n1_:=Aside0.mk (hbox);have n2_:=Aside0.mk ((bG:w.heap.size≤gb364));have n3_:=Aside0.mk ((bG:w.heap.size≤gb364));clear HB;have HB:=n0_;have BK364:=n1_;have GW364:=n2_;have GE364:=n3_;clear n0_ n1_ n2_ n3_;clear hb hbox hg)|((with_reducible refine gate_dst (N:=3) rfl ?_);refine box_event ?hg (N:=3) ?hd (cs:=#[.int .i64 a1_0,.int .i64 a1_1,.int .i64 a1_2,.int .i64 a1_3,.int .i64 a1_4]) (t:=165) ?hr ?_;(case hd=>rfl);(case hg=>rfl);(case hr=>first|(go_simp;done)|(go_simp;rfl));intro gb365 hg w29 hbox hb;have n0_:=Aside0.mk (bM BK364.out hb);have n1_:=Aside0.mk (below_step (bS GE364.out) hb);have n2_:=Aside0.mk (hbox);have n3_:=Aside0.mk ((by rw[hg];exact(below_size (bS GE364.out)):w.heap.size≤gb365));have n4_:=Aside0.mk ((by rw[hg];exact(below_size (bS GE364.out)):w.heap.size≤gb365));have n5_:=Aside0.mk ((bN BK364.out hg:gb364≠gb365));have n6_:=Aside0.mk ((bO BK364.out hg:gb365≠gb364));clear BK364 HB;have BK364:=n0_;have HB:=n1_;have BK365:=n2_;have GW365:=n3_;have GE365:=n4_;have NB364_365:=n5_;have NB365_364:=n6_;clear n0_ n1_ n2_ n3_ n4_ n5_ n6_;clear hb hbox hg;have hnb30:=NB364_365.out;have hnc30:=NB365_364.out;obtain⟨hcz31_0,hcz31_1,hcz31_2,hcz31_3,hcz31_4⟩:=cC5 BK364.out;obtain⟨hfz31_0,hfz31_1,hfz31_2,hfz31_3,hfz31_4⟩:=cF5 BK364.out;obtain⟨hcz32_0,hcz32_1,hcz32_2,hcz32_3,hcz32_4⟩:=cC5 BK365.out;obtain⟨hfz32_0,hfz32_1,hfz32_2,hfz32_3,hfz32_4⟩:=cF5 BK365.out))
   go_ret
   exact⟨bE,bS2 GE364.out GE365.out⟩
 ·rw[if_neg c3] at H
  have c3b0:(a0_0 == a1_0)=false:=beq_eq_false_iff_ne.mpr c3
  have c3b1:(a0_0 != a1_0)=true:=bne_iff_ne.mpr c3
  obtain rfl:=Option.some.inj H
  go_enter Try.func128,Try.ntmps128
  go_wp2_with (first|((with_reducible refine gate_dst (N:=2) rfl ?_);refine box_event ?hg (N:=2) ?hd (cs:=#[.int .i64 a0_0,.int .i64 a0_1,.int .i64 a0_2,.int .i64 a0_3,.int .i64 a0_4]) (t:=165) ?hr ?_;(case hd=>rfl);(case hg=>rfl);(case hr=>first|(go_simp;done)|(go_simp;rfl));intro gb364 hg w33 hbox hb;have n0_:=Aside0.mk (below_step (bB) hb);have n1_:=Aside0.mk (hbox);have n2_:=Aside0.mk ((bG:w.heap.size≤gb364));have n3_:=Aside0.mk ((bG:w.heap.size≤gb364));clear HB;have HB:=n0_;have BK364:=n1_;have GW364:=n2_;have GE364:=n3_;clear n0_ n1_ n2_ n3_;clear hb hbox hg)|((with_reducible refine gate_dst (N:=3) rfl ?_);refine box_event ?hg (N:=3) ?hd (cs:=#[.int .i64 a1_0,.int .i64 a1_1,.int .i64 a1_2,.int .i64 a1_3,.int .i64 a1_4]) (t:=165) ?hr ?_;(case hd=>rfl);(case hg=>rfl);(case hr=>first|(go_simp;done)|(go_simp;rfl));intro gb365 hg w34 hbox hb;have n0_:=Aside0.mk (bM BK364.out hb);have n1_:=Aside0.mk (below_step (bS GE364.out) hb);have n2_:=Aside0.mk (hbox);have n3_:=Aside0.mk ((by rw[hg];exact(below_size (bS GE364.out)):w.heap.size≤gb365));have n4_:=Aside0.mk ((by rw[hg];exact(below_size (bS GE364.out)):w.heap.size≤gb365));have n5_:=Aside0.mk ((bN BK364.out hg:gb364≠gb365));have n6_:=Aside0.mk ((bO BK364.out hg:gb365≠gb364));clear BK364 HB;have BK364:=n0_;have HB:=n1_;have BK365:=n2_;have GW365:=n3_;have GE365:=n4_;have NB364_365:=n5_;have NB365_364:=n6_;clear n0_ n1_ n2_ n3_ n4_ n5_ n6_;clear hb hbox hg;have hnb35:=NB364_365.out;have hnc35:=NB365_364.out;obtain⟨hcz36_0,hcz36_1,hcz36_2,hcz36_3,hcz36_4⟩:=cC5 BK364.out;obtain⟨hfz36_0,hfz36_1,hfz36_2,hfz36_3,hfz36_4⟩:=cF5 BK364.out;obtain⟨hcz37_0,hcz37_1,hcz37_2,hcz37_3,hcz37_4⟩:=cC5 BK365.out;obtain⟨hfz37_0,hfz37_1,hfz37_2,hfz37_3,hfz37_4⟩:=cF5 BK365.out))
  go_ret
  exact⟨bE,bS2 GE364.out GE365.out⟩

/-! ### laws_eqContactS: function 55 -/
def laws_eqContactS.l0:Nat→List (S165)→List (S165)→Int→Option (Bool)
 | 0,_,_,_=>none
 | k+1,x0,x1,x5=>if x5 < (x0.length:Int) then (if 0≤x5 then (if x5 < (x1.length:Int) then ((laws_eqContact.f ((rd_T165 x0 x5).f0) ((rd_T165 x0 x5).f1) ((rd_T165 x0 x5).f2) ((rd_T165 x0 x5).f3) ((rd_T165 x0 x5).f4) ((rd_T165 x1 x5).f0) ((rd_T165 x1 x5).f1) ((rd_T165 x1 x5).f2) ((rd_T165 x1 x5).f3) ((rd_T165 x1 x5).f4)).bind fun t368=>(if t368=true then (laws_eqContactS.l0 k x0 x1 (wrap64 (x5+1))) else (some false))) else (none)) else (none)) else (some true)
def laws_eqContactS.f (k:Nat) (l0:List (S165)) (l1:List (S165)):Option (Bool):=if (l0.length:Int)=(l1.length:Int) then (laws_eqContactS.l0 k l0 l1 0) else (some false)
theorem laws_eqContactS.mono_l : ∀ k,(∀ y0 y1 y2,LeO (laws_eqContactS.l0 k y0 y1 y2) (laws_eqContactS.l0 (k+1) y0 y1 y2))
 | 0=>fun _ _ _ r h=>by simp[laws_eqContactS.l0] at h
 | k+1=>by
  have ih0:=laws_eqContactS.mono_l k
  ·intro y0 y1 y2
   unfold laws_eqContactS.l0
   repeat' first
   | (with_reducible exact ih0 _ _ _)
   | (with_reducible exact LeO.refl _)
   | (with_reducible exact LeO.none _)
   | (with_reducible refine LeO.ite ?_ ?_)
   | (with_reducible refine LeO.bind ?_ (fun _ => ?_))
   | exact ih0 _ _ _
   | exact LeO.none _
   | refine LeO.ite ?_ ?_
   | refine LeO.bind ?_ (fun _ => ?_)
theorem laws_eqContactS.mono : ∀ a0 a1 k,LeO (laws_eqContactS.f k a0 a1) (laws_eqContactS.f (k+1) a0 a1):=by
 intro a0 a1 k
 have ih0:=laws_eqContactS.mono_l k
 unfold laws_eqContactS.f
 repeat' first
  | (with_reducible exact ih0 _ _ _)
  | (with_reducible exact LeO.refl _)
  | (with_reducible exact LeO.none _)
  | (with_reducible refine LeO.ite ?_ ?_)
  | (with_reducible refine LeO.bind ?_ (fun _ => ?_))
  | exact ih0 _ _ _
  | exact LeO.none _
  | refine LeO.ite ?_ ?_
  | refine LeO.bind ?_ (fun _ => ?_)
def laws_eqContactS.T6:Bool × List (List Nat × List Nat):=(true,[([],[]),([],[]),([0,1],[0,1]),([2],[2]),([],[]),([],[]),([4,5],[4,5]),([6],[6]),([3,7],[3,7]),([8],[8])])
def laws_eqContactS.B6:List Nat:=[0,0,3,7,0,0,48,112,255,511]
theorem laws_eqContactS.tab6:rtab .any (opsOf Try.f55 6)=laws_eqContactS.T6:=by kernel_rfl
theorem laws_eqContactS.bits6:waitsOk laws_eqContactS.T6.2 laws_eqContactS.B6=true:=by kernel_rfl
set_option maxHeartbeats 8000000 in
set_option maxRecDepth 100000 in
theorem laws_eqContactS.calls (k:Nat) (A0:Option Addr) (c0:Nat) (l0:List (S165)) (A1:Option Addr) (c1:Nat) (l1:List (S165)) (r:Bool) (w:World) (hr0:Kd.C k165 w A0 l0.length l0) (hc0:l0.length≤c0) (hr1:Kd.C k165 w A1 l1.length l1) (hc1:l1.length≤c1) (h:laws_eqContactS.f k l0 l1=some r) :
  Calls Try.prog 55 #[.slice A0 l0.length c0,.slice A1 l1.length c1] w fun e w'=>e=.returned (.bool r)∧Below w.heap.size w w':=by
 have hu165:=Try.underlying165
 have HR0:=Aside0.mk hr0
 have HC0:=Aside0.mk hc0
 clear hr0 hc0
 have HR1:=Aside0.mk hr1
 have HC1:=Aside0.mk hc1
 clear hr1 hc1
 have HB:=Aside0.mk (Below.refl w.heap.size w)
 have H:(if (l0.length:Int)=(l1.length:Int) then (laws_eqContactS.l0 k l0 l1 0) else (some false))=some r:=h
 clear h
 by_cases c3:(l0.length:Int)=(l1.length:Int)
 ·rw[if_pos c3] at H
  have c3b0:((l0.length:Int) == (l1.length:Int))=true:=beq_iff_eq.mpr c3
  have c3b1:((l0.length:Int) != (l1.length:Int))=false:=bne_eq_false_iff_eq.mpr c3
  have c3b2:(l0.length == l1.length)=true:=by first|simpa using c3|(simp at c3 ⊢;omega)
  clear c3
  have H':=Aside0.mk H
  clear H
  go_enter Try.func55,Try.ntmps55
  go_wp2
  go_loopg [5] k (fun kq v5 w' => ∃ (x5_1:Int),v5=.int .i64 x5_1∧Aside0 (laws_eqContactS.l0 kq l0 l1 x5_1=some r)∧Aside0 (kq≤k)∧Aside0 (Below w.heap.size w w'))
  case atStart=>exact⟨(0),(bR),H',⟨Nat.le_refl _⟩,⟨by repeat (first|(with_reducible first|exact HB.out|apply below_alloc|apply pw_below_drewN|apply below_drew1)|exact HB.out)⟩⟩
  case round =>
   clear H'
   try clear c1
   try clear p2
   try clear c3
   try clear c3b0
   try clear c3b1
   try clear c3b2
   obtain⟨x5_1,rfl,HA,HK1,HB⟩:=hrel
   cases gk with
   | zero=>exact absurd HA.out (by simp[laws_eqContactS.l0])
   | succ k1 =>
    have H:=HA.out
    clear HA
    simp only[laws_eqContactS.l0] at H
    by_cases c4:x5_1 < (l0.length:Int)
    ·rw[if_pos c4] at H
     have c4b0:decide (x5_1 < (l0.length:Int))=true:=decide_eq_true c4
     clear c4
     by_cases c5:0≤x5_1
     ·rw[if_pos c5] at H
      have c5b0:decide (0≤x5_1)=true:=decide_eq_true c5
      clear c5
      by_cases c6:x5_1 < (l1.length:Int)
      ·rw[if_pos c6] at H
       have c6b0:decide (x5_1 < (l1.length:Int))=true:=decide_eq_true c6
       clear c6
       replace H:=Option.bind_eq_some_iff.mp H
       obtain⟨t368,A70,H⟩:=H
       have A7:=Aside0.mk A70
       clear A70
       by_cases c8:t368=true
       ·subst c8
        have H1:(laws_eqContactS.l0 k1 l0 l1 (wrap64 (x5_1+1)))=some r:=by rw[if_pos rfl] at H;exact H
        clear H
        have H:=H1
        clear H1
        have H':=Aside0.mk H
        clear H
        try go_wp2
        (try (rw[drewN_self wr];generalize hq_:World.drewN wr _=wr;have n0_:=Aside0.mk (below_at hq_ HB.out);clear hq_ HB;have HB:=n0_;clear n0_))
        have n0_:=Aside0.mk (below_drew1 HB.out)
        clear HB
        have HB:=n0_
        clear n0_
        have p366:0≤(x5_1:Int):=of_decide_eq_true (bD)
        have q366:x5_1 < (l0.length:Int):=of_decide_eq_true (bD)
        obtain⟨ad366,e366,hx366_0,hx366_1,hx366_2,hx366_3,hx366_4⟩:=at_T165 HR0.out x5_1 p366 q366
        have hw366_4:=hx366_4
        have hw366_3:=hx366_3
        have hw366_2:=hx366_2
        have hw366_1:=hx366_1
        have hw366_0:=hx366_0
        cases e366
        replace hx366_0:=(HB.out.cell (World.block_lt_of_cell? w _ hx366_0)).trans hx366_0
        replace hx366_1:=(HB.out.cell (World.block_lt_of_cell? w _ hx366_1)).trans hx366_1
        replace hx366_2:=(HB.out.cell (World.block_lt_of_cell? w _ hx366_2)).trans hx366_2
        replace hx366_3:=(HB.out.cell (World.block_lt_of_cell? w _ hx366_3)).trans hx366_3
        replace hx366_4:=(HB.out.cell (World.block_lt_of_cell? w _ hx366_4)).trans hx366_4
        replace p366:=eq_true p366
        replace q366:=eq_true q366
        have p367:0≤(x5_1:Int):=of_decide_eq_true (bD)
        have q367:x5_1 < (l1.length:Int):=of_decide_eq_true (bD)
        obtain⟨ad367,e367,hx367_0,hx367_1,hx367_2,hx367_3,hx367_4⟩:=at_T165 HR1.out x5_1 p367 q367
        have hw367_4:=hx367_4
        have hw367_3:=hx367_3
        have hw367_2:=hx367_2
        have hw367_1:=hx367_1
        have hw367_0:=hx367_0
        cases e367
        replace hx367_0:=(HB.out.cell (World.block_lt_of_cell? w _ hx367_0)).trans hx367_0
        replace hx367_1:=(HB.out.cell (World.block_lt_of_cell? w _ hx367_1)).trans hx367_1
        replace hx367_2:=(HB.out.cell (World.block_lt_of_cell? w _ hx367_2)).trans hx367_2
        replace hx367_3:=(HB.out.cell (World.block_lt_of_cell? w _ hx367_3)).trans hx367_3
        replace hx367_4:=(HB.out.cell (World.block_lt_of_cell? w _ hx367_4)).trans hx367_4
        replace p367:=eq_true p367
        replace q367:=eq_true q367
        refine start_ (n:=10) (S:=fun w'=>w'.cell? (ad366.add ((x5_1).toNat * 5))=some (.int .i64 ((rd_T165 l0 x5_1).f0))∧w'.cell? ⟨(ad366.add ((x5_1).toNat * 5)).block,(ad366.add ((x5_1).toNat * 5)).off+1,none⟩=some (.int .i64 ((rd_T165 l0 x5_1).f1))∧w'.cell? ⟨(ad366.add ((x5_1).toNat * 5)).block,(ad366.add ((x5_1).toNat * 5)).off+2,none⟩=some (.int .i64 ((rd_T165 l0 x5_1).f2))∧w'.cell? ⟨(ad366.add ((x5_1).toNat * 5)).block,(ad366.add ((x5_1).toNat * 5)).off+3,none⟩=some (.int .i64 ((rd_T165 l0 x5_1).f3))∧w'.cell? ⟨(ad366.add ((x5_1).toNat * 5)).block,(ad366.add ((x5_1).toNat * 5)).off+4,none⟩=some (.int .i64 ((rd_T165 l0 x5_1).f4))∧w'.cell? (ad367.add ((x5_1).toNat * 5))=some (.int .i64 ((rd_T165 l1 x5_1).f0))∧w'.cell? ⟨(ad367.add ((x5_1).toNat * 5)).block,(ad367.add ((x5_1).toNat * 5)).off+1,none⟩=some (.int .i64 ((rd_T165 l1 x5_1).f1))∧w'.cell? ⟨(ad367.add ((x5_1).toNat * 5)).block,(ad367.add ((x5_1).toNat * 5)).off+2,none⟩=some (.int .i64 ((rd_T165 l1 x5_1).f2))∧w'.cell? ⟨(ad367.add ((x5_1).toNat * 5)).block,(ad367.add ((x5_1).toNat * 5)).off+3,none⟩=some (.int .i64 ((rd_T165 l1 x5_1).f3))∧w'.cell? ⟨(ad367.add ((x5_1).toNat * 5)).block,(ad367.add ((x5_1).toNat * 5)).off+4,none⟩=some (.int .i64 ((rd_T165 l1 x5_1).f4))) (ds:=[]) #[false,false,false,false,false,false,false,false,false,false] (by kernel_rfl) rfl rfl ⟨((HB.out.cell (World.block_lt_of_cell? w _ hw366_0)).trans hw366_0),((HB.out.cell (World.block_lt_of_cell? w _ hw366_1)).trans hw366_1),((HB.out.cell (World.block_lt_of_cell? w _ hw366_2)).trans hw366_2),((HB.out.cell (World.block_lt_of_cell? w _ hw366_3)).trans hw366_3),((HB.out.cell (World.block_lt_of_cell? w _ hw366_4)).trans hw366_4),((HB.out.cell (World.block_lt_of_cell? w _ hw367_0)).trans hw367_0),((HB.out.cell (World.block_lt_of_cell? w _ hw367_1)).trans hw367_1),((HB.out.cell (World.block_lt_of_cell? w _ hw367_2)).trans hw367_2),((HB.out.cell (World.block_lt_of_cell? w _ hw367_3)).trans hw367_3),((HB.out.cell (World.block_lt_of_cell? w _ hw367_4)).trans hw367_4)⟩ (fun hHeld => ?_);refine with_tabW laws_eqContactS.tab6 laws_eqContactS.bits6 (fun HT_ HW_ => ?_)
        generalize wr.drew=w9 at HB hx366_0 hx366_1 hx366_2 hx366_3 hx366_4 hx367_0 hx367_1 hx367_2 hx367_3 hx367_4 hHeld ⊢
        refine pure_ (i:=0) (N:=some 17) (v:=?_) (a':=?_) #[true,false,false,false,false,false,false,false,false,false] rfl rfl (any_of HT_.out (by kernel_rfl)) (fun _ _ _ h=>h) (Or.inl ⟨by rfl,?_⟩) ?_ ?_
        rotate_left
        ·intro w'
         go_simp
         with_reducible rfl
        rotate_left
        ·simp only[Act.put,List.setIfInBounds_toArray,List.set_cons_zero,List.set_cons_succ,i64_w,i32_w]
         rfl
        refine pure_ (i:=1) (N:=some 18) (v:=?_) (a':=?_) #[true,true,false,false,false,false,false,false,false,false] rfl rfl (any_of HT_.out (by kernel_rfl)) (fun _ _ _ h=>h) (Or.inl ⟨by rfl,?_⟩) ?_ ?_
        rotate_left
        ·intro w'
         go_simp
         with_reducible rfl
        rotate_left
        ·simp only[Act.put,List.setIfInBounds_toArray,List.set_cons_zero,List.set_cons_succ,i64_w,i32_w]
         rfl
        refine pure_ (i:=2) (N:=some 19) (v:=?_) (a':=?_) #[true,true,true,false,false,false,false,false,false,false] rfl rfl (any_of HT_.out (by kernel_rfl)) (fun _ _ _ h=>h) (Or.inl ⟨by rfl,?_⟩) ?_ ?_
        rotate_left
        ·intro w'
         go_simp
         with_reducible rfl
        rotate_left
        ·simp only[Act.put,List.setIfInBounds_toArray,List.set_cons_zero,List.set_cons_succ,i64_w,i32_w]
         rfl
        refine pure_ (i:=4) (N:=some 21) (v:=?_) (a':=?_) #[true,true,true,false,true,false,false,false,false,false] rfl rfl (any_of HT_.out (by kernel_rfl)) (fun _ _ _ h=>h) (Or.inl ⟨by rfl,?_⟩) ?_ ?_
        rotate_left
        ·intro w'
         go_simp
         with_reducible rfl
        rotate_left
        ·simp only[Act.put,List.setIfInBounds_toArray,List.set_cons_zero,List.set_cons_succ,i64_w,i32_w]
         rfl
        refine pure_ (i:=5) (N:=some 22) (v:=?_) (a':=?_) #[true,true,true,false,true,true,false,false,false,false] rfl rfl (any_of HT_.out (by kernel_rfl)) (fun _ _ _ h=>h) (Or.inl ⟨by rfl,?_⟩) ?_ ?_
        rotate_left
        ·intro w'
         go_simp
         with_reducible rfl
        rotate_left
        ·simp only[Act.put,List.setIfInBounds_toArray,List.set_cons_zero,List.set_cons_succ,i64_w,i32_w]
         rfl
        refine pure_ (i:=6) (N:=some 23) (v:=?_) (a':=?_) #[true,true,true,false,true,true,true,false,false,false] rfl rfl (any_of HT_.out (by kernel_rfl)) (fun _ _ _ h=>h) (Or.inl ⟨by rfl,?_⟩) ?_ ?_
        rotate_left
        ·intro w'
         go_simp
         with_reducible rfl
        rotate_left
        ·simp only[Act.put,List.setIfInBounds_toArray,List.set_cons_zero,List.set_cons_succ,i64_w,i32_w]
         rfl
        refine take_ (i:=3) (N:=some 20) (v:=?_) (a':=?_) #[true,true,true,true,true,true,true,false,false,false] rfl rfl (take_ofW HT_.out HW_.out (by kernel_rfl)) (fun _ _ _ h=>h) (Or.inl ⟨by rfl,?_⟩) hHeld ?_ ?_
        rotate_left
        ·rintro w' ⟨s0,s1,s2,s3,s4,s5,s6,s7,s8,s9⟩
         go_simp
         with_reducible rfl
        rotate_left
        ·simp only[Act.put,List.setIfInBounds_toArray,List.set_cons_zero,List.set_cons_succ,i64_w,i32_w]
         rfl
        refine take_ (i:=7) (N:=some 24) (v:=?_) (a':=?_) #[true,true,true,true,true,true,true,true,false,false] rfl rfl (take_ofW HT_.out HW_.out (by kernel_rfl)) (fun _ _ _ h=>h) (Or.inl ⟨by rfl,?_⟩) hHeld ?_ ?_
        rotate_left
        ·rintro w' ⟨s0,s1,s2,s3,s4,s5,s6,s7,s8,s9⟩
         go_simp
         with_reducible rfl
        rotate_left
        ·simp only[Act.put,List.setIfInBounds_toArray,List.set_cons_zero,List.set_cons_succ,i64_w,i32_w]
         rfl
        refine one_ (i:=8) (N:=some 25) #[true,true,true,true,true,true,true,true,true,false] rfl rfl (one_of HT_.out (by kernel_rfl)) (by decide) (fun K hK => ?_)
        refine goes_ Try.func128 (by kernel_rfl) rfl #[.agg #[.int .i64 ((rd_T165 l0 x5_1).f0),.int .i64 ((rd_T165 l0 x5_1).f1),.int .i64 ((rd_T165 l0 x5_1).f2),.int .i64 ((rd_T165 l0 x5_1).f3),.int .i64 ((rd_T165 l0 x5_1).f4)],.agg #[.int .i64 ((rd_T165 l1 x5_1).f0),.int .i64 ((rd_T165 l1 x5_1).f1),.int .i64 ((rd_T165 l1 x5_1).f2),.int .i64 ((rd_T165 l1 x5_1).f3),.int .i64 ((rd_T165 l1 x5_1).f4)]] (by rfl) rfl rfl (by(try simp only[List.map_toArray,List.map_cons,List.map_nil]);first|done|rfl|(simp only[List.length_drop,List.length_take];rfl)) ?_
        with_reducible refine(laws_eqContact.calls ((rd_T165 l0 x5_1).f0) ((rd_T165 l0 x5_1).f1) ((rd_T165 l0 x5_1).f2) ((rd_T165 l0 x5_1).f3) ((rd_T165 l0 x5_1).f4) ((rd_T165 l1 x5_1).f0) ((rd_T165 l1 x5_1).f1) ((rd_T165 l1 x5_1).f2) ((rd_T165 l1 x5_1).f3) ((rd_T165 l1 x5_1).f4) true _ A7.out).mono ?_
        rintro e w10 ⟨rfl,hb⟩
        refine⟨_,rfl,?_⟩
        have n0_:=Aside0.mk (below_step (bB) hb)
        clear HB
        have HB:=n0_
        clear n0_
        (try clear hb)
        (try clear hb2)
        (try clear hk)
        (try clear hi)
        refine hK.out _ _ ⟨((HB.out.cell (World.block_lt_of_cell? w _ hw366_0)).trans hw366_0),((HB.out.cell (World.block_lt_of_cell? w _ hw366_1)).trans hw366_1),((HB.out.cell (World.block_lt_of_cell? w _ hw366_2)).trans hw366_2),((HB.out.cell (World.block_lt_of_cell? w _ hw366_3)).trans hw366_3),((HB.out.cell (World.block_lt_of_cell? w _ hw366_4)).trans hw366_4),((HB.out.cell (World.block_lt_of_cell? w _ hw367_0)).trans hw367_0),((HB.out.cell (World.block_lt_of_cell? w _ hw367_1)).trans hw367_1),((HB.out.cell (World.block_lt_of_cell? w _ hw367_2)).trans hw367_2),((HB.out.cell (World.block_lt_of_cell? w _ hw367_3)).trans hw367_3),((HB.out.cell (World.block_lt_of_cell? w _ hw367_4)).trans hw367_4)⟩ (fun hHeld => ?_)
        clear hK K
        refine norm_ (a':=?_) ?_ ?_
        rotate_left
        ·show Act.put _ (some 25) _=_
         simp only[Act.put,List.setIfInBounds_toArray,List.set_cons_zero,List.set_cons_succ,i64_w,i32_w]
         rfl
        refine pure_ (i:=9) (N:=some 26) (v:=?_) (a':=?_) #[true,true,true,true,true,true,true,true,true,true] rfl rfl (any_of HT_.out (by kernel_rfl)) (fun _ _ _ h=>h) (Or.inl ⟨by rfl,?_⟩) ?_ ?_
        rotate_left
        ·intro w'
         go_simp
         with_reducible rfl
        rotate_left
        ·simp only[Act.put,List.setIfInBounds_toArray,List.set_cons_zero,List.set_cons_succ,i64_w,i32_w]
         rfl
        refine done_ (done_of HT_.out (by kernel_rfl)) ?_
        try go_wp2
        go_roundg k1
        case measure=>have:=HK1.out;omega
        case rel=>exact⟨(wrap64 (x5_1+1)),(bR),H',⟨by have:=HK1.out;omega⟩,⟨by repeat (first|(with_reducible first|exact HB.out|apply below_alloc|apply pw_below_drewN|apply below_drew1)|exact HB.out)⟩⟩
       ·replace c8:=Bool.eq_false_iff.mpr c8
        subst c8
        have H1:(some false)=some r:=by rw[if_neg (show ¬ (false=true) by decide)] at H;exact H
        clear H
        have H:=H1
        clear H1
        obtain rfl:=Option.some.inj H
        try go_wp2
        (try (rw[drewN_self wr];generalize hq_:World.drewN wr _=wr;have n0_:=Aside0.mk (below_at hq_ HB.out);clear hq_ HB;have HB:=n0_;clear n0_))
        have n0_:=Aside0.mk (below_drew1 HB.out)
        clear HB
        have HB:=n0_
        clear n0_
        have p366:0≤(x5_1:Int):=of_decide_eq_true (bD)
        have q366:x5_1 < (l0.length:Int):=of_decide_eq_true (bD)
        obtain⟨ad366,e366,hx366_0,hx366_1,hx366_2,hx366_3,hx366_4⟩:=at_T165 HR0.out x5_1 p366 q366
        have hw366_4:=hx366_4
        have hw366_3:=hx366_3
        have hw366_2:=hx366_2
        have hw366_1:=hx366_1
        have hw366_0:=hx366_0
        cases e366
        replace hx366_0:=(HB.out.cell (World.block_lt_of_cell? w _ hx366_0)).trans hx366_0
        replace hx366_1:=(HB.out.cell (World.block_lt_of_cell? w _ hx366_1)).trans hx366_1
        replace hx366_2:=(HB.out.cell (World.block_lt_of_cell? w _ hx366_2)).trans hx366_2
        replace hx366_3:=(HB.out.cell (World.block_lt_of_cell? w _ hx366_3)).trans hx366_3
        replace hx366_4:=(HB.out.cell (World.block_lt_of_cell? w _ hx366_4)).trans hx366_4
        replace p366:=eq_true p366
        replace q366:=eq_true q366
        have p367:0≤(x5_1:Int):=of_decide_eq_true (bD)
        have q367:x5_1 < (l1.length:Int):=of_decide_eq_true (bD)
        obtain⟨ad367,e367,hx367_0,hx367_1,hx367_2,hx367_3,hx367_4⟩:=at_T165 HR1.out x5_1 p367 q367
        have hw367_4:=hx367_4
        have hw367_3:=hx367_3
        have hw367_2:=hx367_2
        have hw367_1:=hx367_1
        have hw367_0:=hx367_0
        cases e367
        replace hx367_0:=(HB.out.cell (World.block_lt_of_cell? w _ hx367_0)).trans hx367_0
        replace hx367_1:=(HB.out.cell (World.block_lt_of_cell? w _ hx367_1)).trans hx367_1
        replace hx367_2:=(HB.out.cell (World.block_lt_of_cell? w _ hx367_2)).trans hx367_2
        replace hx367_3:=(HB.out.cell (World.block_lt_of_cell? w _ hx367_3)).trans hx367_3
        replace hx367_4:=(HB.out.cell (World.block_lt_of_cell? w _ hx367_4)).trans hx367_4
        replace p367:=eq_true p367
        replace q367:=eq_true q367
        refine start_ (n:=10) (S:=fun w'=>w'.cell? (ad366.add ((x5_1).toNat * 5))=some (.int .i64 ((rd_T165 l0 x5_1).f0))∧w'.cell? ⟨(ad366.add ((x5_1).toNat * 5)).block,(ad366.add ((x5_1).toNat * 5)).off+1,none⟩=some (.int .i64 ((rd_T165 l0 x5_1).f1))∧w'.cell? ⟨(ad366.add ((x5_1).toNat * 5)).block,(ad366.add ((x5_1).toNat * 5)).off+2,none⟩=some (.int .i64 ((rd_T165 l0 x5_1).f2))∧w'.cell? ⟨(ad366.add ((x5_1).toNat * 5)).block,(ad366.add ((x5_1).toNat * 5)).off+3,none⟩=some (.int .i64 ((rd_T165 l0 x5_1).f3))∧w'.cell? ⟨(ad366.add ((x5_1).toNat * 5)).block,(ad366.add ((x5_1).toNat * 5)).off+4,none⟩=some (.int .i64 ((rd_T165 l0 x5_1).f4))∧w'.cell? (ad367.add ((x5_1).toNat * 5))=some (.int .i64 ((rd_T165 l1 x5_1).f0))∧w'.cell? ⟨(ad367.add ((x5_1).toNat * 5)).block,(ad367.add ((x5_1).toNat * 5)).off+1,none⟩=some (.int .i64 ((rd_T165 l1 x5_1).f1))∧w'.cell? ⟨(ad367.add ((x5_1).toNat * 5)).block,(ad367.add ((x5_1).toNat * 5)).off+2,none⟩=some (.int .i64 ((rd_T165 l1 x5_1).f2))∧w'.cell? ⟨(ad367.add ((x5_1).toNat * 5)).block,(ad367.add ((x5_1).toNat * 5)).off+3,none⟩=some (.int .i64 ((rd_T165 l1 x5_1).f3))∧w'.cell? ⟨(ad367.add ((x5_1).toNat * 5)).block,(ad367.add ((x5_1).toNat * 5)).off+4,none⟩=some (.int .i64 ((rd_T165 l1 x5_1).f4))) (ds:=[]) #[false,false,false,false,false,false,false,false,false,false] (by kernel_rfl) rfl rfl ⟨((HB.out.cell (World.block_lt_of_cell? w _ hw366_0)).trans hw366_0),((HB.out.cell (World.block_lt_of_cell? w _ hw366_1)).trans hw366_1),((HB.out.cell (World.block_lt_of_cell? w _ hw366_2)).trans hw366_2),((HB.out.cell (World.block_lt_of_cell? w _ hw366_3)).trans hw366_3),((HB.out.cell (World.block_lt_of_cell? w _ hw366_4)).trans hw366_4),((HB.out.cell (World.block_lt_of_cell? w _ hw367_0)).trans hw367_0),((HB.out.cell (World.block_lt_of_cell? w _ hw367_1)).trans hw367_1),((HB.out.cell (World.block_lt_of_cell? w _ hw367_2)).trans hw367_2),((HB.out.cell (World.block_lt_of_cell? w _ hw367_3)).trans hw367_3),((HB.out.cell (World.block_lt_of_cell? w _ hw367_4)).trans hw367_4)⟩ (fun hHeld => ?_);refine with_tabW laws_eqContactS.tab6 laws_eqContactS.bits6 (fun HT_ HW_ => ?_)
        generalize wr.drew=w11 at HB hx366_0 hx366_1 hx366_2 hx366_3 hx366_4 hx367_0 hx367_1 hx367_2 hx367_3 hx367_4 hHeld ⊢
        refine pure_ (i:=0) (N:=some 17) (v:=?_) (a':=?_) #[true,false,false,false,false,false,false,false,false,false] rfl rfl (any_of HT_.out (by kernel_rfl)) (fun _ _ _ h=>h) (Or.inl ⟨by rfl,?_⟩) ?_ ?_
        rotate_left
        ·intro w'
         go_simp
         with_reducible rfl
        rotate_left
        ·simp only[Act.put,List.setIfInBounds_toArray,List.set_cons_zero,List.set_cons_succ,i64_w,i32_w]
         rfl
        refine pure_ (i:=1) (N:=some 18) (v:=?_) (a':=?_) #[true,true,false,false,false,false,false,false,false,false] rfl rfl (any_of HT_.out (by kernel_rfl)) (fun _ _ _ h=>h) (Or.inl ⟨by rfl,?_⟩) ?_ ?_
        rotate_left
        ·intro w'
         go_simp
         with_reducible rfl
        rotate_left
        ·simp only[Act.put,List.setIfInBounds_toArray,List.set_cons_zero,List.set_cons_succ,i64_w,i32_w]
         rfl
        refine pure_ (i:=2) (N:=some 19) (v:=?_) (a':=?_) #[true,true,true,false,false,false,false,false,false,false] rfl rfl (any_of HT_.out (by kernel_rfl)) (fun _ _ _ h=>h) (Or.inl ⟨by rfl,?_⟩) ?_ ?_
        rotate_left
        ·intro w'
         go_simp
         with_reducible rfl
        rotate_left
        ·simp only[Act.put,List.setIfInBounds_toArray,List.set_cons_zero,List.set_cons_succ,i64_w,i32_w]
         rfl
        refine pure_ (i:=4) (N:=some 21) (v:=?_) (a':=?_) #[true,true,true,false,true,false,false,false,false,false] rfl rfl (any_of HT_.out (by kernel_rfl)) (fun _ _ _ h=>h) (Or.inl ⟨by rfl,?_⟩) ?_ ?_
        rotate_left
        ·intro w'
         go_simp
         with_reducible rfl
        rotate_left
        ·simp only[Act.put,List.setIfInBounds_toArray,List.set_cons_zero,List.set_cons_succ,i64_w,i32_w]
         rfl
        refine pure_ (i:=5) (N:=some 22) (v:=?_) (a':=?_) #[true,true,true,false,true,true,false,false,false,false] rfl rfl (any_of HT_.out (by kernel_rfl)) (fun _ _ _ h=>h) (Or.inl ⟨by rfl,?_⟩) ?_ ?_
        rotate_left
        ·intro w'
         go_simp
         with_reducible rfl
        rotate_left
        ·simp only[Act.put,List.setIfInBounds_toArray,List.set_cons_zero,List.set_cons_succ,i64_w,i32_w]
         rfl
        refine pure_ (i:=6) (N:=some 23) (v:=?_) (a':=?_) #[true,true,true,false,true,true,true,false,false,false] rfl rfl (any_of HT_.out (by kernel_rfl)) (fun _ _ _ h=>h) (Or.inl ⟨by rfl,?_⟩) ?_ ?_
        rotate_left
        ·intro w'
         go_simp
         with_reducible rfl
        rotate_left
        ·simp only[Act.put,List.setIfInBounds_toArray,List.set_cons_zero,List.set_cons_succ,i64_w,i32_w]
         rfl
        refine take_ (i:=3) (N:=some 20) (v:=?_) (a':=?_) #[true,true,true,true,true,true,true,false,false,false] rfl rfl (take_ofW HT_.out HW_.out (by kernel_rfl)) (fun _ _ _ h=>h) (Or.inl ⟨by rfl,?_⟩) hHeld ?_ ?_
        rotate_left
        ·rintro w' ⟨s0,s1,s2,s3,s4,s5,s6,s7,s8,s9⟩
         go_simp
         with_reducible rfl
        rotate_left
        ·simp only[Act.put,List.setIfInBounds_toArray,List.set_cons_zero,List.set_cons_succ,i64_w,i32_w]
         rfl
        refine take_ (i:=7) (N:=some 24) (v:=?_) (a':=?_) #[true,true,true,true,true,true,true,true,false,false] rfl rfl (take_ofW HT_.out HW_.out (by kernel_rfl)) (fun _ _ _ h=>h) (Or.inl ⟨by rfl,?_⟩) hHeld ?_ ?_
        rotate_left
        ·rintro w' ⟨s0,s1,s2,s3,s4,s5,s6,s7,s8,s9⟩
         go_simp
         with_reducible rfl
        rotate_left
        ·simp only[Act.put,List.setIfInBounds_toArray,List.set_cons_zero,List.set_cons_succ,i64_w,i32_w]
         rfl
        refine one_ (i:=8) (N:=some 25) #[true,true,true,true,true,true,true,true,true,false] rfl rfl (one_of HT_.out (by kernel_rfl)) (by decide) (fun K hK => ?_)
        refine goes_ Try.func128 (by kernel_rfl) rfl #[.agg #[.int .i64 ((rd_T165 l0 x5_1).f0),.int .i64 ((rd_T165 l0 x5_1).f1),.int .i64 ((rd_T165 l0 x5_1).f2),.int .i64 ((rd_T165 l0 x5_1).f3),.int .i64 ((rd_T165 l0 x5_1).f4)],.agg #[.int .i64 ((rd_T165 l1 x5_1).f0),.int .i64 ((rd_T165 l1 x5_1).f1),.int .i64 ((rd_T165 l1 x5_1).f2),.int .i64 ((rd_T165 l1 x5_1).f3),.int .i64 ((rd_T165 l1 x5_1).f4)]] (by rfl) rfl rfl (by(try simp only[List.map_toArray,List.map_cons,List.map_nil]);first|done|rfl|(simp only[List.length_drop,List.length_take];rfl)) ?_
        with_reducible refine(laws_eqContact.calls ((rd_T165 l0 x5_1).f0) ((rd_T165 l0 x5_1).f1) ((rd_T165 l0 x5_1).f2) ((rd_T165 l0 x5_1).f3) ((rd_T165 l0 x5_1).f4) ((rd_T165 l1 x5_1).f0) ((rd_T165 l1 x5_1).f1) ((rd_T165 l1 x5_1).f2) ((rd_T165 l1 x5_1).f3) ((rd_T165 l1 x5_1).f4) false _ A7.out).mono ?_
        rintro e w12 ⟨rfl,hb⟩
        refine⟨_,rfl,?_⟩
        have n0_:=Aside0.mk (below_step (bB) hb)
        clear HB
        have HB:=n0_
        clear n0_
        (try clear hb)
        (try clear hb2)
        (try clear hk)
        (try clear hi)
        refine hK.out _ _ ⟨((HB.out.cell (World.block_lt_of_cell? w _ hw366_0)).trans hw366_0),((HB.out.cell (World.block_lt_of_cell? w _ hw366_1)).trans hw366_1),((HB.out.cell (World.block_lt_of_cell? w _ hw366_2)).trans hw366_2),((HB.out.cell (World.block_lt_of_cell? w _ hw366_3)).trans hw366_3),((HB.out.cell (World.block_lt_of_cell? w _ hw366_4)).trans hw366_4),((HB.out.cell (World.block_lt_of_cell? w _ hw367_0)).trans hw367_0),((HB.out.cell (World.block_lt_of_cell? w _ hw367_1)).trans hw367_1),((HB.out.cell (World.block_lt_of_cell? w _ hw367_2)).trans hw367_2),((HB.out.cell (World.block_lt_of_cell? w _ hw367_3)).trans hw367_3),((HB.out.cell (World.block_lt_of_cell? w _ hw367_4)).trans hw367_4)⟩ (fun hHeld => ?_)
        clear hK K
        refine norm_ (a':=?_) ?_ ?_
        rotate_left
        ·show Act.put _ (some 25) _=_
         simp only[Act.put,List.setIfInBounds_toArray,List.set_cons_zero,List.set_cons_succ,i64_w,i32_w]
         rfl
        refine pure_ (i:=9) (N:=some 26) (v:=?_) (a':=?_) #[true,true,true,true,true,true,true,true,true,true] rfl rfl (any_of HT_.out (by kernel_rfl)) (fun _ _ _ h=>h) (Or.inl ⟨by rfl,?_⟩) ?_ ?_
        rotate_left
        ·intro w'
         go_simp
         with_reducible rfl
        rotate_left
        ·simp only[Act.put,List.setIfInBounds_toArray,List.set_cons_zero,List.set_cons_succ,i64_w,i32_w]
         rfl
        refine done_ (done_of HT_.out (by kernel_rfl)) ?_
        try go_wp2
        go_ret
        exact⟨bE,bB⟩
      ·rw[if_neg c6] at H
       exact absurd H (by simp)
     ·rw[if_neg c5] at H
      exact absurd H (by simp)
    ·rw[if_neg c4] at H
     have c4b0:decide (x5_1 < (l0.length:Int))=false:=decide_eq_false c4
     clear c4
     obtain rfl:=Option.some.inj H
     go_wp2
     go_ret
     exact⟨bE,bB⟩
 ·rw[if_neg c3] at H
  have c3b0:((l0.length:Int) == (l1.length:Int))=false:=beq_eq_false_iff_ne.mpr c3
  have c3b1:((l0.length:Int) != (l1.length:Int))=true:=bne_iff_ne.mpr c3
  have c3b2:(l0.length == l1.length)=false:=by first|simpa using c3|(simp at c3 ⊢;omega)
  obtain rfl:=Option.some.inj H
  go_enter Try.func55,Try.ntmps55
  go_wp2
  go_ret
  exact⟨bE,bB⟩

end Go.Proofs.Ytjmanpicdeebgaa.XFnExactTreeFor
