-- Written by this session's own program (wip/xprint.py) out of the translation; Lean checks it.
import Derived.Test.YtanegdfncfkinaaXFnExactNewTurnsx0
namespace Go.Proofs.Ytanegdfncfkinaa.XFnExactNewTurns
open Go.RowKit Go.Proofs.YtanegdfncfkinaaW.PrintWords Go.Proofs.YtanegdfncfkinaaW.PrintLast Go.Proofs.YtanegdfncfkinaaW.PrintMore
attribute [local go_sem] max2_int min2_int max_two min_two max_three min_three max_four min_four   -- for this text's walks alone
set_option linter.unusedVariables false
set_option linter.unusedSimpArgs false

/-! ### spec_l1In: function 16 -/
def spec_l1In.f (a0:Int) (a1:Int) (a2:Int):Option (Bool):=if a0 ≥ a1 then (some (decide (a0≤a2))) else (some false)
set_option maxHeartbeats 8000000 in
set_option maxRecDepth 100000 in
theorem spec_l1In.calls (a0:Int) (a1:Int) (a2:Int) (r:Bool) (w:World) (h:spec_l1In.f a0 a1 a2=some r) :
  Calls Try.prog 16 #[.int .i64 a0,.int .i64 a1,.int .i64 a2] w fun e w'=>e=.returned (.bool r)∧Drawn0 w w':=by
 have H:(if a0 ≥ a1 then (some (decide (a0≤a2))) else (some false))=some r:=h
 clear h
 by_cases c4:a0 ≥ a1
 ·rw[if_pos c4] at H
  have c4b0:decide (a1≤a0)=true:=decide_eq_true c4
  clear c4
  obtain rfl:=Option.some.inj H
  go_enter Try.func16,Try.ntmps16
  go_wp2
  go_ret
  exact⟨bR,bW⟩
 ·rw[if_neg c4] at H
  have c4b0:decide (a1≤a0)=false:=decide_eq_false c4
  clear c4
  obtain rfl:=Option.some.inj H
  go_enter Try.func16,Try.ntmps16
  go_wp2
  go_ret
  exact⟨bR,bW⟩

/-! ### spec_NewTurns: function 5 -/
def spec_NewTurns.f (a0:Int) (a1:Int):Option (Int × (List (S61)) × Int × Bool):=(spec_l1In.f a0 1 50).bind fun t102=>(if t102=true then ((spec_l1In.f a1 1 6).bind fun t103=>(if t103=true then (if 0≤a1 then (if (a1:Int).toNat≤7036874417766 then (some (a0,(List.replicate (a1:Int).toNat z61),0,true)) else (none)) else (none)) else (some (0,([]:List (S61)),0,false)))) else (some (0,([]:List (S61)),0,false)))
set_option maxHeartbeats 8000000 in
set_option maxRecDepth 100000 in
theorem spec_NewTurns.calls (a0:Int) (a1:Int) (r1:Int) (r2:List (S61)) (r3:Int) (r4:Bool) (w:World) (h:spec_NewTurns.f a0 a1=some (r1,r2,r3,r4)) :
  Calls Try.prog 5 #[.int .i64 a0,.int .i64 a1] w fun e w' => ∃ v1_:Value,e=.returned (.tuple #[.agg #[.int .i64 r1,v1_,.int .i64 r3],.bool r4])∧Kd.S k61 61 w' w.heap.size (fun _=>True) v1_ r2∧Below w.heap.size w w':=by
 have hu24:=Try.underlying24
 have HB:=Aside0.mk (Below.refl w.heap.size w)
 have H:((spec_l1In.f a0 1 50).bind fun t102=>(if t102=true then ((spec_l1In.f a1 1 6).bind fun t103=>(if t103=true then (if 0≤a1 then (if (a1:Int).toNat≤7036874417766 then (some (a0,(List.replicate (a1:Int).toNat z61),0,true)) else (none)) else (none)) else (some (0,([]:List (S61)),0,false)))) else (some (0,([]:List (S61)),0,false))))=some (r1,r2,r3,r4):=h
 clear h
 replace H:=Option.bind_eq_some_iff.mp H
 obtain⟨t102,A30,H⟩:=H
 replace H:(if t102=true then ((spec_l1In.f a1 1 6).bind fun t103=>(if t103=true then (if 0≤a1 then (if (a1:Int).toNat≤7036874417766 then (some (a0,(List.replicate (a1:Int).toNat z61),0,true)) else (none)) else (none)) else (some (0,([]:List (S61)),0,false)))) else (some (0,([]:List (S61)),0,false)))=some (r1,r2,r3,r4):=H
 have A3:=Aside0.mk A30
 clear A30
 by_cases c4:t102=true
 ·subst c4
  have H1:((spec_l1In.f a1 1 6).bind fun t103=>(if t103=true then (if 0≤a1 then (if (a1:Int).toNat≤7036874417766 then (some (a0,(List.replicate (a1:Int).toNat z61),0,true)) else (none)) else (none)) else (some (0,([]:List (S61)),0,false))))=some (r1,r2,r3,r4):=by rw[if_pos rfl] at H;exact H
  clear H
  have H:=H1
  clear H1
  replace H:=Option.bind_eq_some_iff.mp H
  obtain⟨t103,A50,H⟩:=H
  replace H:(if t103=true then (if 0≤a1 then (if (a1:Int).toNat≤7036874417766 then (some (a0,(List.replicate (a1:Int).toNat z61),0,true)) else (none)) else (none)) else (some (0,([]:List (S61)),0,false)))=some (r1,r2,r3,r4):=H
  have A5:=Aside0.mk A50
  clear A50
  by_cases c6:t103=true
  ·subst c6
   have H1:(if 0≤a1 then (if (a1:Int).toNat≤7036874417766 then (some (a0,(List.replicate (a1:Int).toNat z61),0,true)) else (none)) else (none))=some (r1,r2,r3,r4):=by rw[if_pos rfl] at H;exact H
   clear H
   have H:=H1
   clear H1
   by_cases c7:0≤a1
   ·rw[if_pos c7] at H
    have c7b0:=eq_true c7
    have c7b1:decide (0≤a1)=true:=decide_eq_true c7
    clear c7
    by_cases c8:(a1:Int).toNat≤7036874417766
    ·rw[if_pos c8] at H
     have c8b0:=eq_true c8
     have c8b1:decide ((a1:Int).toNat≤7036874417766)=true:=decide_eq_true c8
     clear c8
     obtain⟨y104,hy104⟩ : ∃ y_:List (S61),y_=(List.replicate (a1:Int).toNat z61):=⟨_,rfl⟩
     replace H:(some (a0,y104,0,true))=some (r1,r2,r3,r4):=by first|(rw[hy104];with_reducible exact H)|(have H2_:=(Option.bind_some _ _).symm.trans H;rw[hy104];with_reducible exact H2_)|(have H2_:=(Option.bind_some _ _).symm.trans H;with_reducible exact H2_)|with_reducible exact H|(rw[hy104];exact H)|exact H
     have Ny104:=Aside0.mk hy104
     clear hy104
     simp only[Option.some.injEq,Prod.mk.injEq] at H
     obtain⟨rfl,rfl,rfl,rfl⟩:=H
     go_enter Try.func5,Try.ntmps5
     go_wp2_with (first|((with_reducible refine gate_dst (N:=4) rfl ?_);refine box_event ?hg (N:=4) ?hd (cs:=#[.int .i64 0,.slice none 0 0,.int .i64 0]) (t:=24) ?hr ?_;(case hd=>rfl);(case hg=>rfl);(case hr=>first|(go_simp;done)|(go_simp;rfl));intro gb101 hg w9 hbox hb;have n0_:=Aside0.mk (below_step (bB) hb);have n1_:=Aside0.mk (hbox);have n2_:=Aside0.mk ((bG:w.heap.size≤gb101));have n3_:=Aside0.mk ((bG:w.heap.size≤gb101));clear HB;have HB:=n0_;have BK101:=n1_;have GW101:=n2_;have GE101:=n3_;clear n0_ n1_ n2_ n3_;clear hb hbox hg)|((with_reducible refine gate_callee (f:=16) rfl ?_);refine goesA (some 7) rfl rfl Try.func16 #[.int .i64 a0,.int .i64 1,.int .i64 50] rfl ?_;(with_reducible refine(spec_l1In.calls a0 1 50 true _ A3.out).mono ?_);rintro e w' ⟨rfl,⟨nd,rfl⟩⟩;refine⟨_,rfl,?_⟩;(try (rw[drewN_self w9];generalize hq_:World.drewN w9 _=w9;have n0_:Aside0 (w9.heap[gb101]?=some (.cells #[.int .i64 0,.slice none 0 0,.int .i64 0] 24 (0,0))):=⟨by rw[← hq_];exact(bL BK101.out)⟩;have n1_:Aside0 (Below w.heap.size w w9):=⟨by rw[← hq_];exact(bS GE101.out)⟩;clear BK101 HB hq_;have BK101:=n0_;have HB:=n1_;clear n0_ n1_)))|(go_at_call 16;(with_reducible refine(spec_l1In.calls a1 1 6 true _ A5.out).mono ?_);rintro e w' ⟨rfl,⟨nd,rfl⟩⟩;(try (rw[drewN_self w9];generalize hq_:World.drewN w9 _=w9;have n0_:Aside0 (w9.heap[gb101]?=some (.cells #[.int .i64 0,.slice none 0 0,.int .i64 0] 24 (0,0))):=⟨by rw[← hq_];exact(bL BK101.out)⟩;have n1_:Aside0 (Below w.heap.size w w9):=⟨by rw[← hq_];exact(bS GE101.out)⟩;clear BK101 HB hq_;have BK101:=n0_;have HB:=n1_;clear n0_ n1_)))|((with_reducible refine gate_dst (N:=17) rfl ?_);refine Kd.S_make k61 _ 61 rfl (N:=17) rfl 22 _ _ rfl a1 rfl rfl Try.underlying22 (.agg #[(.slice none 0 0),(.int .i64 0),(.int .i64 0)]) 40 info61 rfl (by decide) (by omega) z61 (ok:=fun _=>True) (okp:=fun _=>True) (k61_mkM _ _ _ z61 (Kd.R_nil _ _ _ _ _)) (fun _ hk=>hk) trivial (of_decide_eq_true (bD)) (Nat.le_trans (Nat.mul_le_mul_right _ (of_decide_eq_true (bD):a1.toNat≤7036874417766)) (by omega)) (Below.refl _ _) (Nat.le_refl _) ?_;intro v105 w10 ho11 hb hg_ hnew_;clear hg_ hnew_;(first|rw[← Ny104.out] at ho11|(simp only[Int.reduceToNat] at ho11;rw[← Ny104.out] at ho11));have n0_:=Aside0.mk (Kd.S_lower ho11 (below_size (bS GE101.out)));have n1_:=Aside0.mk (bM BK101.out hb);have n2_:=Aside0.mk (below_step (bS GE101.out) hb);clear BK101 HB;have HO106:=n0_;have BK101:=n1_;have HB:=n2_;clear n0_ n1_ n2_;clear hb ho11;obtain⟨Ao12,co12,eo12⟩:=Kd.S_slice HO106.out;subst eo12;obtain⟨hcz13_0,hcz13_1,hcz13_2⟩:=cC3 BK101.out;obtain⟨hfz13_0,hfz13_1,hfz13_2⟩:=cF3 BK101.out))
     refine bodyPost_ret (results_ct rfl _ _ gb101 24 #[.int .i64 a0,.slice Ao12 y104.length co12,.int .i64 0] (0,0) _ rfl (by(with_reducible repeat (first|refine blk_drewN ?_ _|refine blk_drew ?_|refine blk_alloc ?_ _));refine blk_put (cs:=#[.int .i64 a0,.slice Ao12 y104.length co12,.int .i64 0]) ?_ 2 _ rfl;(with_reducible repeat (first|refine blk_drewN ?_ _|refine blk_drew ?_|refine blk_alloc ?_ _));refine blk_put (cs:=#[.int .i64 a0,.slice none 0 0,.int .i64 0]) ?_ 1 _ rfl;(with_reducible repeat (first|refine blk_drewN ?_ _|refine blk_drew ?_|refine blk_alloc ?_ _));refine blk_put (cs:=#[.int .i64 0,.slice none 0 0,.int .i64 0]) ?_ 0 _ rfl;(with_reducible repeat (first|refine blk_drewN ?_ _|refine blk_drew ?_|refine blk_alloc ?_ _));exact BK101.out) Try.underlying24 rfl (by kernel_rfl)) rfl ?_
     exact⟨_,by first|rfl|(simp[errW_none,errW_some]<;>rfl)|(simp[*,errW_none,errW_some]<;>rfl),by(with_reducible repeat (first|apply Kd.S_alloc|apply Kd.S_drewN|apply Kd.S_drew));exact Kd.S_mono (Kd.S_far (p:=⟨gb101,2,none⟩) (Kd.S_far (p:=⟨gb101,1,none⟩) (Kd.S_far (p:=⟨gb101,0,none⟩) (Kd.S_types HO106.out BK101.out (by decide)) (fun _ hk=>hk.2) (.int .i64 a0)) (fun _ hk=>hk.2) (.slice Ao12 y104.length co12)) (fun _ hk=>hk.2) (.int .i64 0)) (fun _ hk=>trivial),bS GE101.out⟩
    ·rw[if_neg c8] at H
     exact absurd H (by simp)
   ·rw[if_neg c7] at H
    exact absurd H (by simp)
  ·replace c6:=Bool.eq_false_iff.mpr c6
   subst c6
   have H1:(some (0,([]:List (S61)),0,false))=some (r1,r2,r3,r4):=by rw[if_neg (show ¬ (false=true) by decide)] at H;exact H
   clear H
   have H:=H1
   clear H1
   simp only[Option.some.injEq,Prod.mk.injEq] at H
   obtain⟨rfl,rfl,rfl,rfl⟩:=H
   go_enter Try.func5,Try.ntmps5
   go_wp2_with (first|((with_reducible refine gate_dst (N:=4) rfl ?_);refine box_event ?hg (N:=4) ?hd (cs:=#[.int .i64 0,.slice none 0 0,.int .i64 0]) (t:=24) ?hr ?_;(case hd=>rfl);(case hg=>rfl);(case hr=>first|(go_simp;done)|(go_simp;rfl));intro gb101 hg w14 hbox hb;have n0_:=Aside0.mk (below_step (bB) hb);have n1_:=Aside0.mk (hbox);have n2_:=Aside0.mk ((bG:w.heap.size≤gb101));have n3_:=Aside0.mk ((bG:w.heap.size≤gb101));clear HB;have HB:=n0_;have BK101:=n1_;have GW101:=n2_;have GE101:=n3_;clear n0_ n1_ n2_ n3_;clear hb hbox hg)|((with_reducible refine gate_callee (f:=16) rfl ?_);refine goesA (some 7) rfl rfl Try.func16 #[.int .i64 a0,.int .i64 1,.int .i64 50] rfl ?_;(with_reducible refine(spec_l1In.calls a0 1 50 true _ A3.out).mono ?_);rintro e w' ⟨rfl,⟨nd,rfl⟩⟩;refine⟨_,rfl,?_⟩;(try (rw[drewN_self w14];generalize hq_:World.drewN w14 _=w14;have n0_:Aside0 (w14.heap[gb101]?=some (.cells #[.int .i64 0,.slice none 0 0,.int .i64 0] 24 (0,0))):=⟨by rw[← hq_];exact(bL BK101.out)⟩;have n1_:Aside0 (Below w.heap.size w w14):=⟨by rw[← hq_];exact(bS GE101.out)⟩;clear BK101 HB hq_;have BK101:=n0_;have HB:=n1_;clear n0_ n1_)))|(go_at_call 16;(with_reducible refine(spec_l1In.calls a1 1 6 false _ A5.out).mono ?_);rintro e w' ⟨rfl,⟨nd,rfl⟩⟩;(try (rw[drewN_self w14];generalize hq_:World.drewN w14 _=w14;have n0_:Aside0 (w14.heap[gb101]?=some (.cells #[.int .i64 0,.slice none 0 0,.int .i64 0] 24 (0,0))):=⟨by rw[← hq_];exact(bL BK101.out)⟩;have n1_:Aside0 (Below w.heap.size w w14):=⟨by rw[← hq_];exact(bS GE101.out)⟩;clear BK101 HB hq_;have BK101:=n0_;have HB:=n1_;clear n0_ n1_));obtain⟨hcz15_0,hcz15_1,hcz15_2⟩:=cC3 BK101.out;obtain⟨hfz15_0,hfz15_1,hfz15_2⟩:=cF3 BK101.out))
   refine bodyPost_ret (results_ct rfl _ _ gb101 24 #[.int .i64 0,.slice none 0 0,.int .i64 0] (0,0) _ rfl (b0_) Try.underlying24 rfl (by kernel_rfl)) rfl ?_
   exact⟨_,by first|rfl|(simp[errW_none,errW_some]<;>rfl)|(simp[*,errW_none,errW_some]<;>rfl),by first|exact Kd.S_nil _ _ _ _ _|exact Kd.N_nil _ _ _ _ _|exact Kd.V_nil _ _ _ _ _|exact Kd.Q_nil _ _ _ _ _|exact Kd.R_nil _ _ _ _ _,bS GE101.out⟩
 ·replace c4:=Bool.eq_false_iff.mpr c4
  subst c4
  have H1:(some (0,([]:List (S61)),0,false))=some (r1,r2,r3,r4):=by rw[if_neg (show ¬ (false=true) by decide)] at H;exact H
  clear H
  have H:=H1
  clear H1
  simp only[Option.some.injEq,Prod.mk.injEq] at H
  obtain⟨rfl,rfl,rfl,rfl⟩:=H
  go_enter Try.func5,Try.ntmps5
  go_wp2_with (first|((with_reducible refine gate_dst (N:=4) rfl ?_);refine box_event ?hg (N:=4) ?hd (cs:=#[.int .i64 0,.slice none 0 0,.int .i64 0]) (t:=24) ?hr ?_;(case hd=>rfl);(case hg=>rfl);(case hr=>first|(go_simp;done)|(go_simp;rfl));intro gb101 hg w16 hbox hb;have n0_:=Aside0.mk (below_step (bB) hb);have n1_:=Aside0.mk (hbox);have n2_:=Aside0.mk ((bG:w.heap.size≤gb101));have n3_:=Aside0.mk ((bG:w.heap.size≤gb101));clear HB;have HB:=n0_;have BK101:=n1_;have GW101:=n2_;have GE101:=n3_;clear n0_ n1_ n2_ n3_;clear hb hbox hg)|((with_reducible refine gate_callee (f:=16) rfl ?_);refine goesA (some 7) rfl rfl Try.func16 #[.int .i64 a0,.int .i64 1,.int .i64 50] rfl ?_;(with_reducible refine(spec_l1In.calls a0 1 50 false _ A3.out).mono ?_);rintro e w' ⟨rfl,⟨nd,rfl⟩⟩;refine⟨_,rfl,?_⟩;(try (rw[drewN_self w16];generalize hq_:World.drewN w16 _=w16;have n0_:Aside0 (w16.heap[gb101]?=some (.cells #[.int .i64 0,.slice none 0 0,.int .i64 0] 24 (0,0))):=⟨by rw[← hq_];exact(bL BK101.out)⟩;have n1_:Aside0 (Below w.heap.size w w16):=⟨by rw[← hq_];exact(bS GE101.out)⟩;clear BK101 HB hq_;have BK101:=n0_;have HB:=n1_;clear n0_ n1_));obtain⟨hcz17_0,hcz17_1,hcz17_2⟩:=cC3 BK101.out;obtain⟨hfz17_0,hfz17_1,hfz17_2⟩:=cF3 BK101.out))
  refine bodyPost_ret (results_ct rfl _ _ gb101 24 #[.int .i64 0,.slice none 0 0,.int .i64 0] (0,0) _ rfl (b0_) Try.underlying24 rfl (by kernel_rfl)) rfl ?_
  exact⟨_,by first|rfl|(simp[errW_none,errW_some]<;>rfl)|(simp[*,errW_none,errW_some]<;>rfl),by first|exact Kd.S_nil _ _ _ _ _|exact Kd.N_nil _ _ _ _ _|exact Kd.V_nil _ _ _ _ _|exact Kd.Q_nil _ _ _ _ _|exact Kd.R_nil _ _ _ _ _,bS GE101.out⟩

/-! ### impl_within: function 17 -/
def impl_within.f (a0:Int) (a1:Int) (a2:Int):Option (Bool):=if a1≤a0 then (some (decide (a0≤a2))) else (some false)
set_option maxHeartbeats 8000000 in
set_option maxRecDepth 100000 in
theorem impl_within.calls (a0:Int) (a1:Int) (a2:Int) (r:Bool) (w:World) (h:impl_within.f a0 a1 a2=some r) :
  Calls Try.prog 17 #[.int .i64 a0,.int .i64 a1,.int .i64 a2] w fun e w'=>e=.returned (.bool r)∧Drawn0 w w':=by
 have H:(if a1≤a0 then (some (decide (a0≤a2))) else (some false))=some r:=h
 clear h
 by_cases c4:a1≤a0
 ·rw[if_pos c4] at H
  have c4b0:decide (a1≤a0)=true:=decide_eq_true c4
  clear c4
  obtain rfl:=Option.some.inj H
  go_enter Try.func17,Try.ntmps17
  go_wp2
  go_ret
  exact⟨bR,bW⟩
 ·rw[if_neg c4] at H
  have c4b0:decide (a1≤a0)=false:=decide_eq_false c4
  clear c4
  obtain rfl:=Option.some.inj H
  go_enter Try.func17,Try.ntmps17
  go_wp2
  go_ret
  exact⟨bR,bW⟩

/-! ### impl_NewTurns: function 6 -/
def impl_NewTurns.f (a0:Int) (a1:Int):Option (Int × (List (S61)) × Int × Bool):=(impl_within.f a0 1 50).bind fun t108=>(if t108=true then ((impl_within.f a1 1 6).bind fun t109=>(if t109=true then (if 0≤a1 then (if (a1:Int).toNat≤7036874417766 then (some (a0,(List.replicate (a1:Int).toNat z61),0,true)) else (none)) else (none)) else (some (0,([]:List (S61)),0,false)))) else (some (0,([]:List (S61)),0,false)))
set_option maxHeartbeats 8000000 in
set_option maxRecDepth 100000 in
theorem impl_NewTurns.calls (a0:Int) (a1:Int) (r1:Int) (r2:List (S61)) (r3:Int) (r4:Bool) (w:World) (h:impl_NewTurns.f a0 a1=some (r1,r2,r3,r4)) :
  Calls Try.prog 6 #[.int .i64 a0,.int .i64 a1] w fun e w' => ∃ v1_:Value,e=.returned (.tuple #[.agg #[.int .i64 r1,v1_,.int .i64 r3],.bool r4])∧Kd.S k61 61 w' w.heap.size (fun _=>True) v1_ r2∧Below w.heap.size w w':=by
 have hu24:=Try.underlying24
 have HB:=Aside0.mk (Below.refl w.heap.size w)
 have H:((impl_within.f a0 1 50).bind fun t108=>(if t108=true then ((impl_within.f a1 1 6).bind fun t109=>(if t109=true then (if 0≤a1 then (if (a1:Int).toNat≤7036874417766 then (some (a0,(List.replicate (a1:Int).toNat z61),0,true)) else (none)) else (none)) else (some (0,([]:List (S61)),0,false)))) else (some (0,([]:List (S61)),0,false))))=some (r1,r2,r3,r4):=h
 clear h
 replace H:=Option.bind_eq_some_iff.mp H
 obtain⟨t108,A30,H⟩:=H
 replace H:(if t108=true then ((impl_within.f a1 1 6).bind fun t109=>(if t109=true then (if 0≤a1 then (if (a1:Int).toNat≤7036874417766 then (some (a0,(List.replicate (a1:Int).toNat z61),0,true)) else (none)) else (none)) else (some (0,([]:List (S61)),0,false)))) else (some (0,([]:List (S61)),0,false)))=some (r1,r2,r3,r4):=H
 have A3:=Aside0.mk A30
 clear A30
 by_cases c4:t108=true
 ·subst c4
  have H1:((impl_within.f a1 1 6).bind fun t109=>(if t109=true then (if 0≤a1 then (if (a1:Int).toNat≤7036874417766 then (some (a0,(List.replicate (a1:Int).toNat z61),0,true)) else (none)) else (none)) else (some (0,([]:List (S61)),0,false))))=some (r1,r2,r3,r4):=by rw[if_pos rfl] at H;exact H
  clear H
  have H:=H1
  clear H1
  replace H:=Option.bind_eq_some_iff.mp H
  obtain⟨t109,A50,H⟩:=H
  replace H:(if t109=true then (if 0≤a1 then (if (a1:Int).toNat≤7036874417766 then (some (a0,(List.replicate (a1:Int).toNat z61),0,true)) else (none)) else (none)) else (some (0,([]:List (S61)),0,false)))=some (r1,r2,r3,r4):=H
  have A5:=Aside0.mk A50
  clear A50
  by_cases c6:t109=true
  ·subst c6
   have H1:(if 0≤a1 then (if (a1:Int).toNat≤7036874417766 then (some (a0,(List.replicate (a1:Int).toNat z61),0,true)) else (none)) else (none))=some (r1,r2,r3,r4):=by rw[if_pos rfl] at H;exact H
   clear H
   have H:=H1
   clear H1
   by_cases c7:0≤a1
   ·rw[if_pos c7] at H
    have c7b0:=eq_true c7
    have c7b1:decide (0≤a1)=true:=decide_eq_true c7
    clear c7
    by_cases c8:(a1:Int).toNat≤7036874417766
    ·rw[if_pos c8] at H
     have c8b0:=eq_true c8
     have c8b1:decide ((a1:Int).toNat≤7036874417766)=true:=decide_eq_true c8
     clear c8
     obtain⟨y110,hy110⟩ : ∃ y_:List (S61),y_=(List.replicate (a1:Int).toNat z61):=⟨_,rfl⟩
     replace H:(some (a0,y110,0,true))=some (r1,r2,r3,r4):=by first|(rw[hy110];with_reducible exact H)|(have H2_:=(Option.bind_some _ _).symm.trans H;rw[hy110];with_reducible exact H2_)|(have H2_:=(Option.bind_some _ _).symm.trans H;with_reducible exact H2_)|with_reducible exact H|(rw[hy110];exact H)|exact H
     have Ny110:=Aside0.mk hy110
     clear hy110
     simp only[Option.some.injEq,Prod.mk.injEq] at H
     obtain⟨rfl,rfl,rfl,rfl⟩:=H
     go_enter Try.func6,Try.ntmps6
     go_wp2_with (first|((with_reducible refine gate_dst (N:=4) rfl ?_);refine box_event ?hg (N:=4) ?hd (cs:=#[.int .i64 0,.slice none 0 0,.int .i64 0]) (t:=24) ?hr ?_;(case hd=>rfl);(case hg=>rfl);(case hr=>first|(go_simp;done)|(go_simp;rfl));intro gb107 hg w9 hbox hb;have n0_:=Aside0.mk (below_step (bB) hb);have n1_:=Aside0.mk (hbox);have n2_:=Aside0.mk ((bG:w.heap.size≤gb107));have n3_:=Aside0.mk ((bG:w.heap.size≤gb107));clear HB;have HB:=n0_;have BK107:=n1_;have GW107:=n2_;have GE107:=n3_;clear n0_ n1_ n2_ n3_;clear hb hbox hg)|((with_reducible refine gate_callee (f:=17) rfl ?_);refine goesA (some 7) rfl rfl Try.func17 #[.int .i64 a0,.int .i64 1,.int .i64 50] rfl ?_;(with_reducible refine(impl_within.calls a0 1 50 true _ A3.out).mono ?_);rintro e w' ⟨rfl,⟨nd,rfl⟩⟩;refine⟨_,rfl,?_⟩;(try (rw[drewN_self w9];generalize hq_:World.drewN w9 _=w9;have n0_:Aside0 (w9.heap[gb107]?=some (.cells #[.int .i64 0,.slice none 0 0,.int .i64 0] 24 (0,0))):=⟨by rw[← hq_];exact(bL BK107.out)⟩;have n1_:Aside0 (Below w.heap.size w w9):=⟨by rw[← hq_];exact(bS GE107.out)⟩;clear BK107 HB hq_;have BK107:=n0_;have HB:=n1_;clear n0_ n1_)))|(go_at_call 17;(with_reducible refine(impl_within.calls a1 1 6 true _ A5.out).mono ?_);rintro e w' ⟨rfl,⟨nd,rfl⟩⟩;(try (rw[drewN_self w9];generalize hq_:World.drewN w9 _=w9;have n0_:Aside0 (w9.heap[gb107]?=some (.cells #[.int .i64 0,.slice none 0 0,.int .i64 0] 24 (0,0))):=⟨by rw[← hq_];exact(bL BK107.out)⟩;have n1_:Aside0 (Below w.heap.size w w9):=⟨by rw[← hq_];exact(bS GE107.out)⟩;clear BK107 HB hq_;have BK107:=n0_;have HB:=n1_;clear n0_ n1_)))|((with_reducible refine gate_dst (N:=17) rfl ?_);refine Kd.S_make k61 _ 61 rfl (N:=17) rfl 22 _ _ rfl a1 rfl rfl Try.underlying22 (.agg #[(.slice none 0 0),(.int .i64 0),(.int .i64 0)]) 40 info61 rfl (by decide) (by omega) z61 (ok:=fun _=>True) (okp:=fun _=>True) (k61_mkM _ _ _ z61 (Kd.R_nil _ _ _ _ _)) (fun _ hk=>hk) trivial (of_decide_eq_true (bD)) (Nat.le_trans (Nat.mul_le_mul_right _ (of_decide_eq_true (bD):a1.toNat≤7036874417766)) (by omega)) (Below.refl _ _) (Nat.le_refl _) ?_;intro v111 w10 ho11 hb hg_ hnew_;clear hg_ hnew_;(first|rw[← Ny110.out] at ho11|(simp only[Int.reduceToNat] at ho11;rw[← Ny110.out] at ho11));have n0_:=Aside0.mk (Kd.S_lower ho11 (below_size (bS GE107.out)));have n1_:=Aside0.mk (bM BK107.out hb);have n2_:=Aside0.mk (below_step (bS GE107.out) hb);clear BK107 HB;have HO112:=n0_;have BK107:=n1_;have HB:=n2_;clear n0_ n1_ n2_;clear hb ho11;obtain⟨Ao12,co12,eo12⟩:=Kd.S_slice HO112.out;subst eo12;obtain⟨hcz13_0,hcz13_1,hcz13_2⟩:=cC3 BK107.out;obtain⟨hfz13_0,hfz13_1,hfz13_2⟩:=cF3 BK107.out))
     refine bodyPost_ret (results_ct rfl _ _ gb107 24 #[.int .i64 a0,.slice Ao12 y110.length co12,.int .i64 0] (0,0) _ rfl (by(with_reducible repeat (first|refine blk_drewN ?_ _|refine blk_drew ?_|refine blk_alloc ?_ _));refine blk_put (cs:=#[.int .i64 a0,.slice Ao12 y110.length co12,.int .i64 0]) ?_ 2 _ rfl;(with_reducible repeat (first|refine blk_drewN ?_ _|refine blk_drew ?_|refine blk_alloc ?_ _));refine blk_put (cs:=#[.int .i64 a0,.slice none 0 0,.int .i64 0]) ?_ 1 _ rfl;(with_reducible repeat (first|refine blk_drewN ?_ _|refine blk_drew ?_|refine blk_alloc ?_ _));refine blk_put (cs:=#[.int .i64 0,.slice none 0 0,.int .i64 0]) ?_ 0 _ rfl;(with_reducible repeat (first|refine blk_drewN ?_ _|refine blk_drew ?_|refine blk_alloc ?_ _));exact BK107.out) Try.underlying24 rfl (by kernel_rfl)) rfl ?_
     exact⟨_,by first|rfl|(simp[errW_none,errW_some]<;>rfl)|(simp[*,errW_none,errW_some]<;>rfl),by(with_reducible repeat (first|apply Kd.S_alloc|apply Kd.S_drewN|apply Kd.S_drew));exact Kd.S_mono (Kd.S_far (p:=⟨gb107,2,none⟩) (Kd.S_far (p:=⟨gb107,1,none⟩) (Kd.S_far (p:=⟨gb107,0,none⟩) (Kd.S_types HO112.out BK107.out (by decide)) (fun _ hk=>hk.2) (.int .i64 a0)) (fun _ hk=>hk.2) (.slice Ao12 y110.length co12)) (fun _ hk=>hk.2) (.int .i64 0)) (fun _ hk=>trivial),bS GE107.out⟩
    ·rw[if_neg c8] at H
     exact absurd H (by simp)
   ·rw[if_neg c7] at H
    exact absurd H (by simp)
  ·replace c6:=Bool.eq_false_iff.mpr c6
   subst c6
   have H1:(some (0,([]:List (S61)),0,false))=some (r1,r2,r3,r4):=by rw[if_neg (show ¬ (false=true) by decide)] at H;exact H
   clear H
   have H:=H1
   clear H1
   simp only[Option.some.injEq,Prod.mk.injEq] at H
   obtain⟨rfl,rfl,rfl,rfl⟩:=H
   go_enter Try.func6,Try.ntmps6
   go_wp2_with (first|((with_reducible refine gate_dst (N:=4) rfl ?_);refine box_event ?hg (N:=4) ?hd (cs:=#[.int .i64 0,.slice none 0 0,.int .i64 0]) (t:=24) ?hr ?_;(case hd=>rfl);(case hg=>rfl);(case hr=>first|(go_simp;done)|(go_simp;rfl));intro gb107 hg w14 hbox hb;have n0_:=Aside0.mk (below_step (bB) hb);have n1_:=Aside0.mk (hbox);have n2_:=Aside0.mk ((bG:w.heap.size≤gb107));have n3_:=Aside0.mk ((bG:w.heap.size≤gb107));clear HB;have HB:=n0_;have BK107:=n1_;have GW107:=n2_;have GE107:=n3_;clear n0_ n1_ n2_ n3_;clear hb hbox hg)|((with_reducible refine gate_callee (f:=17) rfl ?_);refine goesA (some 7) rfl rfl Try.func17 #[.int .i64 a0,.int .i64 1,.int .i64 50] rfl ?_;(with_reducible refine(impl_within.calls a0 1 50 true _ A3.out).mono ?_);rintro e w' ⟨rfl,⟨nd,rfl⟩⟩;refine⟨_,rfl,?_⟩;(try (rw[drewN_self w14];generalize hq_:World.drewN w14 _=w14;have n0_:Aside0 (w14.heap[gb107]?=some (.cells #[.int .i64 0,.slice none 0 0,.int .i64 0] 24 (0,0))):=⟨by rw[← hq_];exact(bL BK107.out)⟩;have n1_:Aside0 (Below w.heap.size w w14):=⟨by rw[← hq_];exact(bS GE107.out)⟩;clear BK107 HB hq_;have BK107:=n0_;have HB:=n1_;clear n0_ n1_)))|(go_at_call 17;(with_reducible refine(impl_within.calls a1 1 6 false _ A5.out).mono ?_);rintro e w' ⟨rfl,⟨nd,rfl⟩⟩;(try (rw[drewN_self w14];generalize hq_:World.drewN w14 _=w14;have n0_:Aside0 (w14.heap[gb107]?=some (.cells #[.int .i64 0,.slice none 0 0,.int .i64 0] 24 (0,0))):=⟨by rw[← hq_];exact(bL BK107.out)⟩;have n1_:Aside0 (Below w.heap.size w w14):=⟨by rw[← hq_];exact(bS GE107.out)⟩;clear BK107 HB hq_;have BK107:=n0_;have HB:=n1_;clear n0_ n1_));obtain⟨hcz15_0,hcz15_1,hcz15_2⟩:=cC3 BK107.out;obtain⟨hfz15_0,hfz15_1,hfz15_2⟩:=cF3 BK107.out))
   refine bodyPost_ret (results_ct rfl _ _ gb107 24 #[.int .i64 0,.slice none 0 0,.int .i64 0] (0,0) _ rfl (b1_) Try.underlying24 rfl (by kernel_rfl)) rfl ?_
   exact⟨_,by first|rfl|(simp[errW_none,errW_some]<;>rfl)|(simp[*,errW_none,errW_some]<;>rfl),by first|exact Kd.S_nil _ _ _ _ _|exact Kd.N_nil _ _ _ _ _|exact Kd.V_nil _ _ _ _ _|exact Kd.Q_nil _ _ _ _ _|exact Kd.R_nil _ _ _ _ _,bS GE107.out⟩
 ·replace c4:=Bool.eq_false_iff.mpr c4
  subst c4
  have H1:(some (0,([]:List (S61)),0,false))=some (r1,r2,r3,r4):=by rw[if_neg (show ¬ (false=true) by decide)] at H;exact H
  clear H
  have H:=H1
  clear H1
  simp only[Option.some.injEq,Prod.mk.injEq] at H
  obtain⟨rfl,rfl,rfl,rfl⟩:=H
  go_enter Try.func6,Try.ntmps6
  go_wp2_with (first|((with_reducible refine gate_dst (N:=4) rfl ?_);refine box_event ?hg (N:=4) ?hd (cs:=#[.int .i64 0,.slice none 0 0,.int .i64 0]) (t:=24) ?hr ?_;(case hd=>rfl);(case hg=>rfl);(case hr=>first|(go_simp;done)|(go_simp;rfl));intro gb107 hg w16 hbox hb;have n0_:=Aside0.mk (below_step (bB) hb);have n1_:=Aside0.mk (hbox);have n2_:=Aside0.mk ((bG:w.heap.size≤gb107));have n3_:=Aside0.mk ((bG:w.heap.size≤gb107));clear HB;have HB:=n0_;have BK107:=n1_;have GW107:=n2_;have GE107:=n3_;clear n0_ n1_ n2_ n3_;clear hb hbox hg)|((with_reducible refine gate_callee (f:=17) rfl ?_);refine goesA (some 7) rfl rfl Try.func17 #[.int .i64 a0,.int .i64 1,.int .i64 50] rfl ?_;(with_reducible refine(impl_within.calls a0 1 50 false _ A3.out).mono ?_);rintro e w' ⟨rfl,⟨nd,rfl⟩⟩;refine⟨_,rfl,?_⟩;(try (rw[drewN_self w16];generalize hq_:World.drewN w16 _=w16;have n0_:Aside0 (w16.heap[gb107]?=some (.cells #[.int .i64 0,.slice none 0 0,.int .i64 0] 24 (0,0))):=⟨by rw[← hq_];exact(bL BK107.out)⟩;have n1_:Aside0 (Below w.heap.size w w16):=⟨by rw[← hq_];exact(bS GE107.out)⟩;clear BK107 HB hq_;have BK107:=n0_;have HB:=n1_;clear n0_ n1_));obtain⟨hcz17_0,hcz17_1,hcz17_2⟩:=cC3 BK107.out;obtain⟨hfz17_0,hfz17_1,hfz17_2⟩:=cF3 BK107.out))
  refine bodyPost_ret (results_ct rfl _ _ gb107 24 #[.int .i64 0,.slice none 0 0,.int .i64 0] (0,0) _ rfl (b1_) Try.underlying24 rfl (by kernel_rfl)) rfl ?_
  exact⟨_,by first|rfl|(simp[errW_none,errW_some]<;>rfl)|(simp[*,errW_none,errW_some]<;>rfl),by first|exact Kd.S_nil _ _ _ _ _|exact Kd.N_nil _ _ _ _ _|exact Kd.V_nil _ _ _ _ _|exact Kd.Q_nil _ _ _ _ _|exact Kd.R_nil _ _ _ _ _,bS GE107.out⟩

/-! ### laws_eqIntS: function 46 -/
def laws_eqIntS.l0:Nat→List Int→List Int→Int→Option (Bool)
 | 0,_,_,_=>none
 | k+1,x0,x1,x5=>if x5 < (x0.length:Int) then (if 0≤x5 then (if x5 < (x1.length:Int) then (if (rd x0 x5)=(rd x1 x5) then (laws_eqIntS.l0 k x0 x1 (wrap64 (x5+1))) else (some false)) else (none)) else (none)) else (some true)
def laws_eqIntS.f (k:Nat) (l0:List Int) (l1:List Int):Option (Bool):=if (l0.length:Int)=(l1.length:Int) then (laws_eqIntS.l0 k l0 l1 0) else (some false)
theorem laws_eqIntS.mono_l : ∀ k,(∀ y0 y1 y2,LeO (laws_eqIntS.l0 k y0 y1 y2) (laws_eqIntS.l0 (k+1) y0 y1 y2))
 | 0=>fun _ _ _ r h=>by simp[laws_eqIntS.l0] at h
 | k+1=>by
  have ih0:=laws_eqIntS.mono_l k
  ·intro y0 y1 y2
   unfold laws_eqIntS.l0
   repeat' first
   | (with_reducible exact ih0 _ _ _)
   | (with_reducible exact LeO.refl _)
   | (with_reducible exact LeO.none _)
   | (with_reducible refine LeO.ite ?_ ?_)
   | (with_reducible refine LeO.bind ?_ (fun _ => ?_))
   | exact ih0 _ _ _
   | exact LeO.none _
   | refine LeO.ite ?_ ?_
   | refine LeO.bind ?_ (fun _ => ?_)
theorem laws_eqIntS.mono : ∀ a0 a1 k,LeO (laws_eqIntS.f k a0 a1) (laws_eqIntS.f (k+1) a0 a1):=by
 intro a0 a1 k
 have ih0:=laws_eqIntS.mono_l k
 unfold laws_eqIntS.f
 repeat' first
  | (with_reducible exact ih0 _ _ _)
  | (with_reducible exact LeO.refl _)
  | (with_reducible exact LeO.none _)
  | (with_reducible refine LeO.ite ?_ ?_)
  | (with_reducible refine LeO.bind ?_ (fun _ => ?_))
  | exact ih0 _ _ _
  | exact LeO.none _
  | refine LeO.ite ?_ ?_
  | refine LeO.bind ?_ (fun _ => ?_)
set_option maxHeartbeats 8000000 in
set_option maxRecDepth 100000 in
theorem laws_eqIntS.calls (k:Nat) (A0:Option Addr) (c0:Nat) (l0:List Int) (A1:Option Addr) (c1:Nat) (l1:List Int) (r:Bool) (w:World) (hr0:Kd.C (Kd.int .i64) w A0 l0.length l0) (hc0:l0.length≤c0) (hr1:Kd.C (Kd.int .i64) w A1 l1.length l1) (hc1:l1.length≤c1) (h:laws_eqIntS.f k l0 l1=some r) :
  Calls Try.prog 46 #[.slice A0 l0.length c0,.slice A1 l1.length c1] w fun e w'=>e=.returned (.bool r)∧Drawn0 w w':=by
 have HR0:=Aside0.mk hr0
 have HC0:=Aside0.mk hc0
 clear hr0 hc0
 have HR1:=Aside0.mk hr1
 have HC1:=Aside0.mk hc1
 clear hr1 hc1
 have H:(if (l0.length:Int)=(l1.length:Int) then (laws_eqIntS.l0 k l0 l1 0) else (some false))=some r:=h
 clear h
 by_cases c3:(l0.length:Int)=(l1.length:Int)
 ·rw[if_pos c3] at H
  have c3b0:((l0.length:Int) == (l1.length:Int))=true:=beq_iff_eq.mpr c3
  have c3b1:((l0.length:Int) != (l1.length:Int))=false:=bne_eq_false_iff_eq.mpr c3
  have c3b2:(l0.length == l1.length)=true:=by first|simpa using c3|(simp at c3 ⊢;omega)
  clear c3
  have H':=Aside0.mk H
  clear H
  go_enter Try.func46,Try.ntmps46
  go_wp2
  repeat (go_quiet (fail);try go_wp2)
  go_loopg [5] k (fun kq v5 w' => ∃ (x5_1:Int),v5=.int .i64 x5_1∧Aside0 (laws_eqIntS.l0 kq l0 l1 x5_1=some r)∧Aside0 (kq≤k)∧Drawn0 w w')
  case atStart=>exact⟨(0),(bR),H',⟨Nat.le_refl _⟩,bW⟩
  case round =>
   clear H'
   try clear c1
   try clear p2
   try clear c3
   try clear c3b0
   try clear c3b1
   try clear c3b2
   obtain⟨x5_1,rfl,HA,HK1,⟨m1,rfl⟩⟩:=hrel
   cases gk with
   | zero=>exact absurd HA.out (by simp[laws_eqIntS.l0])
   | succ k1 =>
    have H:=HA.out
    clear HA
    simp only[laws_eqIntS.l0] at H
    by_cases c4:x5_1 < (l0.length:Int)
    ·rw[if_pos c4] at H
     have c4b0:decide (x5_1 < (l0.length:Int))=true:=decide_eq_true c4
     clear c4
     by_cases c5:0≤x5_1
     ·rw[if_pos c5] at H
      have c5b0:decide (0≤x5_1)=true:=decide_eq_true c5
      clear c5
      by_cases c6:x5_1 < (l1.length:Int)
      ·rw[if_pos c6] at H
       have c6b0:decide (x5_1 < (l1.length:Int))=true:=decide_eq_true c6
       clear c6
       by_cases c7:(rd l0 x5_1)=(rd l1 x5_1)
       ·rw[if_pos c7] at H
        have c7b0:((rd l0 x5_1) == (rd l1 x5_1))=true:=beq_iff_eq.mpr c7
        have c7b1:((rd l0 x5_1) != (rd l1 x5_1))=false:=bne_eq_false_iff_eq.mpr c7
        clear c7
        have H':=Aside0.mk H
        clear H
        have p113:0≤(x5_1:Int):=of_decide_eq_true (bD)
        have q113:x5_1 < (l0.length:Int):=of_decide_eq_true (bD)
        obtain⟨ad113,e113,hx113_0⟩:=Kd.at_int HR0.out x5_1 p113 q113
        cases e113
        replace p113:=eq_true p113
        replace q113:=eq_true q113
        have p114:0≤(x5_1:Int):=of_decide_eq_true (bD)
        have q114:x5_1 < (l1.length:Int):=of_decide_eq_true (bD)
        obtain⟨ad114,e114,hx114_0⟩:=Kd.at_int HR1.out x5_1 p114 q114
        cases e114
        replace p114:=eq_true p114
        replace q114:=eq_true q114
        go_wp2
        repeat (go_quiet (fail);try go_wp2)
        go_roundg k1
        case measure=>have:=HK1.out;omega
        case rel=>exact⟨(wrap64 (x5_1+1)),(bR),H',⟨by have:=HK1.out;omega⟩,bW⟩
       ·rw[if_neg c7] at H
        have c7b0:((rd l0 x5_1) == (rd l1 x5_1))=false:=beq_eq_false_iff_ne.mpr c7
        have c7b1:((rd l0 x5_1) != (rd l1 x5_1))=true:=bne_iff_ne.mpr c7
        obtain rfl:=Option.some.inj H
        have p113:0≤(x5_1:Int):=of_decide_eq_true (bD)
        have q113:x5_1 < (l0.length:Int):=of_decide_eq_true (bD)
        obtain⟨ad113,e113,hx113_0⟩:=Kd.at_int HR0.out x5_1 p113 q113
        cases e113
        replace p113:=eq_true p113
        replace q113:=eq_true q113
        have p114:0≤(x5_1:Int):=of_decide_eq_true (bD)
        have q114:x5_1 < (l1.length:Int):=of_decide_eq_true (bD)
        obtain⟨ad114,e114,hx114_0⟩:=Kd.at_int HR1.out x5_1 p114 q114
        cases e114
        replace p114:=eq_true p114
        replace q114:=eq_true q114
        go_wp2
        repeat (go_quiet (fail);try go_wp2)
        go_ret
        exact⟨bR,bW⟩
      ·rw[if_neg c6] at H
       exact absurd H (by simp)
     ·rw[if_neg c5] at H
      exact absurd H (by simp)
    ·rw[if_neg c4] at H
     have c4b0:decide (x5_1 < (l0.length:Int))=false:=decide_eq_false c4
     clear c4
     obtain rfl:=Option.some.inj H
     go_wp2
     repeat (go_quiet (fail);try go_wp2)
     go_ret
     exact⟨bR,bW⟩
 ·rw[if_neg c3] at H
  have c3b0:((l0.length:Int) == (l1.length:Int))=false:=beq_eq_false_iff_ne.mpr c3
  have c3b1:((l0.length:Int) != (l1.length:Int))=true:=bne_iff_ne.mpr c3
  have c3b2:(l0.length == l1.length)=false:=by first|simpa using c3|(simp at c3 ⊢;omega)
  obtain rfl:=Option.some.inj H
  go_enter Try.func46,Try.ntmps46
  go_wp2
  repeat (go_quiet (fail);try go_wp2)
  go_ret
  exact⟨bR,bW⟩

/-! ### laws_eqQueue: function 34 -/
def laws_eqQueue.f (k:Nat) (l0_0:List Int) (a0_1:Int) (a0_2:Int) (l1_0:List Int) (a1_1:Int) (a1_2:Int):Option (Bool):=(laws_eqIntS.f k l0_0 l1_0).bind fun t117=>(if t117=true then (if a0_1=a1_1 then (if a0_2=a1_2 then (some true) else (some false)) else (some false)) else (some false))
theorem laws_eqQueue.mono : ∀ a0 a1 a2 a3 a4 a5 k,LeO (laws_eqQueue.f k a0 a1 a2 a3 a4 a5) (laws_eqQueue.f (k+1) a0 a1 a2 a3 a4 a5):=by
 intro a0 a1 a2 a3 a4 a5 k
 unfold laws_eqQueue.f
 repeat' first
  | (with_reducible exact laws_eqIntS.mono _ _ _)
  | (with_reducible exact LeO.refl _)
  | (with_reducible exact LeO.none _)
  | (with_reducible refine LeO.ite ?_ ?_)
  | (with_reducible refine LeO.bind ?_ (fun _ => ?_))
  | exact laws_eqIntS.mono _ _ _
  | exact LeO.none _
  | refine LeO.ite ?_ ?_
  | refine LeO.bind ?_ (fun _ => ?_)
set_option maxHeartbeats 8000000 in
set_option maxRecDepth 100000 in
theorem laws_eqQueue.calls (k:Nat) (A0_0:Option Addr) (c0_0:Nat) (l0_0:List Int) (a0_1:Int) (a0_2:Int) (A1_0:Option Addr) (c1_0:Nat) (l1_0:List Int) (a1_1:Int) (a1_2:Int) (r:Bool) (w:World) (hr0_0:Kd.C (Kd.int .i64) w A0_0 l0_0.length l0_0) (hc0_0:l0_0.length≤c0_0) (hr1_0:Kd.C (Kd.int .i64) w A1_0 l1_0.length l1_0) (hc1_0:l1_0.length≤c1_0) (h:laws_eqQueue.f k l0_0 a0_1 a0_2 l1_0 a1_1 a1_2=some r) :
  Calls Try.prog 34 #[.agg #[.slice A0_0 l0_0.length c0_0,.int .i64 a0_1,.int .i64 a0_2],.agg #[.slice A1_0 l1_0.length c1_0,.int .i64 a1_1,.int .i64 a1_2]] w fun e w'=>e=.returned (.bool r)∧Below w.heap.size w w':=by
 have hu61:=Try.underlying61
 have HR0_0:=Aside0.mk hr0_0
 have HC0_0:=Aside0.mk hc0_0
 clear hr0_0 hc0_0
 have HR1_0:=Aside0.mk hr1_0
 have HC1_0:=Aside0.mk hc1_0
 clear hr1_0 hc1_0
 have HB:=Aside0.mk (Below.refl w.heap.size w)
 have H:((laws_eqIntS.f k l0_0 l1_0).bind fun t117=>(if t117=true then (if a0_1=a1_1 then (if a0_2=a1_2 then (some true) else (some false)) else (some false)) else (some false)))=some r:=h
 clear h
 replace H:=Option.bind_eq_some_iff.mp H
 obtain⟨t117,A30,H⟩:=H
 have A3:=Aside0.mk A30
 clear A30
 by_cases c4:t117=true
 ·subst c4
  have H1:(if a0_1=a1_1 then (if a0_2=a1_2 then (some true) else (some false)) else (some false))=some r:=by rw[if_pos rfl] at H;exact H
  clear H
  have H:=H1
  clear H1
  by_cases c5:a0_1=a1_1
  ·rw[if_pos c5] at H
   have c5b0:(a0_1 == a1_1)=true:=beq_iff_eq.mpr c5
   have c5b1:(a0_1 != a1_1)=false:=bne_eq_false_iff_eq.mpr c5
   clear c5
   by_cases c6:a0_2=a1_2
   ·rw[if_pos c6] at H
    have c6b0:(a0_2 == a1_2)=true:=beq_iff_eq.mpr c6
    have c6b1:(a0_2 != a1_2)=false:=bne_eq_false_iff_eq.mpr c6
    clear c6
    obtain rfl:=Option.some.inj H
    go_enter Try.func34,Try.ntmps34
    go_wp2_with (first|((with_reducible refine gate_dst (N:=2) rfl ?_);refine box_event ?hg (N:=2) ?hd (cs:=#[.slice A0_0 l0_0.length c0_0,.int .i64 a0_1,.int .i64 a0_2]) (t:=61) ?hr ?_;(case hd=>rfl);(case hg=>rfl);(case hr=>first|(go_simp;done)|(go_simp;rfl));intro gb115 hg w7 hbox hb;have n0_:=Aside0.mk (below_step (bB) hb);have n1_:=Aside0.mk (hbox);have n2_:=Aside0.mk ((bG:w.heap.size≤gb115));have n3_:=Aside0.mk ((bG:w.heap.size≤gb115));clear HB;have HB:=n0_;have BK115:=n1_;have GW115:=n2_;have GE115:=n3_;clear n0_ n1_ n2_ n3_;clear hb hbox hg)|((with_reducible refine gate_dst (N:=3) rfl ?_);refine box_event ?hg (N:=3) ?hd (cs:=#[.slice A1_0 l1_0.length c1_0,.int .i64 a1_1,.int .i64 a1_2]) (t:=61) ?hr ?_;(case hd=>rfl);(case hg=>rfl);(case hr=>first|(go_simp;done)|(go_simp;rfl));intro gb116 hg w8 hbox hb;have n0_:=Aside0.mk (bM BK115.out hb);have n1_:=Aside0.mk (below_step (bS GE115.out) hb);have n2_:=Aside0.mk (hbox);have n3_:=Aside0.mk ((by rw[hg];exact(below_size (bS GE115.out)):w.heap.size≤gb116));have n4_:=Aside0.mk ((by rw[hg];exact(below_size (bS GE115.out)):w.heap.size≤gb116));have n5_:=Aside0.mk ((bN BK115.out hg:gb115≠gb116));have n6_:=Aside0.mk ((bO BK115.out hg:gb116≠gb115));clear BK115 HB;have BK115:=n0_;have HB:=n1_;have BK116:=n2_;have GW116:=n3_;have GE116:=n4_;have NB115_116:=n5_;have NB116_115:=n6_;clear n0_ n1_ n2_ n3_ n4_ n5_ n6_;clear hb hbox hg;have hnb9:=NB115_116.out;have hnc9:=NB116_115.out;obtain⟨hcz10_0,hcz10_1,hcz10_2⟩:=cC3 BK115.out;obtain⟨hfz10_0,hfz10_1,hfz10_2⟩:=cF3 BK115.out;obtain⟨hcz11_0,hcz11_1,hcz11_2⟩:=cC3 BK116.out;obtain⟨hfz11_0,hfz11_1,hfz11_2⟩:=cF3 BK116.out)|((with_reducible refine gate_callee (f:=46) rfl ?_);refine goesA (some 9) rfl rfl Try.func46 #[.slice A0_0 l0_0.length c0_0,.slice A1_0 l1_0.length c1_0] rfl ?_;(with_reducible refine(laws_eqIntS.calls k _ _ l0_0 _ _ l1_0 true _ ?side1 ?side2 ?side3 ?side4 A3.out).mono ?_);(case side1=>exact bC HR0_0.out);(case side2=>exact HC0_0.out);(case side3=>exact bC HR1_0.out);(case side4=>exact HC1_0.out);rintro e w' ⟨rfl,⟨nd,rfl⟩⟩;refine⟨_,rfl,?_⟩))
    go_ret
    exact⟨bE,bS2 GE115.out GE116.out⟩
   ·rw[if_neg c6] at H
    have c6b0:(a0_2 == a1_2)=false:=beq_eq_false_iff_ne.mpr c6
    have c6b1:(a0_2 != a1_2)=true:=bne_iff_ne.mpr c6
    obtain rfl:=Option.some.inj H
    go_enter Try.func34,Try.ntmps34
    go_wp2_with (first|((with_reducible refine gate_dst (N:=2) rfl ?_);refine box_event ?hg (N:=2) ?hd (cs:=#[.slice A0_0 l0_0.length c0_0,.int .i64 a0_1,.int .i64 a0_2]) (t:=61) ?hr ?_;(case hd=>rfl);(case hg=>rfl);(case hr=>first|(go_simp;done)|(go_simp;rfl));intro gb115 hg w12 hbox hb;have n0_:=Aside0.mk (below_step (bB) hb);have n1_:=Aside0.mk (hbox);have n2_:=Aside0.mk ((bG:w.heap.size≤gb115));have n3_:=Aside0.mk ((bG:w.heap.size≤gb115));clear HB;have HB:=n0_;have BK115:=n1_;have GW115:=n2_;have GE115:=n3_;clear n0_ n1_ n2_ n3_;clear hb hbox hg)|((with_reducible refine gate_dst (N:=3) rfl ?_);refine box_event ?hg (N:=3) ?hd (cs:=#[.slice A1_0 l1_0.length c1_0,.int .i64 a1_1,.int .i64 a1_2]) (t:=61) ?hr ?_;(case hd=>rfl);(case hg=>rfl);(case hr=>first|(go_simp;done)|(go_simp;rfl));intro gb116 hg w13 hbox hb;have n0_:=Aside0.mk (bM BK115.out hb);have n1_:=Aside0.mk (below_step (bS GE115.out) hb);have n2_:=Aside0.mk (hbox);have n3_:=Aside0.mk ((by rw[hg];exact(below_size (bS GE115.out)):w.heap.size≤gb116));have n4_:=Aside0.mk ((by rw[hg];exact(below_size (bS GE115.out)):w.heap.size≤gb116));have n5_:=Aside0.mk ((bN BK115.out hg:gb115≠gb116));have n6_:=Aside0.mk ((bO BK115.out hg:gb116≠gb115));clear BK115 HB;have BK115:=n0_;have HB:=n1_;have BK116:=n2_;have GW116:=n3_;have GE116:=n4_;have NB115_116:=n5_;have NB116_115:=n6_;clear n0_ n1_ n2_ n3_ n4_ n5_ n6_;clear hb hbox hg;have hnb14:=NB115_116.out;have hnc14:=NB116_115.out;obtain⟨hcz15_0,hcz15_1,hcz15_2⟩:=cC3 BK115.out;obtain⟨hfz15_0,hfz15_1,hfz15_2⟩:=cF3 BK115.out;obtain⟨hcz16_0,hcz16_1,hcz16_2⟩:=cC3 BK116.out;obtain⟨hfz16_0,hfz16_1,hfz16_2⟩:=cF3 BK116.out)|((with_reducible refine gate_callee (f:=46) rfl ?_);refine goesA (some 9) rfl rfl Try.func46 #[.slice A0_0 l0_0.length c0_0,.slice A1_0 l1_0.length c1_0] rfl ?_;(with_reducible refine(laws_eqIntS.calls k _ _ l0_0 _ _ l1_0 true _ ?side1 ?side2 ?side3 ?side4 A3.out).mono ?_);(case side1=>exact bC HR0_0.out);(case side2=>exact HC0_0.out);(case side3=>exact bC HR1_0.out);(case side4=>exact HC1_0.out);rintro e w' ⟨rfl,⟨nd,rfl⟩⟩;refine⟨_,rfl,?_⟩))
    go_ret
    exact⟨bE,bS2 GE115.out GE116.out⟩
  ·rw[if_neg c5] at H
   have c5b0:(a0_1 == a1_1)=false:=beq_eq_false_iff_ne.mpr c5
   have c5b1:(a0_1 != a1_1)=true:=bne_iff_ne.mpr c5
   obtain rfl:=Option.some.inj H
   go_enter Try.func34,Try.ntmps34
   go_wp2_with (first|((with_reducible refine gate_dst (N:=2) rfl ?_);refine box_event ?hg (N:=2) ?hd (cs:=#[.slice A0_0 l0_0.length c0_0,.int .i64 a0_1,.int .i64 a0_2]) (t:=61) ?hr ?_;(case hd=>rfl);(case hg=>rfl);(case hr=>first|(go_simp;done)|(go_simp;rfl));intro gb115 hg w17 hbox hb;have n0_:=Aside0.mk (below_step (bB) hb);have n1_:=Aside0.mk (hbox);have n2_:=Aside0.mk ((bG:w.heap.size≤gb115));have n3_:=Aside0.mk ((bG:w.heap.size≤gb115));clear HB;have HB:=n0_;have BK115:=n1_;have GW115:=n2_;have GE115:=n3_;clear n0_ n1_ n2_ n3_;clear hb hbox hg)|((with_reducible refine gate_dst (N:=3) rfl ?_);refine box_event ?hg (N:=3) ?hd (cs:=#[.slice A1_0 l1_0.length c1_0,.int .i64 a1_1,.int .i64 a1_2]) (t:=61) ?hr ?_;(case hd=>rfl);(case hg=>rfl);(case hr=>first|(go_simp;done)|(go_simp;rfl));intro gb116 hg w18 hbox hb;have n0_:=Aside0.mk (bM BK115.out hb);have n1_:=Aside0.mk (below_step (bS GE115.out) hb);have n2_:=Aside0.mk (hbox);have n3_:=Aside0.mk ((by rw[hg];exact(below_size (bS GE115.out)):w.heap.size≤gb116));have n4_:=Aside0.mk ((by rw[hg];exact(below_size (bS GE115.out)):w.heap.size≤gb116));have n5_:=Aside0.mk ((bN BK115.out hg:gb115≠gb116));have n6_:=Aside0.mk ((bO BK115.out hg:gb116≠gb115));clear BK115 HB;have BK115:=n0_;have HB:=n1_;have BK116:=n2_;have GW116:=n3_;have GE116:=n4_;have NB115_116:=n5_;have NB116_115:=n6_;clear n0_ n1_ n2_ n3_ n4_ n5_ n6_;clear hb hbox hg;have hnb19:=NB115_116.out;have hnc19:=NB116_115.out;obtain⟨hcz20_0,hcz20_1,hcz20_2⟩:=cC3 BK115.out;obtain⟨hfz20_0,hfz20_1,hfz20_2⟩:=cF3 BK115.out;obtain⟨hcz21_0,hcz21_1,hcz21_2⟩:=cC3 BK116.out;obtain⟨hfz21_0,hfz21_1,hfz21_2⟩:=cF3 BK116.out)|((with_reducible refine gate_callee (f:=46) rfl ?_);refine goesA (some 9) rfl rfl Try.func46 #[.slice A0_0 l0_0.length c0_0,.slice A1_0 l1_0.length c1_0] rfl ?_;(with_reducible refine(laws_eqIntS.calls k _ _ l0_0 _ _ l1_0 true _ ?side1 ?side2 ?side3 ?side4 A3.out).mono ?_);(case side1=>exact bC HR0_0.out);(case side2=>exact HC0_0.out);(case side3=>exact bC HR1_0.out);(case side4=>exact HC1_0.out);rintro e w' ⟨rfl,⟨nd,rfl⟩⟩;refine⟨_,rfl,?_⟩))
   go_ret
   exact⟨bE,bS2 GE115.out GE116.out⟩
 ·replace c4:=Bool.eq_false_iff.mpr c4
  subst c4
  have H1:(some false)=some r:=by rw[if_neg (show ¬ (false=true) by decide)] at H;exact H
  clear H
  have H:=H1
  clear H1
  obtain rfl:=Option.some.inj H
  go_enter Try.func34,Try.ntmps34
  go_wp2_with (first|((with_reducible refine gate_dst (N:=2) rfl ?_);refine box_event ?hg (N:=2) ?hd (cs:=#[.slice A0_0 l0_0.length c0_0,.int .i64 a0_1,.int .i64 a0_2]) (t:=61) ?hr ?_;(case hd=>rfl);(case hg=>rfl);(case hr=>first|(go_simp;done)|(go_simp;rfl));intro gb115 hg w22 hbox hb;have n0_:=Aside0.mk (below_step (bB) hb);have n1_:=Aside0.mk (hbox);have n2_:=Aside0.mk ((bG:w.heap.size≤gb115));have n3_:=Aside0.mk ((bG:w.heap.size≤gb115));clear HB;have HB:=n0_;have BK115:=n1_;have GW115:=n2_;have GE115:=n3_;clear n0_ n1_ n2_ n3_;clear hb hbox hg)|((with_reducible refine gate_dst (N:=3) rfl ?_);refine box_event ?hg (N:=3) ?hd (cs:=#[.slice A1_0 l1_0.length c1_0,.int .i64 a1_1,.int .i64 a1_2]) (t:=61) ?hr ?_;(case hd=>rfl);(case hg=>rfl);(case hr=>first|(go_simp;done)|(go_simp;rfl));intro gb116 hg w23 hbox hb;have n0_:=Aside0.mk (bM BK115.out hb);have n1_:=Aside0.mk (below_step (bS GE115.out) hb);have n2_:=Aside0.mk (hbox);have n3_:=Aside0.mk ((by rw[hg];exact(below_size (bS GE115.out)):w.heap.size≤gb116));have n4_:=Aside0.mk ((by rw[hg];exact(below_size (bS GE115.out)):w.heap.size≤gb116));have n5_:=Aside0.mk ((bN BK115.out hg:gb115≠gb116));have n6_:=Aside0.mk ((bO BK115.out hg:gb116≠gb115));clear BK115 HB;have BK115:=n0_;have HB:=n1_;have BK116:=n2_;have GW116:=n3_;have GE116:=n4_;have NB115_116:=n5_;have NB116_115:=n6_;clear n0_ n1_ n2_ n3_ n4_ n5_ n6_;clear hb hbox hg;have hnb24:=NB115_116.out;have hnc24:=NB116_115.out;obtain⟨hcz25_0,hcz25_1,hcz25_2⟩:=cC3 BK115.out;obtain⟨hfz25_0,hfz25_1,hfz25_2⟩:=cF3 BK115.out;obtain⟨hcz26_0,hcz26_1,hcz26_2⟩:=cC3 BK116.out;obtain⟨hfz26_0,hfz26_1,hfz26_2⟩:=cF3 BK116.out)|((with_reducible refine gate_callee (f:=46) rfl ?_);refine goesA (some 9) rfl rfl Try.func46 #[.slice A0_0 l0_0.length c0_0,.slice A1_0 l1_0.length c1_0] rfl ?_;(with_reducible refine(laws_eqIntS.calls k _ _ l0_0 _ _ l1_0 false _ ?side1 ?side2 ?side3 ?side4 A3.out).mono ?_);(case side1=>exact bC HR0_0.out);(case side2=>exact HC0_0.out);(case side3=>exact bC HR1_0.out);(case side4=>exact HC1_0.out);rintro e w' ⟨rfl,⟨nd,rfl⟩⟩;refine⟨_,rfl,?_⟩))
  go_ret
  exact⟨bE,bS2 GE115.out GE116.out⟩

/-! ### laws_eqQueueS: function 18 -/
def laws_eqQueueS.l0:Nat→List (S61)→List (S61)→Int→Option (Bool)
 | 0,_,_,_=>none
 | k+1,x0,x1,x5=>if x5 < (x0.length:Int) then (if 0≤x5 then (if x5 < (x1.length:Int) then ((laws_eqQueue.f k ((rd_T61 x0 x5).f0) ((rd_T61 x0 x5).f1) ((rd_T61 x0 x5).f2) ((rd_T61 x1 x5).f0) ((rd_T61 x1 x5).f1) ((rd_T61 x1 x5).f2)).bind fun t120=>(if t120=true then (laws_eqQueueS.l0 k x0 x1 (wrap64 (x5+1))) else (some false))) else (none)) else (none)) else (some true)
def laws_eqQueueS.f (k:Nat) (l0:List (S61)) (l1:List (S61)):Option (Bool):=if (l0.length:Int)=(l1.length:Int) then (laws_eqQueueS.l0 k l0 l1 0) else (some false)
theorem laws_eqQueueS.mono_l : ∀ k,(∀ y0 y1 y2,LeO (laws_eqQueueS.l0 k y0 y1 y2) (laws_eqQueueS.l0 (k+1) y0 y1 y2))
 | 0=>fun _ _ _ r h=>by simp[laws_eqQueueS.l0] at h
 | k+1=>by
  have ih0:=laws_eqQueueS.mono_l k
  ·intro y0 y1 y2
   unfold laws_eqQueueS.l0
   repeat' first
   | (with_reducible exact ih0 _ _ _)
   | (with_reducible exact laws_eqQueue.mono _ _ _ _ _ _ _)
   | (with_reducible exact LeO.refl _)
   | (with_reducible exact LeO.none _)
   | (with_reducible refine LeO.ite ?_ ?_)
   | (with_reducible refine LeO.bind ?_ (fun _ => ?_))
   | exact ih0 _ _ _
   | exact laws_eqQueue.mono _ _ _ _ _ _ _
   | exact LeO.none _
   | refine LeO.ite ?_ ?_
   | refine LeO.bind ?_ (fun _ => ?_)
theorem laws_eqQueueS.mono : ∀ a0 a1 k,LeO (laws_eqQueueS.f k a0 a1) (laws_eqQueueS.f (k+1) a0 a1):=by
 intro a0 a1 k
 have ih0:=laws_eqQueueS.mono_l k
 unfold laws_eqQueueS.f
 repeat' first
  | (with_reducible exact ih0 _ _ _)
  | (with_reducible exact laws_eqQueue.mono _ _ _ _ _ _ _)
  | (with_reducible exact LeO.refl _)
  | (with_reducible exact LeO.none _)
  | (with_reducible refine LeO.ite ?_ ?_)
  | (with_reducible refine LeO.bind ?_ (fun _ => ?_))
  | exact ih0 _ _ _
  | exact laws_eqQueue.mono _ _ _ _ _ _ _
  | exact LeO.none _
  | refine LeO.ite ?_ ?_
  | refine LeO.bind ?_ (fun _ => ?_)
def laws_eqQueueS.T6:Bool × List (List Nat × List Nat):=(true,[([],[]),([],[]),([0,1],[0,1]),([2],[2]),([],[]),([],[]),([4,5],[4,5]),([6],[6]),([3,7],[3,7]),([8],[8])])
def laws_eqQueueS.B6:List Nat:=[0,0,3,7,0,0,48,112,255,511]
theorem laws_eqQueueS.tab6:rtab .any (opsOf Try.f18 6)=laws_eqQueueS.T6:=by kernel_rfl
theorem laws_eqQueueS.bits6:waitsOk laws_eqQueueS.T6.2 laws_eqQueueS.B6=true:=by kernel_rfl
set_option maxHeartbeats 8000000 in
set_option maxRecDepth 100000 in
theorem laws_eqQueueS.calls (k:Nat) (A0:Option Addr) (c0:Nat) (l0:List (S61)) (A1:Option Addr) (c1:Nat) (l1:List (S61)) (r:Bool) (w:World) (hr0:Kd.C k61 w A0 l0.length l0) (hc0:l0.length≤c0) (hr1:Kd.C k61 w A1 l1.length l1) (hc1:l1.length≤c1) (h:laws_eqQueueS.f k l0 l1=some r) :
  Calls Try.prog 18 #[.slice A0 l0.length c0,.slice A1 l1.length c1] w fun e w'=>e=.returned (.bool r)∧Below w.heap.size w w':=by
 have hu61:=Try.underlying61
 have HR0:=Aside0.mk hr0
 have HC0:=Aside0.mk hc0
 clear hr0 hc0
 have HR1:=Aside0.mk hr1
 have HC1:=Aside0.mk hc1
 clear hr1 hc1
 have HB:=Aside0.mk (Below.refl w.heap.size w)
 have H:(if (l0.length:Int)=(l1.length:Int) then (laws_eqQueueS.l0 k l0 l1 0) else (some false))=some r:=h
 clear h
 by_cases c3:(l0.length:Int)=(l1.length:Int)
 ·rw[if_pos c3] at H
  have c3b0:((l0.length:Int) == (l1.length:Int))=true:=beq_iff_eq.mpr c3
  have c3b1:((l0.length:Int) != (l1.length:Int))=false:=bne_eq_false_iff_eq.mpr c3
  have c3b2:(l0.length == l1.length)=true:=by first|simpa using c3|(simp at c3 ⊢;omega)
  clear c3
  have H':=Aside0.mk H
  clear H
  go_enter Try.func18,Try.ntmps18
  go_wp2
  go_loopg [5] k (fun kq v5 w' => ∃ (x5_1:Int),v5=.int .i64 x5_1∧Aside0 (laws_eqQueueS.l0 kq l0 l1 x5_1=some r)∧Aside0 (kq≤k)∧Aside0 (Below w.heap.size w w'))
  case atStart=>exact⟨(0),(bR),H',⟨Nat.le_refl _⟩,⟨by repeat (first|(with_reducible first|exact HB.out|apply below_alloc|apply pw_below_drewN|apply below_drew1)|exact HB.out)⟩⟩
  case round =>
   clear H'
   try clear c1
   try clear p2
   try clear c3
   try clear c3b0
   try clear c3b1
   try clear c3b2
   obtain⟨x5_1,rfl,HA,HK1,HB⟩:=hrel
   cases gk with
   | zero=>exact absurd HA.out (by simp[laws_eqQueueS.l0])
   | succ k1 =>
    have H:=HA.out
    clear HA
    simp only[laws_eqQueueS.l0] at H
    by_cases c4:x5_1 < (l0.length:Int)
    ·rw[if_pos c4] at H
     have c4b0:decide (x5_1 < (l0.length:Int))=true:=decide_eq_true c4
     clear c4
     by_cases c5:0≤x5_1
     ·rw[if_pos c5] at H
      have c5b0:decide (0≤x5_1)=true:=decide_eq_true c5
      clear c5
      by_cases c6:x5_1 < (l1.length:Int)
      ·rw[if_pos c6] at H
       have c6b0:decide (x5_1 < (l1.length:Int))=true:=decide_eq_true c6
       clear c6
       replace H:=Option.bind_eq_some_iff.mp H
       obtain⟨t120,A70,H⟩:=H
       have A7:=Aside0.mk A70
       clear A70
       by_cases c8:t120=true
       ·subst c8
        have H1:(laws_eqQueueS.l0 k1 l0 l1 (wrap64 (x5_1+1)))=some r:=by rw[if_pos rfl] at H;exact H
        clear H
        have H:=H1
        clear H1
        have H':=Aside0.mk H
        clear H
        try go_wp2
        (try (rw[drewN_self wr];generalize hq_:World.drewN wr _=wr;have n0_:=Aside0.mk (below_at hq_ HB.out);clear hq_ HB;have HB:=n0_;clear n0_))
        have n0_:=Aside0.mk (below_drew1 HB.out)
        clear HB
        have HB:=n0_
        clear n0_
        have p118:0≤(x5_1:Int):=of_decide_eq_true (bD)
        have q118:x5_1 < (l0.length:Int):=of_decide_eq_true (bD)
        obtain⟨ad118,A118_0,c118_0,e118,hx118_0,hx118_1,hx118_2,hl118_0,hi118_0⟩:=at_T61 HR0.out x5_1 p118 q118
        have hw118_2:=hx118_2
        have hw118_1:=hx118_1
        have hw118_0:=hx118_0
        cases e118
        replace hx118_0:=(HB.out.cell (World.block_lt_of_cell? w _ hx118_0)).trans hx118_0
        replace hx118_1:=(HB.out.cell (World.block_lt_of_cell? w _ hx118_1)).trans hx118_1
        replace hx118_2:=(HB.out.cell (World.block_lt_of_cell? w _ hx118_2)).trans hx118_2
        have HR118_0:=Aside0.mk hi118_0
        have HC118_0:=Aside0.mk hl118_0
        clear hi118_0 hl118_0
        replace p118:=eq_true p118
        replace q118:=eq_true q118
        have p119:0≤(x5_1:Int):=of_decide_eq_true (bD)
        have q119:x5_1 < (l1.length:Int):=of_decide_eq_true (bD)
        obtain⟨ad119,A119_0,c119_0,e119,hx119_0,hx119_1,hx119_2,hl119_0,hi119_0⟩:=at_T61 HR1.out x5_1 p119 q119
        have hw119_2:=hx119_2
        have hw119_1:=hx119_1
        have hw119_0:=hx119_0
        cases e119
        replace hx119_0:=(HB.out.cell (World.block_lt_of_cell? w _ hx119_0)).trans hx119_0
        replace hx119_1:=(HB.out.cell (World.block_lt_of_cell? w _ hx119_1)).trans hx119_1
        replace hx119_2:=(HB.out.cell (World.block_lt_of_cell? w _ hx119_2)).trans hx119_2
        have HR119_0:=Aside0.mk hi119_0
        have HC119_0:=Aside0.mk hl119_0
        clear hi119_0 hl119_0
        replace p119:=eq_true p119
        replace q119:=eq_true q119
        refine start_ (n:=10) (S:=fun w'=>w'.cell? (ad118.add ((x5_1).toNat * 3))=some (.slice A118_0 ((rd_T61 l0 x5_1).f0).length c118_0)∧w'.cell? ⟨(ad118.add ((x5_1).toNat * 3)).block,(ad118.add ((x5_1).toNat * 3)).off+1,none⟩=some (.int .i64 ((rd_T61 l0 x5_1).f1))∧w'.cell? ⟨(ad118.add ((x5_1).toNat * 3)).block,(ad118.add ((x5_1).toNat * 3)).off+2,none⟩=some (.int .i64 ((rd_T61 l0 x5_1).f2))∧w'.cell? (ad119.add ((x5_1).toNat * 3))=some (.slice A119_0 ((rd_T61 l1 x5_1).f0).length c119_0)∧w'.cell? ⟨(ad119.add ((x5_1).toNat * 3)).block,(ad119.add ((x5_1).toNat * 3)).off+1,none⟩=some (.int .i64 ((rd_T61 l1 x5_1).f1))∧w'.cell? ⟨(ad119.add ((x5_1).toNat * 3)).block,(ad119.add ((x5_1).toNat * 3)).off+2,none⟩=some (.int .i64 ((rd_T61 l1 x5_1).f2))) (ds:=[]) #[false,false,false,false,false,false,false,false,false,false] (by kernel_rfl) rfl rfl ⟨((HB.out.cell (World.block_lt_of_cell? w _ hw118_0)).trans hw118_0),((HB.out.cell (World.block_lt_of_cell? w _ hw118_1)).trans hw118_1),((HB.out.cell (World.block_lt_of_cell? w _ hw118_2)).trans hw118_2),((HB.out.cell (World.block_lt_of_cell? w _ hw119_0)).trans hw119_0),((HB.out.cell (World.block_lt_of_cell? w _ hw119_1)).trans hw119_1),((HB.out.cell (World.block_lt_of_cell? w _ hw119_2)).trans hw119_2)⟩ (fun hHeld => ?_);refine with_tabW laws_eqQueueS.tab6 laws_eqQueueS.bits6 (fun HT_ HW_ => ?_)
        generalize wr.drew=w9 at HB HR118_0 HR119_0 hx118_0 hx118_1 hx118_2 hx119_0 hx119_1 hx119_2 hHeld ⊢
        refine pure_ (i:=0) (N:=some 17) (v:=?_) (a':=?_) #[true,false,false,false,false,false,false,false,false,false] rfl rfl (any_of HT_.out (by kernel_rfl)) (fun _ _ _ h=>h) (Or.inl ⟨by rfl,?_⟩) ?_ ?_
        rotate_left
        ·intro w'
         go_simp
         with_reducible rfl
        rotate_left
        ·simp only[Act.put,List.setIfInBounds_toArray,List.set_cons_zero,List.set_cons_succ,i64_w,i32_w]
         rfl
        refine pure_ (i:=1) (N:=some 18) (v:=?_) (a':=?_) #[true,true,false,false,false,false,false,false,false,false] rfl rfl (any_of HT_.out (by kernel_rfl)) (fun _ _ _ h=>h) (Or.inl ⟨by rfl,?_⟩) ?_ ?_
        rotate_left
        ·intro w'
         go_simp
         with_reducible rfl
        rotate_left
        ·simp only[Act.put,List.setIfInBounds_toArray,List.set_cons_zero,List.set_cons_succ,i64_w,i32_w]
         rfl
        refine pure_ (i:=2) (N:=some 19) (v:=?_) (a':=?_) #[true,true,true,false,false,false,false,false,false,false] rfl rfl (any_of HT_.out (by kernel_rfl)) (fun _ _ _ h=>h) (Or.inl ⟨by rfl,?_⟩) ?_ ?_
        rotate_left
        ·intro w'
         go_simp
         with_reducible rfl
        rotate_left
        ·simp only[Act.put,List.setIfInBounds_toArray,List.set_cons_zero,List.set_cons_succ,i64_w,i32_w]
         rfl
        refine pure_ (i:=4) (N:=some 21) (v:=?_) (a':=?_) #[true,true,true,false,true,false,false,false,false,false] rfl rfl (any_of HT_.out (by kernel_rfl)) (fun _ _ _ h=>h) (Or.inl ⟨by rfl,?_⟩) ?_ ?_
        rotate_left
        ·intro w'
         go_simp
         with_reducible rfl
        rotate_left
        ·simp only[Act.put,List.setIfInBounds_toArray,List.set_cons_zero,List.set_cons_succ,i64_w,i32_w]
         rfl
        refine pure_ (i:=5) (N:=some 22) (v:=?_) (a':=?_) #[true,true,true,false,true,true,false,false,false,false] rfl rfl (any_of HT_.out (by kernel_rfl)) (fun _ _ _ h=>h) (Or.inl ⟨by rfl,?_⟩) ?_ ?_
        rotate_left
        ·intro w'
         go_simp
         with_reducible rfl
        rotate_left
        ·simp only[Act.put,List.setIfInBounds_toArray,List.set_cons_zero,List.set_cons_succ,i64_w,i32_w]
         rfl
        refine pure_ (i:=6) (N:=some 23) (v:=?_) (a':=?_) #[true,true,true,false,true,true,true,false,false,false] rfl rfl (any_of HT_.out (by kernel_rfl)) (fun _ _ _ h=>h) (Or.inl ⟨by rfl,?_⟩) ?_ ?_
        rotate_left
        ·intro w'
         go_simp
         with_reducible rfl
        rotate_left
        ·simp only[Act.put,List.setIfInBounds_toArray,List.set_cons_zero,List.set_cons_succ,i64_w,i32_w]
         rfl
        refine take_ (i:=3) (N:=some 20) (v:=?_) (a':=?_) #[true,true,true,true,true,true,true,false,false,false] rfl rfl (take_ofW HT_.out HW_.out (by kernel_rfl)) (fun _ _ _ h=>h) (Or.inl ⟨by rfl,?_⟩) hHeld ?_ ?_
        rotate_left
        ·rintro w' ⟨s0,s1,s2,s3,s4,s5⟩
         go_simp
         with_reducible rfl
        rotate_left
        ·simp only[Act.put,List.setIfInBounds_toArray,List.set_cons_zero,List.set_cons_succ,i64_w,i32_w]
         rfl
        refine take_ (i:=7) (N:=some 24) (v:=?_) (a':=?_) #[true,true,true,true,true,true,true,true,false,false] rfl rfl (take_ofW HT_.out HW_.out (by kernel_rfl)) (fun _ _ _ h=>h) (Or.inl ⟨by rfl,?_⟩) hHeld ?_ ?_
        rotate_left
        ·rintro w' ⟨s0,s1,s2,s3,s4,s5⟩
         go_simp
         with_reducible rfl
        rotate_left
        ·simp only[Act.put,List.setIfInBounds_toArray,List.set_cons_zero,List.set_cons_succ,i64_w,i32_w]
         rfl
        refine one_ (i:=8) (N:=some 25) #[true,true,true,true,true,true,true,true,true,false] rfl rfl (one_of HT_.out (by kernel_rfl)) (by decide) (fun K hK => ?_)
        refine goes_ Try.func34 (by kernel_rfl) rfl #[.agg #[.slice A118_0 ((rd_T61 l0 x5_1).f0).length c118_0,.int .i64 ((rd_T61 l0 x5_1).f1),.int .i64 ((rd_T61 l0 x5_1).f2)],.agg #[.slice A119_0 ((rd_T61 l1 x5_1).f0).length c119_0,.int .i64 ((rd_T61 l1 x5_1).f1),.int .i64 ((rd_T61 l1 x5_1).f2)]] (by rfl) rfl rfl (by(try simp only[List.map_toArray,List.map_cons,List.map_nil]);first|done|rfl|(simp only[List.length_drop,List.length_take];rfl)) ?_
        with_reducible refine(laws_eqQueue.calls k1 _ _ ((rd_T61 l0 x5_1).f0) ((rd_T61 l0 x5_1).f1) ((rd_T61 l0 x5_1).f2) _ _ ((rd_T61 l1 x5_1).f0) ((rd_T61 l1 x5_1).f1) ((rd_T61 l1 x5_1).f2) true _ ?side1 ?side2 ?side3 ?side4 A7.out).mono ?_
        (case side1=>exact bC HR118_0.out)
        (case side2=>exact HC118_0.out)
        (case side3=>exact bC HR119_0.out)
        (case side4=>exact HC119_0.out)
        rintro e w10 ⟨rfl,hb⟩
        refine⟨_,rfl,?_⟩
        have n0_:=Aside0.mk (below_step (bB) hb)
        clear HB
        have HB:=n0_
        clear n0_
        (try clear hb)
        (try clear hb2)
        (try clear hk)
        (try clear hi)
        refine hK.out _ _ ⟨((HB.out.cell (World.block_lt_of_cell? w _ hw118_0)).trans hw118_0),((HB.out.cell (World.block_lt_of_cell? w _ hw118_1)).trans hw118_1),((HB.out.cell (World.block_lt_of_cell? w _ hw118_2)).trans hw118_2),((HB.out.cell (World.block_lt_of_cell? w _ hw119_0)).trans hw119_0),((HB.out.cell (World.block_lt_of_cell? w _ hw119_1)).trans hw119_1),((HB.out.cell (World.block_lt_of_cell? w _ hw119_2)).trans hw119_2)⟩ (fun hHeld => ?_)
        clear hK K
        refine norm_ (a':=?_) ?_ ?_
        rotate_left
        ·show Act.put _ (some 25) _=_
         simp only[Act.put,List.setIfInBounds_toArray,List.set_cons_zero,List.set_cons_succ,i64_w,i32_w]
         rfl
        refine pure_ (i:=9) (N:=some 26) (v:=?_) (a':=?_) #[true,true,true,true,true,true,true,true,true,true] rfl rfl (any_of HT_.out (by kernel_rfl)) (fun _ _ _ h=>h) (Or.inl ⟨by rfl,?_⟩) ?_ ?_
        rotate_left
        ·intro w'
         go_simp
         with_reducible rfl
        rotate_left
        ·simp only[Act.put,List.setIfInBounds_toArray,List.set_cons_zero,List.set_cons_succ,i64_w,i32_w]
         rfl
        refine done_ (done_of HT_.out (by kernel_rfl)) ?_
        try go_wp2
        go_roundg k1
        case measure=>have:=HK1.out;omega
        case rel=>exact⟨(wrap64 (x5_1+1)),(bR),H',⟨by have:=HK1.out;omega⟩,⟨by repeat (first|(with_reducible first|exact HB.out|apply below_alloc|apply pw_below_drewN|apply below_drew1)|exact HB.out)⟩⟩
       ·replace c8:=Bool.eq_false_iff.mpr c8
        subst c8
        have H1:(some false)=some r:=by rw[if_neg (show ¬ (false=true) by decide)] at H;exact H
        clear H
        have H:=H1
        clear H1
        obtain rfl:=Option.some.inj H
        try go_wp2
        (try (rw[drewN_self wr];generalize hq_:World.drewN wr _=wr;have n0_:=Aside0.mk (below_at hq_ HB.out);clear hq_ HB;have HB:=n0_;clear n0_))
        have n0_:=Aside0.mk (below_drew1 HB.out)
        clear HB
        have HB:=n0_
        clear n0_
        have p118:0≤(x5_1:Int):=of_decide_eq_true (bD)
        have q118:x5_1 < (l0.length:Int):=of_decide_eq_true (bD)
        obtain⟨ad118,A118_0,c118_0,e118,hx118_0,hx118_1,hx118_2,hl118_0,hi118_0⟩:=at_T61 HR0.out x5_1 p118 q118
        have hw118_2:=hx118_2
        have hw118_1:=hx118_1
        have hw118_0:=hx118_0
        cases e118
        replace hx118_0:=(HB.out.cell (World.block_lt_of_cell? w _ hx118_0)).trans hx118_0
        replace hx118_1:=(HB.out.cell (World.block_lt_of_cell? w _ hx118_1)).trans hx118_1
        replace hx118_2:=(HB.out.cell (World.block_lt_of_cell? w _ hx118_2)).trans hx118_2
        have HR118_0:=Aside0.mk hi118_0
        have HC118_0:=Aside0.mk hl118_0
        clear hi118_0 hl118_0
        replace p118:=eq_true p118
        replace q118:=eq_true q118
        have p119:0≤(x5_1:Int):=of_decide_eq_true (bD)
        have q119:x5_1 < (l1.length:Int):=of_decide_eq_true (bD)
        obtain⟨ad119,A119_0,c119_0,e119,hx119_0,hx119_1,hx119_2,hl119_0,hi119_0⟩:=at_T61 HR1.out x5_1 p119 q119
        have hw119_2:=hx119_2
        have hw119_1:=hx119_1
        have hw119_0:=hx119_0
        cases e119
        replace hx119_0:=(HB.out.cell (World.block_lt_of_cell? w _ hx119_0)).trans hx119_0
        replace hx119_1:=(HB.out.cell (World.block_lt_of_cell? w _ hx119_1)).trans hx119_1
        replace hx119_2:=(HB.out.cell (World.block_lt_of_cell? w _ hx119_2)).trans hx119_2
        have HR119_0:=Aside0.mk hi119_0
        have HC119_0:=Aside0.mk hl119_0
        clear hi119_0 hl119_0
        replace p119:=eq_true p119
        replace q119:=eq_true q119
        refine start_ (n:=10) (S:=fun w'=>w'.cell? (ad118.add ((x5_1).toNat * 3))=some (.slice A118_0 ((rd_T61 l0 x5_1).f0).length c118_0)∧w'.cell? ⟨(ad118.add ((x5_1).toNat * 3)).block,(ad118.add ((x5_1).toNat * 3)).off+1,none⟩=some (.int .i64 ((rd_T61 l0 x5_1).f1))∧w'.cell? ⟨(ad118.add ((x5_1).toNat * 3)).block,(ad118.add ((x5_1).toNat * 3)).off+2,none⟩=some (.int .i64 ((rd_T61 l0 x5_1).f2))∧w'.cell? (ad119.add ((x5_1).toNat * 3))=some (.slice A119_0 ((rd_T61 l1 x5_1).f0).length c119_0)∧w'.cell? ⟨(ad119.add ((x5_1).toNat * 3)).block,(ad119.add ((x5_1).toNat * 3)).off+1,none⟩=some (.int .i64 ((rd_T61 l1 x5_1).f1))∧w'.cell? ⟨(ad119.add ((x5_1).toNat * 3)).block,(ad119.add ((x5_1).toNat * 3)).off+2,none⟩=some (.int .i64 ((rd_T61 l1 x5_1).f2))) (ds:=[]) #[false,false,false,false,false,false,false,false,false,false] (by kernel_rfl) rfl rfl ⟨((HB.out.cell (World.block_lt_of_cell? w _ hw118_0)).trans hw118_0),((HB.out.cell (World.block_lt_of_cell? w _ hw118_1)).trans hw118_1),((HB.out.cell (World.block_lt_of_cell? w _ hw118_2)).trans hw118_2),((HB.out.cell (World.block_lt_of_cell? w _ hw119_0)).trans hw119_0),((HB.out.cell (World.block_lt_of_cell? w _ hw119_1)).trans hw119_1),((HB.out.cell (World.block_lt_of_cell? w _ hw119_2)).trans hw119_2)⟩ (fun hHeld => ?_);refine with_tabW laws_eqQueueS.tab6 laws_eqQueueS.bits6 (fun HT_ HW_ => ?_)
        generalize wr.drew=w11 at HB HR118_0 HR119_0 hx118_0 hx118_1 hx118_2 hx119_0 hx119_1 hx119_2 hHeld ⊢
        refine pure_ (i:=0) (N:=some 17) (v:=?_) (a':=?_) #[true,false,false,false,false,false,false,false,false,false] rfl rfl (any_of HT_.out (by kernel_rfl)) (fun _ _ _ h=>h) (Or.inl ⟨by rfl,?_⟩) ?_ ?_
        rotate_left
        ·intro w'
         go_simp
         with_reducible rfl
        rotate_left
        ·simp only[Act.put,List.setIfInBounds_toArray,List.set_cons_zero,List.set_cons_succ,i64_w,i32_w]
         rfl
        refine pure_ (i:=1) (N:=some 18) (v:=?_) (a':=?_) #[true,true,false,false,false,false,false,false,false,false] rfl rfl (any_of HT_.out (by kernel_rfl)) (fun _ _ _ h=>h) (Or.inl ⟨by rfl,?_⟩) ?_ ?_
        rotate_left
        ·intro w'
         go_simp
         with_reducible rfl
        rotate_left
        ·simp only[Act.put,List.setIfInBounds_toArray,List.set_cons_zero,List.set_cons_succ,i64_w,i32_w]
         rfl
        refine pure_ (i:=2) (N:=some 19) (v:=?_) (a':=?_) #[true,true,true,false,false,false,false,false,false,false] rfl rfl (any_of HT_.out (by kernel_rfl)) (fun _ _ _ h=>h) (Or.inl ⟨by rfl,?_⟩) ?_ ?_
        rotate_left
        ·intro w'
         go_simp
         with_reducible rfl
        rotate_left
        ·simp only[Act.put,List.setIfInBounds_toArray,List.set_cons_zero,List.set_cons_succ,i64_w,i32_w]
         rfl
        refine pure_ (i:=4) (N:=some 21) (v:=?_) (a':=?_) #[true,true,true,false,true,false,false,false,false,false] rfl rfl (any_of HT_.out (by kernel_rfl)) (fun _ _ _ h=>h) (Or.inl ⟨by rfl,?_⟩) ?_ ?_
        rotate_left
        ·intro w'
         go_simp
         with_reducible rfl
        rotate_left
        ·simp only[Act.put,List.setIfInBounds_toArray,List.set_cons_zero,List.set_cons_succ,i64_w,i32_w]
         rfl
        refine pure_ (i:=5) (N:=some 22) (v:=?_) (a':=?_) #[true,true,true,false,true,true,false,false,false,false] rfl rfl (any_of HT_.out (by kernel_rfl)) (fun _ _ _ h=>h) (Or.inl ⟨by rfl,?_⟩) ?_ ?_
        rotate_left
        ·intro w'
         go_simp
         with_reducible rfl
        rotate_left
        ·simp only[Act.put,List.setIfInBounds_toArray,List.set_cons_zero,List.set_cons_succ,i64_w,i32_w]
         rfl
        refine pure_ (i:=6) (N:=some 23) (v:=?_) (a':=?_) #[true,true,true,false,true,true,true,false,false,false] rfl rfl (any_of HT_.out (by kernel_rfl)) (fun _ _ _ h=>h) (Or.inl ⟨by rfl,?_⟩) ?_ ?_
        rotate_left
        ·intro w'
         go_simp
         with_reducible rfl
        rotate_left
        ·simp only[Act.put,List.setIfInBounds_toArray,List.set_cons_zero,List.set_cons_succ,i64_w,i32_w]
         rfl
        refine take_ (i:=3) (N:=some 20) (v:=?_) (a':=?_) #[true,true,true,true,true,true,true,false,false,false] rfl rfl (take_ofW HT_.out HW_.out (by kernel_rfl)) (fun _ _ _ h=>h) (Or.inl ⟨by rfl,?_⟩) hHeld ?_ ?_
        rotate_left
        ·rintro w' ⟨s0,s1,s2,s3,s4,s5⟩
         go_simp
         with_reducible rfl
        rotate_left
        ·simp only[Act.put,List.setIfInBounds_toArray,List.set_cons_zero,List.set_cons_succ,i64_w,i32_w]
         rfl
        refine take_ (i:=7) (N:=some 24) (v:=?_) (a':=?_) #[true,true,true,true,true,true,true,true,false,false] rfl rfl (take_ofW HT_.out HW_.out (by kernel_rfl)) (fun _ _ _ h=>h) (Or.inl ⟨by rfl,?_⟩) hHeld ?_ ?_
        rotate_left
        ·rintro w' ⟨s0,s1,s2,s3,s4,s5⟩
         go_simp
         with_reducible rfl
        rotate_left
        ·simp only[Act.put,List.setIfInBounds_toArray,List.set_cons_zero,List.set_cons_succ,i64_w,i32_w]
         rfl
        refine one_ (i:=8) (N:=some 25) #[true,true,true,true,true,true,true,true,true,false] rfl rfl (one_of HT_.out (by kernel_rfl)) (by decide) (fun K hK => ?_)
        refine goes_ Try.func34 (by kernel_rfl) rfl #[.agg #[.slice A118_0 ((rd_T61 l0 x5_1).f0).length c118_0,.int .i64 ((rd_T61 l0 x5_1).f1),.int .i64 ((rd_T61 l0 x5_1).f2)],.agg #[.slice A119_0 ((rd_T61 l1 x5_1).f0).length c119_0,.int .i64 ((rd_T61 l1 x5_1).f1),.int .i64 ((rd_T61 l1 x5_1).f2)]] (by rfl) rfl rfl (by(try simp only[List.map_toArray,List.map_cons,List.map_nil]);first|done|rfl|(simp only[List.length_drop,List.length_take];rfl)) ?_
        with_reducible refine(laws_eqQueue.calls k1 _ _ ((rd_T61 l0 x5_1).f0) ((rd_T61 l0 x5_1).f1) ((rd_T61 l0 x5_1).f2) _ _ ((rd_T61 l1 x5_1).f0) ((rd_T61 l1 x5_1).f1) ((rd_T61 l1 x5_1).f2) false _ ?side1 ?side2 ?side3 ?side4 A7.out).mono ?_
        (case side1=>exact bC HR118_0.out)
        (case side2=>exact HC118_0.out)
        (case side3=>exact bC HR119_0.out)
        (case side4=>exact HC119_0.out)
        rintro e w12 ⟨rfl,hb⟩
        refine⟨_,rfl,?_⟩
        have n0_:=Aside0.mk (below_step (bB) hb)
        clear HB
        have HB:=n0_
        clear n0_
        (try clear hb)
        (try clear hb2)
        (try clear hk)
        (try clear hi)
        refine hK.out _ _ ⟨((HB.out.cell (World.block_lt_of_cell? w _ hw118_0)).trans hw118_0),((HB.out.cell (World.block_lt_of_cell? w _ hw118_1)).trans hw118_1),((HB.out.cell (World.block_lt_of_cell? w _ hw118_2)).trans hw118_2),((HB.out.cell (World.block_lt_of_cell? w _ hw119_0)).trans hw119_0),((HB.out.cell (World.block_lt_of_cell? w _ hw119_1)).trans hw119_1),((HB.out.cell (World.block_lt_of_cell? w _ hw119_2)).trans hw119_2)⟩ (fun hHeld => ?_)
        clear hK K
        refine norm_ (a':=?_) ?_ ?_
        rotate_left
        ·show Act.put _ (some 25) _=_
         simp only[Act.put,List.setIfInBounds_toArray,List.set_cons_zero,List.set_cons_succ,i64_w,i32_w]
         rfl
        refine pure_ (i:=9) (N:=some 26) (v:=?_) (a':=?_) #[true,true,true,true,true,true,true,true,true,true] rfl rfl (any_of HT_.out (by kernel_rfl)) (fun _ _ _ h=>h) (Or.inl ⟨by rfl,?_⟩) ?_ ?_
        rotate_left
        ·intro w'
         go_simp
         with_reducible rfl
        rotate_left
        ·simp only[Act.put,List.setIfInBounds_toArray,List.set_cons_zero,List.set_cons_succ,i64_w,i32_w]
         rfl
        refine done_ (done_of HT_.out (by kernel_rfl)) ?_
        try go_wp2
        go_ret
        exact⟨bE,bB⟩
      ·rw[if_neg c6] at H
       exact absurd H (by simp)
     ·rw[if_neg c5] at H
      exact absurd H (by simp)
    ·rw[if_neg c4] at H
     have c4b0:decide (x5_1 < (l0.length:Int))=false:=decide_eq_false c4
     clear c4
     obtain rfl:=Option.some.inj H
     go_wp2
     go_ret
     exact⟨bE,bB⟩
 ·rw[if_neg c3] at H
  have c3b0:((l0.length:Int) == (l1.length:Int))=false:=beq_eq_false_iff_ne.mpr c3
  have c3b1:((l0.length:Int) != (l1.length:Int))=true:=bne_iff_ne.mpr c3
  have c3b2:(l0.length == l1.length)=false:=by first|simpa using c3|(simp at c3 ⊢;omega)
  obtain rfl:=Option.some.inj H
  go_enter Try.func18,Try.ntmps18
  go_wp2
  go_ret
  exact⟨bE,bB⟩

end Go.Proofs.Ytanegdfncfkinaa.XFnExactNewTurns
