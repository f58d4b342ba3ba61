-- Written by this session's own program (wip/xprint.py) out of the translation; Lean checks it.
import Derived.Test.YtanegdfncfkinaaXFnFloodx0
import Derived.Test.YtanegdfncfkinaaXFnFloodx1
namespace Go.Proofs.Ytanegdfncfkinaa.XFnFlood
open Go.RowKit Go.Proofs.YtanegdfncfkinaaW.PrintWords Go.Proofs.YtanegdfncfkinaaW.PrintLast Go.Proofs.YtanegdfncfkinaaW.PrintMore
attribute [local go_sem] max2_int min2_int max_two min_two max_three min_three max_four min_four   -- for this text's walks alone
set_option linter.unusedVariables false
set_option linter.unusedSimpArgs false

/-! ### spec_l1Cur_whenTo: function 23 -/
def spec_l1Cur_whenTo.f (s0_0:List Int) (s0_1:Int) (s0_2:Int):Option (Int × Int × Int):=(spec_l1Cur_one.f s0_0 s0_1 s0_2 20).bind fun bt156=>(if bt156.1=true then ((spec_l1Cur_among.f s0_0 bt156.2.1 bt156.2.2 (([(-1),1000,1001]:List Int))).bind fun bt162=>(some (bt162.1,bt162.2.1,bt162.2.2))) else ((spec_l1Cur_pick.f s0_0 bt156.2.1 bt156.2.2 50).bind fun bt165=>(some (bt165.1,bt165.2.1,bt165.2.2))))
set_option maxHeartbeats 8000000 in
set_option maxRecDepth 100000 in
theorem spec_l1Cur_whenTo.calls (g:Nat) (s0_0:List Int) (s0_1:Int) (s0_2:Int) (r1:Int) (r2:Int) (r3:Int) (w0 w:World) (hI:IsS47 w0 w g s0_0 s0_1 s0_2) (hB:Below w0.heap.size w0 w) (h:spec_l1Cur_whenTo.f s0_0 s0_1 s0_2=some (r1,r2,r3)) :
  Calls Try.prog 23 #[.pointer (some ⟨g,0,none⟩)] w fun e w'=>e=.returned (.int .i64 r1)∧IsS47 w0 w' g s0_0 r2 r3∧Below w0.heap.size w0 w'∧KeepBut w w' g none:=by
 have HI0:=Aside0.mk hI
 have HK:=Aside0.mk (KeepBut.refl w g none)
 have HL:=Aside0.mk hB.size
 clear hI
 have HW0:=Aside0.mk hB.size
 have HB:=Aside0.mk hB
 clear hB
 have H:((spec_l1Cur_one.f s0_0 s0_1 s0_2 20).bind fun bt156=>(if bt156.1=true then ((spec_l1Cur_among.f s0_0 bt156.2.1 bt156.2.2 (([(-1),1000,1001]:List Int))).bind fun bt162=>(some (bt162.1,bt162.2.1,bt162.2.2))) else ((spec_l1Cur_pick.f s0_0 bt156.2.1 bt156.2.2 50).bind fun bt165=>(some (bt165.1,bt165.2.1,bt165.2.2)))))=some (r1,r2,r3):=h
 clear h
 replace H:=Option.bind_eq_some_iff.mp H
 obtain⟨⟨t156,t157,t158⟩,A20,H⟩:=H
 replace H:(if t156=true then ((spec_l1Cur_among.f s0_0 t157 t158 (([(-1),1000,1001]:List Int))).bind fun bt162=>(some (bt162.1,bt162.2.1,bt162.2.2))) else ((spec_l1Cur_pick.f s0_0 t157 t158 50).bind fun bt165=>(some (bt165.1,bt165.2.1,bt165.2.2))))=some (r1,r2,r3):=H
 have A2:=Aside0.mk A20
 clear A20
 by_cases c3:t156=true
 ·subst c3
  have H1:((spec_l1Cur_among.f s0_0 t157 t158 (([(-1),1000,1001]:List Int))).bind fun bt162=>(some (bt162.1,bt162.2.1,bt162.2.2)))=some (r1,r2,r3):=by rw[if_pos rfl] at H;exact H
  clear H
  have H:=H1
  clear H1
  obtain⟨y159,hy159⟩ : ∃ y_:List Int,y_=(([(-1),1000,1001]:List Int)):=⟨_,rfl⟩
  replace H:((spec_l1Cur_among.f s0_0 t157 t158 y159).bind fun bt162=>(some (bt162.1,bt162.2.1,bt162.2.2)))=some (r1,r2,r3):=by first|(rw[hy159];with_reducible exact H)|(have H2_:=(Option.bind_some _ _).symm.trans H;rw[hy159];with_reducible exact H2_)|(have H2_:=(Option.bind_some _ _).symm.trans H;with_reducible exact H2_)|with_reducible exact H|(rw[hy159];exact H)|exact H
  have Ny159:=Aside0.mk hy159
  clear hy159
  replace H:=Option.bind_eq_some_iff.mp H
  obtain⟨⟨t162,t163,t164⟩,A40,H⟩:=H
  replace H:(some (t162,t163,t164))=some (r1,r2,r3):=H
  have A4:=Aside0.mk A40
  clear A40
  simp only[Option.some.injEq,Prod.mk.injEq] at H
  obtain⟨rfl,rfl,rfl⟩:=H
  go_enter Try.func23,Try.ntmps23
  go_wp2_with (first|((with_reducible refine gate_callee (f:=37) rfl ?_);refine goesA (some 4) rfl rfl Try.func37 #[.pointer (some ⟨g,0,none⟩),.int .i64 20] rfl ?_;(with_reducible refine(spec_l1Cur_one.calls g s0_0 s0_1 s0_2 20 true t157 t158 w0 _ ?side1 ?side2 A2.out).mono ?_);(case side1=>exact b11_);(case side2=>exact b10_);rintro e w5 ⟨rfl,hi,hb,hk⟩;refine⟨_,rfl,?_⟩;have n0_:=Aside0.mk (KeepBut.trans (b0_) hk (.inl rfl));have n1_:=Aside0.mk (hb);have n2_:=Aside0.mk (hi);clear HK HB;(try clear HI0);have HK:=n0_;have HB:=n1_;have HI0:=n2_;clear n0_ n1_ n2_;(try clear hb);(try clear hb2);(try clear hk);(try clear hi))|((with_reducible refine gate_dst (N:=6) rfl ?_);refine Kd.R_lit (Kd.int .i64) _ 3 ?hg (N:=6) ?hd (xs:=([(-1),1000,1001]:List Int)) (inner:=[.int .i64 (-1),.int .i64 1000,.int .i64 1001]) (ok:=fun _=>True) (okp:=fun _=>True) ?hr ?hp (fun _ hk=>hk) trivial (Below.refl _ _) (Nat.le_refl _) (by simp) ?_;(case hd=>rfl);(case hg=>rfl);(case hr=>first|(go_simp;done)|(go_simp;rfl));(case hp=>exact(Reps.one (show Kd.M (Kd.int .i64) _ _ _ (-1) [.int .i64 (-1)] from rfl) (Reps.one (show Kd.M (Kd.int .i64) _ _ _ 1000 [.int .i64 1000] from rfl) (Reps.one (show Kd.M (Kd.int .i64) _ _ _ 1001 [.int .i64 1001] from rfl) (Reps.none _ _)))));intro v160 w6 ho7 hb hg_ hnew_;clear hg_ hnew_;(first|rw[← Ny159.out] at ho7|(simp only[Int.reduceToNat] at ho7;rw[← Ny159.out] at ho7));have n0_:=Aside0.mk (Kd.R_lower ho7 (keep_size (w:=w) (g:=g) (row:=none) (b0_)));have n1_:=Aside0.mk (IsS47.below (b6_) hb);have n2_:=Aside0.mk (KeepBut.trans (b0_) (KeepBut.of_below hb g none) (.inl rfl));have n3_:=Aside0.mk (below_step (b8_) hb);(try clear HI0);clear HK HB;have HO161:=n0_;have HI0:=n1_;have HK:=n2_;have HB:=n3_;clear n0_ n1_ n2_ n3_;clear hb ho7;obtain⟨Ao8,co8,eo8⟩:=Kd.R_slice HO161.out;subst eo8)|((with_reducible refine gate_callee (f:=38) rfl ?_);refine goesA (some 7) rfl rfl Try.func38 #[.pointer (some ⟨g,0,none⟩),.slice Ao8 y159.length co8] rfl ?_;(with_reducible refine(spec_l1Cur_among.calls g s0_0 t157 t158 _ _ y159 t162 t163 t164 w0 _ ?side1 ?side2 ?side3 ?side4 ?side5 A4.out).mono ?_);(case side1=>exact b11_);(case side2=>exact b10_);(case side3=>exact bT HO161.out);(case side4=>exact(Kd.R_reads' HO161.out).2.1);(case side5=>exact far_slice (IsS47.own_ne HI0.out HO161.out (b7_)));rintro e w9 ⟨rfl,hi,hb,hk⟩;refine⟨_,rfl,?_⟩;have n0_:=Aside0.mk (Kd.R_mono (Kd.R_keep (IsS47.apart (show IsS47 w0 _ g s0_0 t157 t158 from by repeat (first|(with_reducible first|exact HI0.out|apply IsS47.alloc|apply IsS47.drewN|apply IsS47.drew|apply IsS47.set_1|apply IsS47.set_2)|exact HI0.out)) (bK HO161.out) (b7_)) hk (fun _ h=>h.2)) (fun _ h=>h.1));have n1_:=Aside0.mk (KeepBut.trans (b0_) hk (.inl rfl));have n2_:=Aside0.mk (hb);have n3_:=Aside0.mk (hi);clear HO161 HK HB;(try clear HI0);have HO161:=n0_;have HK:=n1_;have HB:=n2_;have HI0:=n3_;clear n0_ n1_ n2_ n3_;(try clear hb);(try clear hb2);(try clear hk);(try clear hi)))
  go_ret
  exact⟨bE,b17_,by repeat (first|(with_reducible first|exact HB.out|apply below_alloc|apply pw_below_drewN|apply below_drew1|refine below_set ?_ (IsS47.ge HI0.out))|exact HB.out),b16_⟩
 ·replace c3:=Bool.eq_false_iff.mpr c3
  subst c3
  have H1:((spec_l1Cur_pick.f s0_0 t157 t158 50).bind fun bt165=>(some (bt165.1,bt165.2.1,bt165.2.2)))=some (r1,r2,r3):=by rw[if_neg (show ¬ (false=true) by decide)] at H;exact H
  clear H
  have H:=H1
  clear H1
  replace H:=Option.bind_eq_some_iff.mp H
  obtain⟨⟨t165,t166,t167⟩,A100,H⟩:=H
  replace H:(some (t165,t166,t167))=some (r1,r2,r3):=H
  have A10:=Aside0.mk A100
  clear A100
  simp only[Option.some.injEq,Prod.mk.injEq] at H
  obtain⟨rfl,rfl,rfl⟩:=H
  go_enter Try.func23,Try.ntmps23
  go_wp2_with (first|((with_reducible refine gate_callee (f:=37) rfl ?_);refine goesA (some 4) rfl rfl Try.func37 #[.pointer (some ⟨g,0,none⟩),.int .i64 20] rfl ?_;(with_reducible refine(spec_l1Cur_one.calls g s0_0 s0_1 s0_2 20 false t157 t158 w0 _ ?side1 ?side2 A2.out).mono ?_);(case side1=>exact b11_);(case side2=>exact b10_);rintro e w11 ⟨rfl,hi,hb,hk⟩;refine⟨_,rfl,?_⟩;have n0_:=Aside0.mk (KeepBut.trans (b0_) hk (.inl rfl));have n1_:=Aside0.mk (hb);have n2_:=Aside0.mk (hi);clear HK HB;(try clear HI0);have HK:=n0_;have HB:=n1_;have HI0:=n2_;clear n0_ n1_ n2_;(try clear hb);(try clear hb2);(try clear hk);(try clear hi))|((with_reducible refine gate_callee (f:=22) rfl ?_);refine goesA (some 9) rfl rfl Try.func22 #[.pointer (some ⟨g,0,none⟩),.int .i64 50] rfl ?_;(with_reducible refine(spec_l1Cur_pick.calls g s0_0 t157 t158 50 t165 t166 t167 w0 _ ?side1 ?side2 A10.out).mono ?_);(case side1=>exact b11_);(case side2=>exact b10_);rintro e w12 ⟨rfl,hi,hb,hk⟩;refine⟨_,rfl,?_⟩;have n0_:=Aside0.mk (KeepBut.trans (b0_) hk (.inl rfl));have n1_:=Aside0.mk (hb);have n2_:=Aside0.mk (hi);clear HK HB;(try clear HI0);have HK:=n0_;have HB:=n1_;have HI0:=n2_;clear n0_ n1_ n2_;(try clear hb);(try clear hb2);(try clear hk);(try clear hi)))
  go_ret
  exact⟨bE,b17_,by repeat (first|(with_reducible first|exact HB.out|apply below_alloc|apply pw_below_drewN|apply below_drew1|refine below_set ?_ (IsS47.ge HI0.out))|exact HB.out),b16_⟩

/-! ### spec_DrawFloodUntil: function 10 -/
def spec_DrawFloodUntil.f (k:Nat) (l0:List Int):Option ((List (S58)) × Int × Int × Int):=(spec_l1Cur_plan.f k l0 0 0).bind fun bt169=>((spec_l1Cur_pick.f l0 bt169.2.1 bt169.2.2 6).bind fun bt174=>((spec_l1Cur_whenTo.f l0 bt174.2.1 bt174.2.2).bind fun bt177=>((spec_l1Cur_whenTo.f l0 bt177.2.1 bt177.2.2).bind fun bt180=>(some (bt169.1,bt174.1,bt177.1,bt180.1)))))
theorem spec_DrawFloodUntil.mono : ∀ a0 k,LeO (spec_DrawFloodUntil.f k a0) (spec_DrawFloodUntil.f (k+1) a0):=by
 intro a0 k
 unfold spec_DrawFloodUntil.f
 repeat' first
  | (with_reducible exact spec_l1Cur_plan.mono _ _ _ _)
  | (with_reducible exact LeO.refl _)
  | (with_reducible exact LeO.none _)
  | (with_reducible refine LeO.ite ?_ ?_)
  | (with_reducible refine LeO.bind ?_ (fun _ => ?_))
  | exact spec_l1Cur_plan.mono _ _ _ _
  | exact LeO.none _
  | refine LeO.ite ?_ ?_
  | refine LeO.bind ?_ (fun _ => ?_)
set_option maxHeartbeats 8000000 in
set_option maxRecDepth 100000 in
theorem spec_DrawFloodUntil.calls (k:Nat) (A0:Option Addr) (c0:Nat) (l0:List Int) (r1:List (S58)) (r2:Int) (r3:Int) (r4:Int) (w:World) (hr0:Kd.C (Kd.int .u8) w A0 l0.length l0) (hc0:l0.length≤c0) (h:spec_DrawFloodUntil.f k l0=some (r1,r2,r3,r4)) :
  Calls Try.prog 10 #[.slice A0 l0.length c0] w fun e w' => ∃ v0_:Value,e=.returned (.tuple #[v0_,.int .i64 r2,.int .i64 r3,.int .i64 r4])∧Kd.R k58 58 w' w.heap.size (fun _=>True) v0_ r1∧Below w.heap.size w w':=by
 have hu47:=Try.underlying47
 have HR0:=Aside0.mk hr0
 have HC0:=Aside0.mk hc0
 clear hr0 hc0
 have HB:=Aside0.mk (Below.refl w.heap.size w)
 have H:((spec_l1Cur_plan.f k l0 0 0).bind fun bt169=>((spec_l1Cur_pick.f l0 bt169.2.1 bt169.2.2 6).bind fun bt174=>((spec_l1Cur_whenTo.f l0 bt174.2.1 bt174.2.2).bind fun bt177=>((spec_l1Cur_whenTo.f l0 bt177.2.1 bt177.2.2).bind fun bt180=>(some (bt169.1,bt174.1,bt177.1,bt180.1))))))=some (r1,r2,r3,r4):=h
 clear h
 replace H:=Option.bind_eq_some_iff.mp H
 obtain⟨⟨t169,t172,t173⟩,A20,H⟩:=H
 replace H:((spec_l1Cur_pick.f l0 t172 t173 6).bind fun bt174=>((spec_l1Cur_whenTo.f l0 bt174.2.1 bt174.2.2).bind fun bt177=>((spec_l1Cur_whenTo.f l0 bt177.2.1 bt177.2.2).bind fun bt180=>(some (t169,bt174.1,bt177.1,bt180.1)))))=some (r1,r2,r3,r4):=H
 have A2:=Aside0.mk A20
 clear A20
 replace H:=Option.bind_eq_some_iff.mp H
 obtain⟨⟨t174,t175,t176⟩,A30,H⟩:=H
 replace H:((spec_l1Cur_whenTo.f l0 t175 t176).bind fun bt177=>((spec_l1Cur_whenTo.f l0 bt177.2.1 bt177.2.2).bind fun bt180=>(some (t169,t174,bt177.1,bt180.1))))=some (r1,r2,r3,r4):=H
 have A3:=Aside0.mk A30
 clear A30
 replace H:=Option.bind_eq_some_iff.mp H
 obtain⟨⟨t177,t178,t179⟩,A40,H⟩:=H
 replace H:((spec_l1Cur_whenTo.f l0 t178 t179).bind fun bt180=>(some (t169,t174,t177,bt180.1)))=some (r1,r2,r3,r4):=H
 have A4:=Aside0.mk A40
 clear A40
 replace H:=Option.bind_eq_some_iff.mp H
 obtain⟨⟨t180,t181,t182⟩,A50,H⟩:=H
 replace H:(some (t169,t174,t177,t180))=some (r1,r2,r3,r4):=H
 have A5:=Aside0.mk A50
 clear A50
 simp only[Option.some.injEq,Prod.mk.injEq] at H
 obtain⟨rfl,rfl,rfl,rfl⟩:=H
 go_enter Try.func10,Try.ntmps10
 go_wp2_with (first|((with_reducible refine gate_dst (N:=9) rfl ?_);refine box_event ?hg (N:=9) ?hd (cs:=#[.slice A0 l0.length c0,.int .i64 0,.int .u64 0]) (t:=47) ?hr ?_;(case hd=>rfl);(case hg=>rfl);(case hr=>first|(go_simp;done)|(go_simp;rfl));intro gb168 hg w6 hbox hb;have n0_:=Aside0.mk (below_step (bB) hb);have n1_:=Aside0.mk (hbox);have n2_:=Aside0.mk ((bG:w.heap.size≤gb168));have n3_:=Aside0.mk ((bG:w.heap.size≤gb168));clear HB;have HB:=n0_;have BK168:=n1_;have GW168:=n2_;have GE168:=n3_;clear n0_ n1_ n2_ n3_;clear hb hbox hg)|((with_reducible refine gate_callee (f:=21) rfl ?_);refine goesA (some 11) rfl rfl Try.func21 #[.pointer (some ⟨gb168,0,none⟩)] rfl ?_;(with_reducible refine(spec_l1Cur_plan.calls k gb168 l0 0 0 t169 t172 t173 w _ ?side1 ?side2 A2.out).mono ?_);(case side1=>exact⟨_,_,(bL BK168.out),GE168.out,HR0.out⟩);(case side2=>exact b15_);rintro e w7 ⟨v170,rfl,ho0,hi,hb,hk⟩;refine⟨_,rfl,?_⟩;have n0_:=Aside0.mk (Kd.R_lower ho0 (below_size (by repeat (first|(with_reducible first|exact HB.out|apply below_alloc|apply pw_below_drewN|apply below_drew1|refine below_set ?_ (IsS47.ge HI168.out))|exact HB.out))));have n1_:=Aside0.mk (hb);have n2_:=Aside0.mk (hi);clear HB BK168;have HO171:=n0_;have HB:=n1_;have HI168:=n2_;clear n0_ n1_ n2_;(try clear hb);(try clear hb2);(try clear hk);(try clear hi);(try clear ho0))|((with_reducible refine gate_callee (f:=22) rfl ?_);refine goesA (some 13) rfl rfl Try.func22 #[.pointer (some ⟨gb168,0,none⟩),.int .i64 6] rfl ?_;(with_reducible refine(spec_l1Cur_pick.calls gb168 l0 t172 t173 6 t174 t175 t176 w _ ?side1 ?side2 A3.out).mono ?_);(case side1=>repeat (first|(with_reducible first|exact HI168.out|apply IsS47.alloc|apply IsS47.drewN|apply IsS47.drew|apply IsS47.set_1|apply IsS47.set_2)|exact HI168.out));(case side2=>exact b15_);rintro e w8 ⟨rfl,hi,hb,hk⟩;refine⟨_,rfl,?_⟩;have n0_:=Aside0.mk (Kd.R_mono (Kd.R_keep (IsS47.apart (show IsS47 w _ gb168 l0 t172 t173 from by repeat (first|(with_reducible first|exact HI168.out|apply IsS47.alloc|apply IsS47.drewN|apply IsS47.drew|apply IsS47.set_1|apply IsS47.set_2)|exact HI168.out)) (bK HO171.out) (b7_)) hk (fun _ h=>h.2)) (fun _ h=>h.1));have n1_:=Aside0.mk (hb);have n2_:=Aside0.mk (hi);clear HO171 HB;(try clear HI168);have HO171:=n0_;have HB:=n1_;have HI168:=n2_;clear n0_ n1_ n2_;(try clear hb);(try clear hb2);(try clear hk);(try clear hi))|((with_reducible refine gate_callee (f:=23) rfl ?_);refine goesA (some 15) rfl rfl Try.func23 #[.pointer (some ⟨gb168,0,none⟩)] rfl ?_;(with_reducible refine(spec_l1Cur_whenTo.calls gb168 l0 t175 t176 t177 t178 t179 w _ ?side1 ?side2 A4.out).mono ?_);(case side1=>repeat (first|(with_reducible first|exact HI168.out|apply IsS47.alloc|apply IsS47.drewN|apply IsS47.drew|apply IsS47.set_1|apply IsS47.set_2)|exact HI168.out));(case side2=>exact b15_);rintro e w9 ⟨rfl,hi,hb,hk⟩;refine⟨_,rfl,?_⟩;have n0_:=Aside0.mk (Kd.R_mono (Kd.R_keep (IsS47.apart (show IsS47 w _ gb168 l0 t175 t176 from by repeat (first|(with_reducible first|exact HI168.out|apply IsS47.alloc|apply IsS47.drewN|apply IsS47.drew|apply IsS47.set_1|apply IsS47.set_2)|exact HI168.out)) (bK HO171.out) (b7_)) hk (fun _ h=>h.2)) (fun _ h=>h.1));have n1_:=Aside0.mk (hb);have n2_:=Aside0.mk (hi);clear HO171 HB;(try clear HI168);have HO171:=n0_;have HB:=n1_;have HI168:=n2_;clear n0_ n1_ n2_;(try clear hb);(try clear hb2);(try clear hk);(try clear hi))|((with_reducible refine gate_callee (f:=23) rfl ?_);refine goesA (some 17) rfl rfl Try.func23 #[.pointer (some ⟨gb168,0,none⟩)] rfl ?_;(with_reducible refine(spec_l1Cur_whenTo.calls gb168 l0 t178 t179 t180 t181 t182 w _ ?side1 ?side2 A5.out).mono ?_);(case side1=>repeat (first|(with_reducible first|exact HI168.out|apply IsS47.alloc|apply IsS47.drewN|apply IsS47.drew|apply IsS47.set_1|apply IsS47.set_2)|exact HI168.out));(case side2=>exact b15_);rintro e w10 ⟨rfl,hi,hb,hk⟩;refine⟨_,rfl,?_⟩;have n0_:=Aside0.mk (Kd.R_mono (Kd.R_keep (IsS47.apart (show IsS47 w _ gb168 l0 t178 t179 from by repeat (first|(with_reducible first|exact HI168.out|apply IsS47.alloc|apply IsS47.drewN|apply IsS47.drew|apply IsS47.set_1|apply IsS47.set_2)|exact HI168.out)) (bK HO171.out) (b7_)) hk (fun _ h=>h.2)) (fun _ h=>h.1));have n1_:=Aside0.mk (hb);have n2_:=Aside0.mk (hi);clear HO171 HB;(try clear HI168);have HO171:=n0_;have HB:=n1_;have HI168:=n2_;clear n0_ n1_ n2_;(try clear hb);(try clear hb2);(try clear hk);(try clear hi)))
 refine bodyPost_ret (results_list (rs:=[.tmp 2,.tmp 3,.tmp 4,.tmp 5]) rfl (by simp) (.tmp (.tmp (.tmp (.tmp .nil))))) rfl ?_
 exact⟨_,by first|rfl|(simp[errW_none,errW_some]<;>rfl)|(simp[*,errW_none,errW_some]<;>rfl),by(with_reducible repeat (first|apply Kd.R_alloc|apply Kd.R_drewN|apply Kd.R_drew));exact HO171.out,by repeat (first|(with_reducible first|exact HB.out|apply below_alloc|apply pw_below_drewN|apply below_drew1|refine below_set ?_ (IsS47.ge HI168.out))|exact HB.out)⟩

-- NOT PRINTED: function 47 (impl_Contact_47)

-- NOT PRINTED: function 40 (impl_Contact_40)

/-! ### impl_within: function 17 -/
def impl_within.f (a0:Int) (a1:Int) (a2:Int):Option (Bool):=if a1≤a0 then (some (decide (a0≤a2))) else (some false)
set_option maxHeartbeats 8000000 in
set_option maxRecDepth 100000 in
theorem impl_within.calls (a0:Int) (a1:Int) (a2:Int) (r:Bool) (w:World) (h:impl_within.f a0 a1 a2=some r) :
  Calls Try.prog 17 #[.int .i64 a0,.int .i64 a1,.int .i64 a2] w fun e w'=>e=.returned (.bool r)∧Drawn0 w w':=by
 have H:(if a1≤a0 then (some (decide (a0≤a2))) else (some false))=some r:=h
 clear h
 by_cases c4:a1≤a0
 ·rw[if_pos c4] at H
  have c4b0:decide (a1≤a0)=true:=decide_eq_true c4
  clear c4
  obtain rfl:=Option.some.inj H
  go_enter Try.func17,Try.ntmps17
  go_wp2
  go_ret
  exact⟨bR,bW⟩
 ·rw[if_neg c4] at H
  have c4b0:decide (a1≤a0)=false:=decide_eq_false c4
  clear c4
  obtain rfl:=Option.some.inj H
  go_enter Try.func17,Try.ntmps17
  go_wp2
  go_ret
  exact⟨bR,bW⟩

/-! ### impl_isNode: function 25 -/
def impl_isNode.f (a0:Int):Option (Bool):=(impl_within.f a0 0 7).bind fun t185=>(some t185)
set_option maxHeartbeats 8000000 in
set_option maxRecDepth 100000 in
theorem impl_isNode.calls (a0:Int) (r:Bool) (w:World) (h:impl_isNode.f a0=some r) :
  Calls Try.prog 25 #[.int .i64 a0] w fun e w'=>e=.returned (.bool r)∧Drawn0 w w':=by
 have H:((impl_within.f a0 0 7).bind fun t185=>(some t185))=some r:=h
 clear h
 replace H:=Option.bind_eq_some_iff.mp H
 obtain⟨t185,A20,H⟩:=H
 have A2:=Aside0.mk A20
 clear A20
 obtain rfl:=Option.some.inj H
 go_enter Try.func25,Try.ntmps25
 go_wp2_with (first|((with_reducible refine gate_callee (f:=17) rfl ?_);refine goesA (some 4) rfl rfl Try.func17 #[.int .i64 a0,.int .i64 0,.int .i64 7] rfl ?_;(with_reducible refine(impl_within.calls a0 0 7 t185 _ A2.out).mono ?_);rintro e w' ⟨rfl,⟨nd,rfl⟩⟩;refine⟨_,rfl,?_⟩))
 go_ret
 exact⟨bR,bW⟩

/-! ### impl_areUnlike: function 42 -/
def impl_areUnlike.f (a0:Int) (a1:Int):Option (Bool):=(impl_isNode.f a0).bind fun t186=>(if t186=true then ((impl_isNode.f a1).bind fun t187=>(if t187=true then (some (a0 != a1)) else (some false))) else (some false))
set_option maxHeartbeats 8000000 in
set_option maxRecDepth 100000 in
theorem impl_areUnlike.calls (a0:Int) (a1:Int) (r:Bool) (w:World) (h:impl_areUnlike.f a0 a1=some r) :
  Calls Try.prog 42 #[.int .i64 a0,.int .i64 a1] w fun e w'=>e=.returned (.bool r)∧Drawn0 w w':=by
 have H:((impl_isNode.f a0).bind fun t186=>(if t186=true then ((impl_isNode.f a1).bind fun t187=>(if t187=true then (some (a0 != a1)) else (some false))) else (some false)))=some r:=h
 clear h
 replace H:=Option.bind_eq_some_iff.mp H
 obtain⟨t186,A30,H⟩:=H
 have A3:=Aside0.mk A30
 clear A30
 by_cases c4:t186=true
 ·subst c4
  have H1:((impl_isNode.f a1).bind fun t187=>(if t187=true then (some (a0 != a1)) else (some false)))=some r:=by rw[if_pos rfl] at H;exact H
  clear H
  have H:=H1
  clear H1
  replace H:=Option.bind_eq_some_iff.mp H
  obtain⟨t187,A50,H⟩:=H
  have A5:=Aside0.mk A50
  clear A50
  by_cases c6:t187=true
  ·subst c6
   have H1:(some (a0 != a1))=some r:=by rw[if_pos rfl] at H;exact H
   clear H
   have H:=H1
   clear H1
   obtain rfl:=Option.some.inj H
   go_enter Try.func42,Try.ntmps42
   go_wp2_with (first|((with_reducible refine gate_callee (f:=25) rfl ?_);refine goesA (some 6) rfl rfl Try.func25 #[.int .i64 a0] rfl ?_;(with_reducible refine(impl_isNode.calls a0 true _ A3.out).mono ?_);rintro e w' ⟨rfl,⟨nd,rfl⟩⟩;refine⟨_,rfl,?_⟩)|(go_at_call 25;(with_reducible refine(impl_isNode.calls a1 true _ A5.out).mono ?_);rintro e w' ⟨rfl,⟨nd,rfl⟩⟩))
   go_ret
   exact⟨bR,bW⟩
  ·replace c6:=Bool.eq_false_iff.mpr c6
   subst c6
   have H1:(some false)=some r:=by rw[if_neg (show ¬ (false=true) by decide)] at H;exact H
   clear H
   have H:=H1
   clear H1
   obtain rfl:=Option.some.inj H
   go_enter Try.func42,Try.ntmps42
   go_wp2_with (first|((with_reducible refine gate_callee (f:=25) rfl ?_);refine goesA (some 6) rfl rfl Try.func25 #[.int .i64 a0] rfl ?_;(with_reducible refine(impl_isNode.calls a0 true _ A3.out).mono ?_);rintro e w' ⟨rfl,⟨nd,rfl⟩⟩;refine⟨_,rfl,?_⟩)|(go_at_call 25;(with_reducible refine(impl_isNode.calls a1 false _ A5.out).mono ?_);rintro e w' ⟨rfl,⟨nd,rfl⟩⟩))
   go_ret
   exact⟨bR,bW⟩
 ·replace c4:=Bool.eq_false_iff.mpr c4
  subst c4
  have H1:(some false)=some r:=by rw[if_neg (show ¬ (false=true) by decide)] at H;exact H
  clear H
  have H:=H1
  clear H1
  obtain rfl:=Option.some.inj H
  go_enter Try.func42,Try.ntmps42
  go_wp2_with (first|((with_reducible refine gate_callee (f:=25) rfl ?_);refine goesA (some 6) rfl rfl Try.func25 #[.int .i64 a0] rfl ?_;(with_reducible refine(impl_isNode.calls a0 false _ A3.out).mono ?_);rintro e w' ⟨rfl,⟨nd,rfl⟩⟩;refine⟨_,rfl,?_⟩))
  go_ret
  exact⟨bR,bW⟩

/-! ### impl_GoodPlan_lit1: function 41 -/
def impl_GoodPlan_lit1.f (a0_0:Int) (a0_1:Int) (a0_2:Int) (a0_3:Int) (a0_4:Int):Option (Bool):=(impl_areUnlike.f a0_0 a0_1).bind fun t189=>(if t189=true then (if a0_2 < 0 then (some true) else (if a0_2 ≥ a0_3 then (some true) else (if a0_3 > 1000 then (some true) else ((impl_within.f a0_4 0 100).bind fun t190=>(some (!t190)))))) else (some true))
set_option maxHeartbeats 8000000 in
set_option maxRecDepth 100000 in
theorem impl_GoodPlan_lit1.calls (a0_0:Int) (a0_1:Int) (a0_2:Int) (a0_3:Int) (a0_4:Int) (r:Bool) (w:World) (h:impl_GoodPlan_lit1.f a0_0 a0_1 a0_2 a0_3 a0_4=some r) :
  Calls Try.prog 41 #[.agg #[.int .i64 a0_0,.int .i64 a0_1,.int .i64 a0_2,.int .i64 a0_3,.int .i64 a0_4]] w fun e w'=>e=.returned (.bool r)∧Below w.heap.size w w':=by
 have hu58:=Try.underlying58
 have HB:=Aside0.mk (Below.refl w.heap.size w)
 have H:((impl_areUnlike.f a0_0 a0_1).bind fun t189=>(if t189=true then (if a0_2 < 0 then (some true) else (if a0_2 ≥ a0_3 then (some true) else (if a0_3 > 1000 then (some true) else ((impl_within.f a0_4 0 100).bind fun t190=>(some (!t190)))))) else (some true)))=some r:=h
 clear h
 replace H:=Option.bind_eq_some_iff.mp H
 obtain⟨t189,A20,H⟩:=H
 have A2:=Aside0.mk A20
 clear A20
 by_cases c3:t189=true
 ·subst c3
  have H1:(if a0_2 < 0 then (some true) else (if a0_2 ≥ a0_3 then (some true) else (if a0_3 > 1000 then (some true) else ((impl_within.f a0_4 0 100).bind fun t190=>(some (!t190))))))=some r:=by rw[if_pos rfl] at H;exact H
  clear H
  have H:=H1
  clear H1
  by_cases c4:a0_2 < 0
  ·rw[if_pos c4] at H
   have c4b0:decide (a0_2 < 0)=true:=decide_eq_true c4
   clear c4
   obtain rfl:=Option.some.inj H
   go_enter Try.func41,Try.ntmps41
   go_wp2_with (first|((with_reducible refine gate_dst (N:=1) rfl ?_);refine box_event ?hg (N:=1) ?hd (cs:=#[.int .i64 a0_0,.int .i64 a0_1,.int .i64 a0_2,.int .i64 a0_3,.int .i64 a0_4]) (t:=58) ?hr ?_;(case hd=>rfl);(case hg=>rfl);(case hr=>first|(go_simp;done)|(go_simp;rfl));intro gb188 hg w5 hbox hb;have n0_:=Aside0.mk (below_step (bB) hb);have n1_:=Aside0.mk (hbox);have n2_:=Aside0.mk ((bG:w.heap.size≤gb188));have n3_:=Aside0.mk ((bG:w.heap.size≤gb188));clear HB;have HB:=n0_;have BK188:=n1_;have GW188:=n2_;have GE188:=n3_;clear n0_ n1_ n2_ n3_;clear hb hbox hg;obtain⟨hcz6_0,hcz6_1,hcz6_2,hcz6_3,hcz6_4⟩:=cC5 BK188.out;obtain⟨hfz6_0,hfz6_1,hfz6_2,hfz6_3,hfz6_4⟩:=cF5 BK188.out)|((with_reducible refine gate_callee (f:=42) rfl ?_);refine goesA (some 7) rfl rfl Try.func42 #[.int .i64 a0_0,.int .i64 a0_1] rfl ?_;(with_reducible refine(impl_areUnlike.calls a0_0 a0_1 true _ A2.out).mono ?_);rintro e w' ⟨rfl,⟨nd,rfl⟩⟩;refine⟨_,rfl,?_⟩))
   go_ret
   exact⟨bE,bS GE188.out⟩
  ·rw[if_neg c4] at H
   have c4b0:decide (a0_2 < 0)=false:=decide_eq_false c4
   clear c4
   by_cases c7:a0_2 ≥ a0_3
   ·rw[if_pos c7] at H
    have c7b0:decide (a0_3≤a0_2)=true:=decide_eq_true c7
    clear c7
    obtain rfl:=Option.some.inj H
    go_enter Try.func41,Try.ntmps41
    go_wp2_with (first|((with_reducible refine gate_dst (N:=1) rfl ?_);refine box_event ?hg (N:=1) ?hd (cs:=#[.int .i64 a0_0,.int .i64 a0_1,.int .i64 a0_2,.int .i64 a0_3,.int .i64 a0_4]) (t:=58) ?hr ?_;(case hd=>rfl);(case hg=>rfl);(case hr=>first|(go_simp;done)|(go_simp;rfl));intro gb188 hg w8 hbox hb;have n0_:=Aside0.mk (below_step (bB) hb);have n1_:=Aside0.mk (hbox);have n2_:=Aside0.mk ((bG:w.heap.size≤gb188));have n3_:=Aside0.mk ((bG:w.heap.size≤gb188));clear HB;have HB:=n0_;have BK188:=n1_;have GW188:=n2_;have GE188:=n3_;clear n0_ n1_ n2_ n3_;clear hb hbox hg;obtain⟨hcz9_0,hcz9_1,hcz9_2,hcz9_3,hcz9_4⟩:=cC5 BK188.out;obtain⟨hfz9_0,hfz9_1,hfz9_2,hfz9_3,hfz9_4⟩:=cF5 BK188.out)|((with_reducible refine gate_callee (f:=42) rfl ?_);refine goesA (some 7) rfl rfl Try.func42 #[.int .i64 a0_0,.int .i64 a0_1] rfl ?_;(with_reducible refine(impl_areUnlike.calls a0_0 a0_1 true _ A2.out).mono ?_);rintro e w' ⟨rfl,⟨nd,rfl⟩⟩;refine⟨_,rfl,?_⟩))
    go_ret
    exact⟨bE,bS GE188.out⟩
   ·rw[if_neg c7] at H
    have c7b0:decide (a0_3≤a0_2)=false:=decide_eq_false c7
    clear c7
    by_cases c10:a0_3 > 1000
    ·rw[if_pos c10] at H
     have c10b0:decide (1000 < a0_3)=true:=decide_eq_true c10
     clear c10
     obtain rfl:=Option.some.inj H
     go_enter Try.func41,Try.ntmps41
     go_wp2_with (first|((with_reducible refine gate_dst (N:=1) rfl ?_);refine box_event ?hg (N:=1) ?hd (cs:=#[.int .i64 a0_0,.int .i64 a0_1,.int .i64 a0_2,.int .i64 a0_3,.int .i64 a0_4]) (t:=58) ?hr ?_;(case hd=>rfl);(case hg=>rfl);(case hr=>first|(go_simp;done)|(go_simp;rfl));intro gb188 hg w11 hbox hb;have n0_:=Aside0.mk (below_step (bB) hb);have n1_:=Aside0.mk (hbox);have n2_:=Aside0.mk ((bG:w.heap.size≤gb188));have n3_:=Aside0.mk ((bG:w.heap.size≤gb188));clear HB;have HB:=n0_;have BK188:=n1_;have GW188:=n2_;have GE188:=n3_;clear n0_ n1_ n2_ n3_;clear hb hbox hg;obtain⟨hcz12_0,hcz12_1,hcz12_2,hcz12_3,hcz12_4⟩:=cC5 BK188.out;obtain⟨hfz12_0,hfz12_1,hfz12_2,hfz12_3,hfz12_4⟩:=cF5 BK188.out)|((with_reducible refine gate_callee (f:=42) rfl ?_);refine goesA (some 7) rfl rfl Try.func42 #[.int .i64 a0_0,.int .i64 a0_1] rfl ?_;(with_reducible refine(impl_areUnlike.calls a0_0 a0_1 true _ A2.out).mono ?_);rintro e w' ⟨rfl,⟨nd,rfl⟩⟩;refine⟨_,rfl,?_⟩))
     go_ret
     exact⟨bE,bS GE188.out⟩
    ·rw[if_neg c10] at H
     have c10b0:decide (1000 < a0_3)=false:=decide_eq_false c10
     clear c10
     replace H:=Option.bind_eq_some_iff.mp H
     obtain⟨t190,A130,H⟩:=H
     have A13:=Aside0.mk A130
     clear A130
     obtain rfl:=Option.some.inj H
     go_enter Try.func41,Try.ntmps41
     go_wp2_with (first|((with_reducible refine gate_dst (N:=1) rfl ?_);refine box_event ?hg (N:=1) ?hd (cs:=#[.int .i64 a0_0,.int .i64 a0_1,.int .i64 a0_2,.int .i64 a0_3,.int .i64 a0_4]) (t:=58) ?hr ?_;(case hd=>rfl);(case hg=>rfl);(case hr=>first|(go_simp;done)|(go_simp;rfl));intro gb188 hg w14 hbox hb;have n0_:=Aside0.mk (below_step (bB) hb);have n1_:=Aside0.mk (hbox);have n2_:=Aside0.mk ((bG:w.heap.size≤gb188));have n3_:=Aside0.mk ((bG:w.heap.size≤gb188));clear HB;have HB:=n0_;have BK188:=n1_;have GW188:=n2_;have GE188:=n3_;clear n0_ n1_ n2_ n3_;clear hb hbox hg;obtain⟨hcz15_0,hcz15_1,hcz15_2,hcz15_3,hcz15_4⟩:=cC5 BK188.out;obtain⟨hfz15_0,hfz15_1,hfz15_2,hfz15_3,hfz15_4⟩:=cF5 BK188.out)|((with_reducible refine gate_callee (f:=42) rfl ?_);refine goesA (some 7) rfl rfl Try.func42 #[.int .i64 a0_0,.int .i64 a0_1] rfl ?_;(with_reducible refine(impl_areUnlike.calls a0_0 a0_1 true _ A2.out).mono ?_);rintro e w' ⟨rfl,⟨nd,rfl⟩⟩;refine⟨_,rfl,?_⟩)|(go_at_call 17;(with_reducible refine(impl_within.calls a0_4 0 100 t190 _ A13.out).mono ?_);rintro e w' ⟨rfl,⟨nd,rfl⟩⟩))
     go_ret
     exact⟨bE,bS GE188.out⟩
 ·replace c3:=Bool.eq_false_iff.mpr c3
  subst c3
  have H1:(some true)=some r:=by rw[if_neg (show ¬ (false=true) by decide)] at H;exact H
  clear H
  have H:=H1
  clear H1
  obtain rfl:=Option.some.inj H
  go_enter Try.func41,Try.ntmps41
  go_wp2_with (first|((with_reducible refine gate_dst (N:=1) rfl ?_);refine box_event ?hg (N:=1) ?hd (cs:=#[.int .i64 a0_0,.int .i64 a0_1,.int .i64 a0_2,.int .i64 a0_3,.int .i64 a0_4]) (t:=58) ?hr ?_;(case hd=>rfl);(case hg=>rfl);(case hr=>first|(go_simp;done)|(go_simp;rfl));intro gb188 hg w16 hbox hb;have n0_:=Aside0.mk (below_step (bB) hb);have n1_:=Aside0.mk (hbox);have n2_:=Aside0.mk ((bG:w.heap.size≤gb188));have n3_:=Aside0.mk ((bG:w.heap.size≤gb188));clear HB;have HB:=n0_;have BK188:=n1_;have GW188:=n2_;have GE188:=n3_;clear n0_ n1_ n2_ n3_;clear hb hbox hg;obtain⟨hcz17_0,hcz17_1,hcz17_2,hcz17_3,hcz17_4⟩:=cC5 BK188.out;obtain⟨hfz17_0,hfz17_1,hfz17_2,hfz17_3,hfz17_4⟩:=cF5 BK188.out)|((with_reducible refine gate_callee (f:=42) rfl ?_);refine goesA (some 7) rfl rfl Try.func42 #[.int .i64 a0_0,.int .i64 a0_1] rfl ?_;(with_reducible refine(impl_areUnlike.calls a0_0 a0_1 false _ A2.out).mono ?_);rintro e w' ⟨rfl,⟨nd,rfl⟩⟩;refine⟨_,rfl,?_⟩))
  go_ret
  exact⟨bE,bS GE188.out⟩

/-! ### impl_Contact_impl_GoodPlan_lit1_2: function 47 -/
def impl_Contact_impl_GoodPlan_lit1_2.l0:Nat→List (S58)→Int→Int→Option (Int)
 | 0,_,_,_=>none
 | k+1,x0,x7,x8=>if x8 < x7 then (if 0≤x8 then (if x8 < (x0.length:Int) then ((impl_GoodPlan_lit1.f ((rd_T58 x0 x8).f0) ((rd_T58 x0 x8).f1) ((rd_T58 x0 x8).f2) ((rd_T58 x0 x8).f3) ((rd_T58 x0 x8).f4)).bind fun t192=>(if t192=true then (some x8) else (impl_Contact_impl_GoodPlan_lit1_2.l0 k x0 x7 (wrap64 (x8+1))))) else (none)) else (none)) else (some (-1))
def impl_Contact_impl_GoodPlan_lit1_2.f (k:Nat) (l0:List (S58))  : Option (Int):=impl_Contact_impl_GoodPlan_lit1_2.l0 k l0 (l0.length:Int) 0
theorem impl_Contact_impl_GoodPlan_lit1_2.mono_l : ∀ k,(∀ y0 y1 y2,LeO (impl_Contact_impl_GoodPlan_lit1_2.l0 k y0 y1 y2) (impl_Contact_impl_GoodPlan_lit1_2.l0 (k+1) y0 y1 y2))
 | 0=>fun _ _ _ r h=>by simp[impl_Contact_impl_GoodPlan_lit1_2.l0] at h
 | k+1=>by
  have ih0:=impl_Contact_impl_GoodPlan_lit1_2.mono_l k
  ·intro y0 y1 y2
   unfold impl_Contact_impl_GoodPlan_lit1_2.l0
   repeat' first
   | (with_reducible exact ih0 _ _ _)
   | (with_reducible exact LeO.refl _)
   | (with_reducible exact LeO.none _)
   | (with_reducible refine LeO.ite ?_ ?_)
   | (with_reducible refine LeO.bind ?_ (fun _ => ?_))
   | exact ih0 _ _ _
   | exact LeO.none _
   | refine LeO.ite ?_ ?_
   | refine LeO.bind ?_ (fun _ => ?_)
theorem impl_Contact_impl_GoodPlan_lit1_2.mono : ∀ a0 k,LeO (impl_Contact_impl_GoodPlan_lit1_2.f k a0) (impl_Contact_impl_GoodPlan_lit1_2.f (k+1) a0):=by
 intro a0 k
 have ih0:=impl_Contact_impl_GoodPlan_lit1_2.mono_l k
 unfold impl_Contact_impl_GoodPlan_lit1_2.f
 repeat' first
  | (with_reducible exact ih0 _ _ _)
  | (with_reducible exact LeO.refl _)
  | (with_reducible exact LeO.none _)
  | (with_reducible refine LeO.ite ?_ ?_)
  | (with_reducible refine LeO.bind ?_ (fun _ => ?_))
  | exact ih0 _ _ _
  | exact LeO.none _
  | refine LeO.ite ?_ ?_
  | refine LeO.bind ?_ (fun _ => ?_)
set_option maxHeartbeats 8000000 in
set_option maxRecDepth 100000 in
theorem impl_Contact_impl_GoodPlan_lit1_2.calls (k:Nat) (A0:Option Addr) (c0:Nat) (l0:List (S58))  (r:Int) (w:World) (hr0:Kd.C k58 w A0 l0.length l0) (hc0:l0.length≤c0) (h:impl_Contact_impl_GoodPlan_lit1_2.f k l0=some r) :
  Calls Try.prog 47 #[.slice A0 l0.length c0,(.func (.func 41) #[] #[])] w fun e w'=>e=.returned (.int .i64 r)∧Below w.heap.size w w':=by
 have hu58:=Try.underlying58
 have HR0:=Aside0.mk hr0
 have HC0:=Aside0.mk hc0
 clear hr0 hc0
 have HB:=Aside0.mk (Below.refl w.heap.size w)
 have H:(impl_Contact_impl_GoodPlan_lit1_2.l0 k l0 (l0.length:Int) 0)=some r:=h
 clear h
 have H':=Aside0.mk H
 clear H
 go_enter Try.func47,Try.ntmps47
 go_wp2
 go_loopg [8] k (fun kq v8 w' => ∃ (x8_1:Int),v8=.int .i64 x8_1∧Aside0 (impl_Contact_impl_GoodPlan_lit1_2.l0 kq l0 (l0.length:Int) x8_1=some r)∧Aside0 (kq≤k)∧Aside0 (Below w.heap.size w w'))
 case atStart=>exact⟨(0),(bR),H',⟨Nat.le_refl _⟩,⟨by repeat (first|(with_reducible first|exact HB.out|apply below_alloc|apply pw_below_drewN|apply below_drew1)|exact HB.out)⟩⟩
 case round =>
  clear H'
  try clear p2
  obtain⟨x8_1,rfl,HA,HK1,HB⟩:=hrel
  cases gk with
  | zero=>exact absurd HA.out (by simp[impl_Contact_impl_GoodPlan_lit1_2.l0])
  | succ k1 =>
   have H:=HA.out
   clear HA
   simp only[impl_Contact_impl_GoodPlan_lit1_2.l0] at H
   by_cases c3:x8_1 < (l0.length:Int)
   ·rw[if_pos c3] at H
    have c3b0:decide (x8_1 < (l0.length:Int))=true:=decide_eq_true c3
    clear c3
    by_cases c4:0≤x8_1
    ·rw[if_pos c4] at H
     have c4b0:decide (0≤x8_1)=true:=decide_eq_true c4
     clear c4
     by_cases c5:x8_1 < (l0.length:Int)
     ·rw[if_pos c5] at H
      have c5b0:decide (x8_1 < (l0.length:Int))=true:=decide_eq_true c5
      clear c5
      replace H:=Option.bind_eq_some_iff.mp H
      obtain⟨t192,A60,H⟩:=H
      have A6:=Aside0.mk A60
      clear A60
      by_cases c7:t192=true
      ·subst c7
       have H1:(some x8_1)=some r:=by rw[if_pos rfl] at H;exact H
       clear H
       have H:=H1
       clear H1
       obtain rfl:=Option.some.inj H
       have p191:0≤(x8_1:Int):=of_decide_eq_true (bD)
       have q191:x8_1 < (l0.length:Int):=of_decide_eq_true (bD)
       obtain⟨ad191,e191,hx191_0,hx191_1,hx191_2,hx191_3,hx191_4⟩:=at_T58 HR0.out x8_1 p191 q191
       cases e191
       replace hx191_0:=(HB.out.cell (World.block_lt_of_cell? w _ hx191_0)).trans hx191_0
       replace hx191_1:=(HB.out.cell (World.block_lt_of_cell? w _ hx191_1)).trans hx191_1
       replace hx191_2:=(HB.out.cell (World.block_lt_of_cell? w _ hx191_2)).trans hx191_2
       replace hx191_3:=(HB.out.cell (World.block_lt_of_cell? w _ hx191_3)).trans hx191_3
       replace hx191_4:=(HB.out.cell (World.block_lt_of_cell? w _ hx191_4)).trans hx191_4
       replace p191:=eq_true p191
       replace q191:=eq_true q191
       go_wp2_with (first|(go_at_call 41;(with_reducible refine(impl_GoodPlan_lit1.calls ((rd_T58 l0 x8_1).f0) ((rd_T58 l0 x8_1).f1) ((rd_T58 l0 x8_1).f2) ((rd_T58 l0 x8_1).f3) ((rd_T58 l0 x8_1).f4) true _ A6.out).mono ?_);rintro e w8 ⟨rfl,hb⟩;have n0_:=Aside0.mk (below_step (bB) hb);clear HB;have HB:=n0_;clear n0_;(try clear hb);(try clear hb2);(try clear hk);(try clear hi)))
       go_ret
       exact⟨bE,bB⟩
      ·replace c7:=Bool.eq_false_iff.mpr c7
       subst c7
       have H1:(impl_Contact_impl_GoodPlan_lit1_2.l0 k1 l0 (l0.length:Int) (wrap64 (x8_1+1)))=some r:=by rw[if_neg (show ¬ (false=true) by decide)] at H;exact H
       clear H
       have H:=H1
       clear H1
       have H':=Aside0.mk H
       clear H
       have p191:0≤(x8_1:Int):=of_decide_eq_true (bD)
       have q191:x8_1 < (l0.length:Int):=of_decide_eq_true (bD)
       obtain⟨ad191,e191,hx191_0,hx191_1,hx191_2,hx191_3,hx191_4⟩:=at_T58 HR0.out x8_1 p191 q191
       cases e191
       replace hx191_0:=(HB.out.cell (World.block_lt_of_cell? w _ hx191_0)).trans hx191_0
       replace hx191_1:=(HB.out.cell (World.block_lt_of_cell? w _ hx191_1)).trans hx191_1
       replace hx191_2:=(HB.out.cell (World.block_lt_of_cell? w _ hx191_2)).trans hx191_2
       replace hx191_3:=(HB.out.cell (World.block_lt_of_cell? w _ hx191_3)).trans hx191_3
       replace hx191_4:=(HB.out.cell (World.block_lt_of_cell? w _ hx191_4)).trans hx191_4
       replace p191:=eq_true p191
       replace q191:=eq_true q191
       go_wp2_with (first|(go_at_call 41;(with_reducible refine(impl_GoodPlan_lit1.calls ((rd_T58 l0 x8_1).f0) ((rd_T58 l0 x8_1).f1) ((rd_T58 l0 x8_1).f2) ((rd_T58 l0 x8_1).f3) ((rd_T58 l0 x8_1).f4) false _ A6.out).mono ?_);rintro e w9 ⟨rfl,hb⟩;have n0_:=Aside0.mk (below_step (bB) hb);clear HB;have HB:=n0_;clear n0_;(try clear hb);(try clear hb2);(try clear hk);(try clear hi)))
       go_roundg k1
       case measure=>have:=HK1.out;omega
       case rel=>exact⟨(wrap64 (x8_1+1)),(bR),H',⟨by have:=HK1.out;omega⟩,⟨by repeat (first|(with_reducible first|exact HB.out|apply below_alloc|apply pw_below_drewN|apply below_drew1)|exact HB.out)⟩⟩
     ·rw[if_neg c5] at H
      exact absurd H (by simp)
    ·rw[if_neg c4] at H
     exact absurd H (by simp)
   ·rw[if_neg c3] at H
    have c3b0:decide (x8_1 < (l0.length:Int))=false:=decide_eq_false c3
    clear c3
    obtain rfl:=Option.some.inj H
    go_wp2
    go_ret
    exact⟨bE,bB⟩

/-! ### impl_Contact_impl_GoodPlan_lit1: function 40 -/
def impl_Contact_impl_GoodPlan_lit1.f (k:Nat) (l0:List (S58))  : Option (Bool):=(impl_Contact_impl_GoodPlan_lit1_2.f k l0).bind fun t193=>(some (decide (t193 ≥ 0)))
theorem impl_Contact_impl_GoodPlan_lit1.mono : ∀ a0 k,LeO (impl_Contact_impl_GoodPlan_lit1.f k a0) (impl_Contact_impl_GoodPlan_lit1.f (k+1) a0):=by
 intro a0 k
 unfold impl_Contact_impl_GoodPlan_lit1.f
 repeat' first
  | (with_reducible exact impl_Contact_impl_GoodPlan_lit1_2.mono _ _)
  | (with_reducible exact LeO.refl _)
  | (with_reducible exact LeO.none _)
  | (with_reducible refine LeO.ite ?_ ?_)
  | (with_reducible refine LeO.bind ?_ (fun _ => ?_))
  | exact impl_Contact_impl_GoodPlan_lit1_2.mono _ _
  | exact LeO.none _
  | refine LeO.ite ?_ ?_
  | refine LeO.bind ?_ (fun _ => ?_)
set_option maxHeartbeats 8000000 in
set_option maxRecDepth 100000 in
theorem impl_Contact_impl_GoodPlan_lit1.calls (k:Nat) (A0:Option Addr) (c0:Nat) (l0:List (S58))  (r:Bool) (w:World) (hr0:Kd.C k58 w A0 l0.length l0) (hc0:l0.length≤c0) (h:impl_Contact_impl_GoodPlan_lit1.f k l0=some r) :
  Calls Try.prog 40 #[.slice A0 l0.length c0,(.func (.func 41) #[] #[])] w fun e w'=>e=.returned (.bool r)∧Below w.heap.size w w':=by
 have HR0:=Aside0.mk hr0
 have HC0:=Aside0.mk hc0
 clear hr0 hc0
 have HB:=Aside0.mk (Below.refl w.heap.size w)
 have H:((impl_Contact_impl_GoodPlan_lit1_2.f k l0).bind fun t193=>(some (decide (t193 ≥ 0))))=some r:=h
 clear h
 replace H:=Option.bind_eq_some_iff.mp H
 obtain⟨t193,A30,H⟩:=H
 have A3:=Aside0.mk A30
 clear A30
 obtain rfl:=Option.some.inj H
 go_enter Try.func40,Try.ntmps40
 go_wp2_with (first|((with_reducible refine gate_callee (f:=47) rfl ?_);refine goesA (some 7) rfl rfl Try.func47 #[.slice A0 l0.length c0,(.func (.func 41) #[] #[])] rfl ?_;(with_reducible refine(impl_Contact_impl_GoodPlan_lit1_2.calls k _ _ l0  t193 _ ?side1 ?side2 A3.out).mono ?_);(case side1=>exact b12_);(case side2=>exact HC0.out);rintro e w4 ⟨rfl,hb⟩;refine⟨_,rfl,?_⟩;have n0_:=Aside0.mk (below_step (bB) hb);clear HB;have HB:=n0_;clear n0_;(try clear hb);(try clear hb2);(try clear hk);(try clear hi)))
 go_ret
 exact⟨bE,bB⟩

/-! ### impl_GoodPlan: function 24 -/
def impl_GoodPlan.f (k:Nat) (l0:List (S58)):Option (Bool):=if (l0.length:Int)≤20 then ((impl_Contact_impl_GoodPlan_lit1.f k l0).bind fun t194=>(some (!t194))) else (some false)
theorem impl_GoodPlan.mono : ∀ a0 k,LeO (impl_GoodPlan.f k a0) (impl_GoodPlan.f (k+1) a0):=by
 intro a0 k
 unfold impl_GoodPlan.f
 repeat' first
  | (with_reducible exact impl_Contact_impl_GoodPlan_lit1.mono _ _)
  | (with_reducible exact LeO.refl _)
  | (with_reducible exact LeO.none _)
  | (with_reducible refine LeO.ite ?_ ?_)
  | (with_reducible refine LeO.bind ?_ (fun _ => ?_))
  | exact impl_Contact_impl_GoodPlan_lit1.mono _ _
  | exact LeO.none _
  | refine LeO.ite ?_ ?_
  | refine LeO.bind ?_ (fun _ => ?_)
set_option maxHeartbeats 8000000 in
set_option maxRecDepth 100000 in
theorem impl_GoodPlan.calls (k:Nat) (A0:Option Addr) (c0:Nat) (l0:List (S58)) (r:Bool) (w:World) (hr0:Kd.C k58 w A0 l0.length l0) (hc0:l0.length≤c0) (h:impl_GoodPlan.f k l0=some r) :
  Calls Try.prog 24 #[.slice A0 l0.length c0] w fun e w'=>e=.returned (.bool r)∧Below w.heap.size w w':=by
 have HR0:=Aside0.mk hr0
 have HC0:=Aside0.mk hc0
 clear hr0 hc0
 have HB:=Aside0.mk (Below.refl w.heap.size w)
 have H:(if (l0.length:Int)≤20 then ((impl_Contact_impl_GoodPlan_lit1.f k l0).bind fun t194=>(some (!t194))) else (some false))=some r:=h
 clear h
 by_cases c2:(l0.length:Int)≤20
 ·rw[if_pos c2] at H
  have c2b0:decide ((l0.length:Int)≤20)=true:=decide_eq_true c2
  have c2b1:decide (l0.length≤20)=true:=decide_eq_true (b9_)
  clear c2
  replace H:=Option.bind_eq_some_iff.mp H
  obtain⟨t194,A30,H⟩:=H
  have A3:=Aside0.mk A30
  clear A30
  obtain rfl:=Option.some.inj H
  go_enter Try.func24,Try.ntmps24
  go_wp2_with (first|(go_at_call 40;(with_reducible refine(impl_Contact_impl_GoodPlan_lit1.calls k _ _ l0  t194 _ ?side1 ?side2 A3.out).mono ?_);(case side1=>exact b12_);(case side2=>exact HC0.out);rintro e w4 ⟨rfl,hb⟩;have n0_:=Aside0.mk (below_step (bB) hb);clear HB;have HB:=n0_;clear n0_;(try clear hb);(try clear hb2);(try clear hk);(try clear hi)))
  go_ret
  exact⟨bE,bB⟩
 ·rw[if_neg c2] at H
  have c2b0:decide ((l0.length:Int)≤20)=false:=decide_eq_false c2
  have c2b1:decide (l0.length≤20)=false:=decide_eq_false (b9_)
  clear c2
  obtain rfl:=Option.some.inj H
  go_enter Try.func24,Try.ntmps24
  go_wp2
  go_ret
  exact⟨bE,bB⟩

/-! ### impl_isWhen: function 26 -/
def impl_isWhen.f (a0:Int):Option (Bool):=(impl_within.f a0 0 1000).bind fun t195=>(some t195)
set_option maxHeartbeats 8000000 in
set_option maxRecDepth 100000 in
theorem impl_isWhen.calls (a0:Int) (r:Bool) (w:World) (h:impl_isWhen.f a0=some r) :
  Calls Try.prog 26 #[.int .i64 a0] w fun e w'=>e=.returned (.bool r)∧Drawn0 w w':=by
 have H:((impl_within.f a0 0 1000).bind fun t195=>(some t195))=some r:=h
 clear h
 replace H:=Option.bind_eq_some_iff.mp H
 obtain⟨t195,A20,H⟩:=H
 have A2:=Aside0.mk A20
 clear A20
 obtain rfl:=Option.some.inj H
 go_enter Try.func26,Try.ntmps26
 go_wp2_with (first|((with_reducible refine gate_callee (f:=17) rfl ?_);refine goesA (some 4) rfl rfl Try.func17 #[.int .i64 a0,.int .i64 0,.int .i64 1000] rfl ?_;(with_reducible refine(impl_within.calls a0 0 1000 t195 _ A2.out).mono ?_);rintro e w' ⟨rfl,⟨nd,rfl⟩⟩;refine⟨_,rfl,?_⟩))
 go_ret
 exact⟨bR,bW⟩

/-! ### bits_Mul32: function 49 -/
def bits_Mul32.f (a0:Int) (a1:Int):Option (Int × Int):=some (((IntKind.u64.wrap ((IntKind.u64.wrap (a0)) * (IntKind.u64.wrap (a1)))) / 4294967296) % 4294967296,(IntKind.u64.wrap ((IntKind.u64.wrap (a0)) * (IntKind.u64.wrap (a1)))) % 4294967296)
set_option maxHeartbeats 8000000 in
set_option maxRecDepth 100000 in
theorem bits_Mul32.calls (a0:Int) (a1:Int) (r1:Int) (r2:Int) (w:World) (h:bits_Mul32.f a0 a1=some (r1,r2)) :
  Calls Try.prog 49 #[.int .u32 a0,.int .u32 a1] w fun e w'=>e=.returned (.tuple #[.int .u32 r1,.int .u32 r2])∧Drawn0 w w':=by
 have H:(some (((IntKind.u64.wrap ((IntKind.u64.wrap (a0)) * (IntKind.u64.wrap (a1)))) / 4294967296) % 4294967296,(IntKind.u64.wrap ((IntKind.u64.wrap (a0)) * (IntKind.u64.wrap (a1)))) % 4294967296))=some (r1,r2):=h
 clear h
 simp only[Option.some.injEq,Prod.mk.injEq] at H
 obtain⟨rfl,rfl⟩:=H
 go_enter Try.func49,Try.ntmps49
 go_wp2
 go_ret2
 exact⟨bR,bW⟩

/-! ### bits_Mul64: function 50 -/
def bits_Mul64.f (a0:Int) (a1:Int):Option (Int × Int):=some (IntKind.u64.wrap ((IntKind.u64.wrap ((IntKind.u64.wrap ((a0 / 4294967296) * (a1 / 4294967296)))+((IntKind.u64.wrap ((IntKind.u64.wrap ((a0 / 4294967296) * (Go.bits .and .u64 a1 4294967295)))+((IntKind.u64.wrap ((Go.bits .and .u64 a0 4294967295) * (Go.bits .and .u64 a1 4294967295))) / 4294967296))) / 4294967296)))+((IntKind.u64.wrap ((Go.bits .and .u64 (IntKind.u64.wrap ((IntKind.u64.wrap ((a0 / 4294967296) * (Go.bits .and .u64 a1 4294967295)))+((IntKind.u64.wrap ((Go.bits .and .u64 a0 4294967295) * (Go.bits .and .u64 a1 4294967295))) / 4294967296))) 4294967295)+(IntKind.u64.wrap ((Go.bits .and .u64 a0 4294967295) * (a1 / 4294967296))))) / 4294967296)),IntKind.u64.wrap (a0 * a1))
set_option maxHeartbeats 8000000 in
set_option maxRecDepth 100000 in
theorem bits_Mul64.calls (a0:Int) (a1:Int) (r1:Int) (r2:Int) (w:World) (h:bits_Mul64.f a0 a1=some (r1,r2)) :
  Calls Try.prog 50 #[.int .u64 a0,.int .u64 a1] w fun e w'=>e=.returned (.tuple #[.int .u64 r1,.int .u64 r2])∧Drawn0 w w':=by
 have H:(some (IntKind.u64.wrap ((IntKind.u64.wrap ((IntKind.u64.wrap ((a0 / 4294967296) * (a1 / 4294967296)))+((IntKind.u64.wrap ((IntKind.u64.wrap ((a0 / 4294967296) * (Go.bits .and .u64 a1 4294967295)))+((IntKind.u64.wrap ((Go.bits .and .u64 a0 4294967295) * (Go.bits .and .u64 a1 4294967295))) / 4294967296))) / 4294967296)))+((IntKind.u64.wrap ((Go.bits .and .u64 (IntKind.u64.wrap ((IntKind.u64.wrap ((a0 / 4294967296) * (Go.bits .and .u64 a1 4294967295)))+((IntKind.u64.wrap ((Go.bits .and .u64 a0 4294967295) * (Go.bits .and .u64 a1 4294967295))) / 4294967296))) 4294967295)+(IntKind.u64.wrap ((Go.bits .and .u64 a0 4294967295) * (a1 / 4294967296))))) / 4294967296)),IntKind.u64.wrap (a0 * a1)))=some (r1,r2):=h
 clear h
 simp only[Option.some.injEq,Prod.mk.injEq] at H
 obtain⟨rfl,rfl⟩:=H
 go_enter Try.func50,Try.ntmps50
 go_wp2
 go_ret2
 exact⟨bR,bW⟩

/-! ### bits_Mul: function 48 -/
def bits_Mul.f (a0:Int) (a1:Int):Option (Int × Int):=(bits_Mul64.f a0 a1).bind fun bt196=>(some (bt196.1,bt196.2))
set_option maxHeartbeats 8000000 in
set_option maxRecDepth 100000 in
theorem bits_Mul.calls (a0:Int) (a1:Int) (r1:Int) (r2:Int) (w:World) (h:bits_Mul.f a0 a1=some (r1,r2)) :
  Calls Try.prog 48 #[.int .u64 a0,.int .u64 a1] w fun e w'=>e=.returned (.tuple #[.int .u64 r1,.int .u64 r2])∧Drawn0 w w':=by
 have H:((bits_Mul64.f a0 a1).bind fun bt196=>(some (bt196.1,bt196.2)))=some (r1,r2):=h
 clear h
 replace H:=Option.bind_eq_some_iff.mp H
 obtain⟨⟨t196,t197⟩,A30,H⟩:=H
 replace H:(some (t196,t197))=some (r1,r2):=H
 have A3:=Aside0.mk A30
 clear A30
 simp only[Option.some.injEq,Prod.mk.injEq] at H
 obtain⟨rfl,rfl⟩:=H
 go_enter Try.func48,Try.ntmps48
 go_wp2_with (first|((with_reducible refine gate_callee (f:=50) rfl ?_);refine goesA (some 25) rfl rfl Try.func50 #[.int .u64 a0,.int .u64 a1] rfl ?_;(with_reducible refine(bits_Mul64.calls a0 a1 t196 t197 _ A3.out).mono ?_);rintro e w' ⟨rfl,⟨nd,rfl⟩⟩;refine⟨_,rfl,?_⟩))
 go_ret2
 exact⟨bR,bW⟩

end Go.Proofs.Ytanegdfncfkinaa.XFnFlood
