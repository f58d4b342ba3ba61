-- Written by this session's own program (wip/xprint.py) out of the translation; Lean checks it.
import Derived.Test.YteneeohaoplpbaaXFnExactReachAllx0
import Derived.Test.YteneeohaoplpbaaXFnExactReachAllx6
namespace Go.Proofs.Yteneeohaoplpbaa.XFnExactReachAll
open Go.RowKit Go.Proofs.YteneeohaoplpbaaW.PrintWords Go.Proofs.YteneeohaoplpbaaW.PrintLast Go.Proofs.YteneeohaoplpbaaW.PrintMore
attribute [local go_sem] max2_int min2_int max_two min_two max_three min_three max_four min_four   -- for this text's walks alone
set_option linter.unusedVariables false
set_option linter.unusedSimpArgs false

/-! ### impl_reach: function 91 -/
mutual
def impl_reach.l0:Nat→List (S104)→List Int→List Int→Option (List Int × List Int)
 | 0,_,_,_=>none
 | k+1,x0,x8,x9=>impl_reach.l1 k x0 x8 x9 (-1) 0 x0 (x0.length:Int) 0
def impl_reach.l1:Nat→List (S104)→List Int→List Int→Int→Int→List (S104)→Int→Int→Option (List Int × List Int)
 | 0,_,_,_,_,_,_,_,_=>none
 | k+1,x0,x8,x9,x10,x11,x24,x25,x26=>if x26 < x25 then (if 0≤x26 then (if x26 < (x24.length:Int) then (if 0≤((rd_T104 x24 x26).f0) then (if ((rd_T104 x24 x26).f0) < (x8.length:Int) then (if (rd x8 ((rd_T104 x24 x26).f0)) < 0 then (impl_reach.l1 k x0 x8 x9 x10 x11 x24 x25 (wrap64 (x26+1))) else ((impl_Contact_by.f ((rd_T104 x24 x26).f0) ((rd_T104 x24 x26).f1) ((rd_T104 x24 x26).f2) ((rd_T104 x24 x26).f3) ((rd_T104 x24 x26).f4) (rd x8 ((rd_T104 x24 x26).f0))).bind fun bt254=>(if bt254.2=true then (if 0≤((rd_T104 x24 x26).f1) then (if ((rd_T104 x24 x26).f1) < (x8.length:Int) then (if (rd x8 ((rd_T104 x24 x26).f1)) < 0 then (if x10 < 0 then (impl_reach.l1 k x0 x8 x9 x26 bt254.1 x24 x25 (wrap64 (x26+1))) else (if bt254.1 < x11 then (impl_reach.l1 k x0 x8 x9 x26 bt254.1 x24 x25 (wrap64 (x26+1))) else (impl_reach.l1 k x0 x8 x9 x10 x11 x24 x25 (wrap64 (x26+1))))) else (if bt254.1 < (rd x8 ((rd_T104 x24 x26).f1)) then (if x10 < 0 then (impl_reach.l1 k x0 x8 x9 x26 bt254.1 x24 x25 (wrap64 (x26+1))) else (if bt254.1 < x11 then (impl_reach.l1 k x0 x8 x9 x26 bt254.1 x24 x25 (wrap64 (x26+1))) else (impl_reach.l1 k x0 x8 x9 x10 x11 x24 x25 (wrap64 (x26+1))))) else (impl_reach.l1 k x0 x8 x9 x10 x11 x24 x25 (wrap64 (x26+1))))) else (none)) else (none)) else (impl_reach.l1 k x0 x8 x9 x10 x11 x24 x25 (wrap64 (x26+1)))))) else (none)) else (none)) else (none)) else (none)) else (if x10 < 0 then (some (x8,x9)) else (if 0≤x10 then (if x10 < (x0.length:Int) then (if 0≤((rd_T104 x0 x10).f1) then (if ((rd_T104 x0 x10).f1) < (x8.length:Int) then (if ((rd_T104 x0 x10).f1) < (x9.length:Int) then (impl_reach.l0 k x0 (x8.set (((rd_T104 x0 x10).f1):Int).toNat x11) (x9.set (((rd_T104 x0 x10).f1):Int).toNat x10)) else (none)) else (none)) else (none)) else (none)) else (none)))
end
def impl_reach.f (k:Nat) (l0:List (S104)) (a1:Int) (a2:Int):Option (List Int × List Int):=(slices_Repeat_int_int.f (([(-1)]:List Int)) 8).bind fun t236=>((slices_Repeat_int_int.f (([(-1)]:List Int)) 8).bind fun t242=>(if 0≤a1 then (if a1 < (t236.length:Int) then (impl_reach.l0 k l0 (t236.set (a1:Int).toNat a2) t242) else (none)) else (none)))
theorem impl_reach.mono_l : ∀ k,(∀ y0 y1 y2,LeO (impl_reach.l0 k y0 y1 y2) (impl_reach.l0 (k+1) y0 y1 y2))∧(∀ y0 y1 y2 y3 y4 y5 y6 y7,LeO (impl_reach.l1 k y0 y1 y2 y3 y4 y5 y6 y7) (impl_reach.l1 (k+1) y0 y1 y2 y3 y4 y5 y6 y7))
 | 0=>⟨fun _ _ _ r h=>by simp[impl_reach.l0] at h,fun _ _ _ _ _ _ _ _ r h=>by simp[impl_reach.l1] at h⟩
 | k+1=>by
  obtain⟨ih0,ih1⟩:=impl_reach.mono_l k
  refine⟨?_,?_⟩
  ·intro y0 y1 y2
   unfold impl_reach.l0
   repeat' first
   | (with_reducible exact ih0 _ _ _)
   | (with_reducible exact ih1 _ _ _ _ _ _ _ _)
   | (with_reducible exact LeO.refl _)
   | (with_reducible exact LeO.none _)
   | (with_reducible refine LeO.ite ?_ ?_)
   | (with_reducible refine LeO.bind ?_ (fun _ => ?_))
   | exact ih0 _ _ _
   | exact ih1 _ _ _ _ _ _ _ _
   | exact LeO.none _
   | refine LeO.ite ?_ ?_
   | refine LeO.bind ?_ (fun _ => ?_)
  ·intro y0 y1 y2 y3 y4 y5 y6 y7
   unfold impl_reach.l1
   repeat' first
   | (with_reducible exact ih0 _ _ _)
   | (with_reducible exact ih1 _ _ _ _ _ _ _ _)
   | (with_reducible exact LeO.refl _)
   | (with_reducible exact LeO.none _)
   | (with_reducible refine LeO.ite ?_ ?_)
   | (with_reducible refine LeO.bind ?_ (fun _ => ?_))
   | exact ih0 _ _ _
   | exact ih1 _ _ _ _ _ _ _ _
   | exact LeO.none _
   | refine LeO.ite ?_ ?_
   | refine LeO.bind ?_ (fun _ => ?_)
theorem impl_reach.mono : ∀ a0 a1 a2 k,LeO (impl_reach.f k a0 a1 a2) (impl_reach.f (k+1) a0 a1 a2):=by
 intro a0 a1 a2 k
 obtain⟨ih0,ih1⟩:=impl_reach.mono_l k
 unfold impl_reach.f
 repeat' first
  | (with_reducible exact ih0 _ _ _)
  | (with_reducible exact ih1 _ _ _ _ _ _ _ _)
  | (with_reducible exact LeO.refl _)
  | (with_reducible exact LeO.none _)
  | (with_reducible refine LeO.ite ?_ ?_)
  | (with_reducible refine LeO.bind ?_ (fun _ => ?_))
  | exact ih0 _ _ _
  | exact ih1 _ _ _ _ _ _ _ _
  | exact LeO.none _
  | refine LeO.ite ?_ ?_
  | refine LeO.bind ?_ (fun _ => ?_)
def impl_reach.T8:Bool × List (List Nat × List Nat):=(true,[([],[]),([],[]),([],[]),([2],[2]),([1,3],[1,3]),([4],[4]),([0,5],[0,5]),([6],[6]),([7],[7]),([7],[7]),([8,6,0,1,2,3,4,5,6,7,8],[8]),([9,10,0,1,2,3,4,5,6,7,8,9,10],[9])])
def impl_reach.B8:List Nat:=[0,0,0,4,14,30,63,127,255,255,511,2047]
theorem impl_reach.tab8:rtab .any (opsOf Try.f91 8)=impl_reach.T8:=by kernel_rfl
theorem impl_reach.bits8:waitsOk impl_reach.T8.2 impl_reach.B8=true:=by kernel_rfl
def impl_reach.T14:Bool × List (List Nat × List Nat):=(true,[([],[]),([],[]),([],[]),([1,2],[1,2]),([3],[3]),([4],[4]),([],[]),([],[]),([],[]),([7,8],[7,8]),([9],[9]),([10],[10]),([],[]),([],[]),([0,5,0,1,2,3,4,5,11,12],[0,5]),([14,12,0,1,2,3,4,5,11,12],[12,14]),([6,11,0,1,2,3,4,5,6,7,8,9,10,11,12,13,14,15],[6,11]),([16,13,15,0,1,2,3,4,5,6,7,8,9,10,11,12,13,14,15],[13,16])])
def impl_reach.B14:List Nat:=[0,0,0,6,14,30,0,0,0,384,896,1920,0,0,8127,24511,65535,131071]
theorem impl_reach.tab14:rtab .any (opsOf Try.f91 14)=impl_reach.T14:=by kernel_rfl
theorem impl_reach.bits14:waitsOk impl_reach.T14.2 impl_reach.B14=true:=by kernel_rfl
set_option maxHeartbeats 8000000 in
set_option maxRecDepth 100000 in
theorem impl_reach.calls (k:Nat) (A0:Option Addr) (c0:Nat) (l0:List (S104)) (a1:Int) (a2:Int) (r1:List Int) (r2:List Int) (w:World) (hr0:Kd.C k104 w A0 l0.length l0) (hc0:l0.length≤c0) (h:impl_reach.f k l0 a1 a2=some (r1,r2)) :
  Calls Try.prog 91 #[.slice A0 l0.length c0,.int .i64 a1,.int .i64 a2] w fun e w' => ∃ v0_ v1_:Value,e=.returned (.tuple #[v0_,v1_])∧Kd.R (Kd.int .i64) 3 w' w.heap.size (fun k_=>some k_≠(v1_:Value).ownBlock) v0_ r1∧Kd.R (Kd.int .i64) 3 w' w.heap.size (fun k_=>some k_≠(v0_:Value).ownBlock) v1_ r2∧Below w.heap.size w w':=by
 have hu104:=Try.underlying104
 have HR0:=Aside0.mk hr0
 have HC0:=Aside0.mk hc0
 clear hr0 hc0
 have HB:=Aside0.mk (Below.refl w.heap.size w)
 have H:((slices_Repeat_int_int.f (([(-1)]:List Int)) 8).bind fun t236=>((slices_Repeat_int_int.f (([(-1)]:List Int)) 8).bind fun t242=>(if 0≤a1 then (if a1 < (t236.length:Int) then (impl_reach.l0 k l0 (t236.set (a1:Int).toNat a2) t242) else (none)) else (none))))=some (r1,r2):=h
 clear h
 obtain⟨y233,hy233⟩ : ∃ y_:List Int,y_=(([(-1)]:List Int)):=⟨_,rfl⟩
 replace H:((slices_Repeat_int_int.f y233 8).bind fun t236=>((slices_Repeat_int_int.f (([(-1)]:List Int)) 8).bind fun t242=>(if 0≤a1 then (if a1 < (t236.length:Int) then (impl_reach.l0 k l0 (t236.set (a1:Int).toNat a2) t242) else (none)) else (none))))=some (r1,r2):=by first|(rw[hy233];with_reducible exact H)|(have H2_:=(Option.bind_some _ _).symm.trans H;rw[hy233];with_reducible exact H2_)|(have H2_:=(Option.bind_some _ _).symm.trans H;with_reducible exact H2_)|with_reducible exact H|(rw[hy233];exact H)|exact H
 have Ny233:=Aside0.mk hy233
 clear hy233
 replace H:=Option.bind_eq_some_iff.mp H
 obtain⟨t236,A40,H⟩:=H
 replace H:((slices_Repeat_int_int.f (([(-1)]:List Int)) 8).bind fun t242=>(if 0≤a1 then (if a1 < (t236.length:Int) then (impl_reach.l0 k l0 (t236.set (a1:Int).toNat a2) t242) else (none)) else (none)))=some (r1,r2):=H
 have A4:=Aside0.mk A40
 clear A40
 obtain⟨y239,hy239⟩ : ∃ y_:List Int,y_=(([(-1)]:List Int)):=⟨_,rfl⟩
 replace H:((slices_Repeat_int_int.f y239 8).bind fun t242=>(if 0≤a1 then (if a1 < (t236.length:Int) then (impl_reach.l0 k l0 (t236.set (a1:Int).toNat a2) t242) else (none)) else (none)))=some (r1,r2):=by first|(rw[hy239];with_reducible exact H)|(have H2_:=(Option.bind_some _ _).symm.trans H;rw[hy239];with_reducible exact H2_)|(have H2_:=(Option.bind_some _ _).symm.trans H;with_reducible exact H2_)|with_reducible exact H|(rw[hy239];exact H)|exact H
 have Ny239:=Aside0.mk hy239
 clear hy239
 replace H:=Option.bind_eq_some_iff.mp H
 obtain⟨t242,A50,H⟩:=H
 replace H:(if 0≤a1 then (if a1 < (t236.length:Int) then (impl_reach.l0 k l0 (t236.set (a1:Int).toNat a2) t242) else (none)) else (none))=some (r1,r2):=H
 have A5:=Aside0.mk A50
 clear A50
 by_cases c6:0≤a1
 ·rw[if_pos c6] at H
  have c6b0:decide (0≤a1)=true:=decide_eq_true c6
  clear c6
  by_cases c7:a1 < (t236.length:Int)
  ·rw[if_pos c7] at H
   have c7b0:decide (a1 < (t236.length:Int))=true:=decide_eq_true c7
   clear c7
   obtain⟨y245,hy245⟩ : ∃ y_:List Int,y_=(t236.set (a1:Int).toNat a2):=⟨_,rfl⟩
   replace H:(impl_reach.l0 k l0 y245 t242)=some (r1,r2):=by first|(rw[hy245];with_reducible exact H)|(have H2_:=(Option.bind_some _ _).symm.trans H;rw[hy245];with_reducible exact H2_)|(have H2_:=(Option.bind_some _ _).symm.trans H;with_reducible exact H2_)|with_reducible exact H|(rw[hy245];exact H)|exact H
   have Ny245:=Aside0.mk hy245
   clear hy245
   have H':=Aside0.mk H
   clear H
   go_enter Try.func91,Try.ntmps91
   go_wp2_with (first|((with_reducible refine gate_dst (N:=16) rfl ?_);refine Kd.R_lit (Kd.int .i64) _ 3 ?hg (N:=16) ?hd (xs:=([(-1)]:List Int)) (inner:=[.int .i64 (-1)]) (ok:=fun _=>True) (okp:=fun _=>True) ?hr ?hp (fun _ hk=>hk) trivial (Below.refl _ _) (Nat.le_refl _) (by simp) ?_;(case hd=>rfl);(case hg=>rfl);(case hr=>first|(go_simp;done)|(go_simp;rfl));(case hp=>exact(Reps.one (show Kd.M (Kd.int .i64) _ _ _ (-1) [.int .i64 (-1)] from rfl) (Reps.none _ _)));intro v234 w9 ho10 hb hg_ hnew_;clear hg_ hnew_;(first|rw[← Ny233.out] at ho10|(simp only[Int.reduceToNat] at ho10;rw[← Ny233.out] at ho10));have n0_:=Aside0.mk (Kd.R_lower ho10 (below_size (bB)));have n1_:=Aside0.mk (below_step (bB) hb);clear HB;have HO235:=n0_;have HB:=n1_;clear n0_ n1_;clear hb ho10;obtain⟨Ao11,co11,eo11⟩:=Kd.R_slice HO235.out;subst eo11)|((with_reducible refine gate_callee (f:=147) rfl ?_);refine goesA (some 17) rfl rfl Try.func147 #[.slice Ao11 y233.length co11,.int .i64 8] rfl ?_;(with_reducible refine(slices_Repeat_int_int.calls _ _ y233 8 t236 _ ?side1 ?side2 A4.out).mono ?_);(case side1=>exact bT HO235.out);(case side2=>exact(Kd.R_reads' HO235.out).2.1);rintro e w12 ⟨v237,rfl,ho0,hb⟩;refine⟨_,rfl,?_⟩;have n0_:=Aside0.mk (Kd.R_elder' (bK HO235.out) (Kd.R_base ho0) hb);have n1_:=Aside0.mk (Kd.R_lower (Kd.R_new' ho0 (Kd.R_lt (bK HO235.out))) (below_size (bB)));have n2_:=Aside0.mk (below_step (bB) hb);clear HO235 HB;have HO235:=n0_;have HO238:=n1_;have HB:=n2_;clear n0_ n1_ n2_;(try clear hb);(try clear hb2);(try clear hk);(try clear hi);(try clear ho0))|((with_reducible refine gate_dst (N:=18) rfl ?_);refine Kd.R_lit (Kd.int .i64) _ 3 ?hg (N:=18) ?hd (xs:=([(-1)]:List Int)) (inner:=[.int .i64 (-1)]) (ok:=fun _=>True) (okp:=fun _=>True) ?hr ?hp (fun _ hk=>hk) trivial (Below.refl _ _) (Nat.le_refl _) (by simp) ?_;(case hd=>rfl);(case hg=>rfl);(case hr=>first|(go_simp;done)|(go_simp;rfl));(case hp=>exact(Reps.one (show Kd.M (Kd.int .i64) _ _ _ (-1) [.int .i64 (-1)] from rfl) (Reps.none _ _)));intro v240 w13 ho14 hb hg_ hnew_;clear hg_ hnew_;(first|rw[← Ny239.out] at ho14|(simp only[Int.reduceToNat] at ho14;rw[← Ny239.out] at ho14));have n0_:=Aside0.mk (Kd.R_elder' (bK HO235.out) (Kd.R_base ho14) hb);have n1_:=Aside0.mk (Kd.R_elder' (bK HO238.out) (Kd.R_base ho14) hb);have n2_:=Aside0.mk (Kd.R_lower (Kd.R_new' (Kd.R_new' ho14 (Kd.R_lt (bK HO235.out))) (Kd.R_lt (bK HO238.out))) (below_size (bB)));have n3_:=Aside0.mk (below_step (bB) hb);clear HO235 HO238 HB;have HO235:=n0_;have HO238:=n1_;have HO241:=n2_;have HB:=n3_;clear n0_ n1_ n2_ n3_;clear hb ho14;obtain⟨Ao15,co15,eo15⟩:=Kd.R_slice HO241.out;subst eo15)|((with_reducible refine gate_callee (f:=147) rfl ?_);refine goesA (some 19) rfl rfl Try.func147 #[.slice Ao15 y239.length co15,.int .i64 8] rfl ?_;(with_reducible refine(slices_Repeat_int_int.calls _ _ y239 8 t242 _ ?side1 ?side2 A5.out).mono ?_);(case side1=>exact bT HO241.out);(case side2=>exact(Kd.R_reads' HO241.out).2.1);rintro e w16 ⟨v243,rfl,ho0,hb⟩;refine⟨_,rfl,?_⟩;have n0_:=Aside0.mk (Kd.R_elder' (bK HO235.out) (Kd.R_base ho0) hb);have n1_:=Aside0.mk (Kd.R_elder' (bK HO238.out) (Kd.R_base ho0) hb);have n2_:=Aside0.mk (Kd.R_elder' (bK HO241.out) (Kd.R_base ho0) hb);have n3_:=Aside0.mk (Kd.R_lower (Kd.R_new' (Kd.R_new' (Kd.R_new' ho0 (Kd.R_lt (bK HO235.out))) (Kd.R_lt (bK HO238.out))) (Kd.R_lt (bK HO241.out))) (below_size (bB)));have n4_:=Aside0.mk (below_step (bB) hb);clear HO235 HO238 HO241 HB;have HO235:=n0_;have HO238:=n1_;have HO241:=n2_;have HO244:=n3_;have HB:=n4_;clear n0_ n1_ n2_ n3_ n4_;(try clear hb);(try clear hb2);(try clear hk);(try clear hi);(try clear ho0);have p8:0≤(a1:Int):=of_decide_eq_true (bD);have q8:(a1:Int) < ((t236.length:Int):Int):=of_decide_eq_true (bD);obtain⟨go8,co8,eo8,gb8,gl8,cl8,HG8⟩:=Kd.R_form HO238.out (by omega);(first|cases eo8|(injection eo8 with ea_ en_ ec_;(first|subst ea_|(injection ea_ with ea_;subst ea_));subst ec_;clear en_));have GB8:=Aside0.mk gb8;have GG8:=Aside0.mk HG8;clear gb8 gl8 HG8;obtain⟨hx8_0,hf8_0⟩:=Kd.R_celln 0 HO238.out (a1:Int) p8 q8;replace p8:=eq_true p8;replace q8:=eq_true q8;have n_:=Aside0.mk (Kd.R_mono (ok':=(fun k_=>some k_≠(.slice Ao11 y233.length co11:Value).ownBlock∧some k_≠(.slice Ao15 y239.length co15:Value).ownBlock∧some k_≠(v243:Value).ownBlock)) HO238.out (fun k_ hk=>⟨hk.1.1.2,⟨hk.1.2,hk.2⟩⟩));clear HO238;have HO238:=n_;clear n_;obtain⟨hy17_,hz17_⟩:=Kd.R_celln 0 HO238.out (a1:Int) (of_decide_eq_true (bD)) (of_decide_eq_true (bD));have HP17:=Kd.R_putg HO238.out (a1:Int) a2)|((with_reducible refine gate_store (t:=3) (p:=23) rfl ?_);refine store_event (t:=3) (p:=23) (v:=?vo_w18) (w1:=(w16.setCell ⟨go8,(a1:Int).toNat,none⟩ (.int .i64 a2))) ?hg ?ho ?hn ?hr ?_;(case ho=>rfl);(case hg=>rfl);(case hn=>rfl);(case hr=>first|(go_simp;done)|(go_simp;rfl));intro w18 hw;have hg:w16.grownBy w18 (some go8):=(by rw[hw];exact HP17.2);have hp_:Kd.R (Kd.int .i64) 3 w18 w.heap.size (fun k_=>some k_≠(.slice Ao11 y233.length co11:Value).ownBlock∧some k_≠(.slice Ao15 y239.length co15:Value).ownBlock∧some k_≠(v243:Value).ownBlock) (.slice (some ⟨go8,0,none⟩) t236.length co8) y245:=(by rw[hw,Ny245.out];exact HP17.1);clear HP17;have n0_:=Aside0.mk (Kd.R_after (v:=(.slice (some ⟨go8,0,none⟩) t236.length co8)) (v1:=(.slice (some ⟨go8,0,none⟩) t236.length co8)) (ok:=(fun k_=>some k_≠(.slice Ao15 y239.length co15:Value).ownBlock∧some k_≠(v243:Value).ownBlock)) (by(with_reducible repeat (first|apply Kd.R_alloc|apply Kd.R_drewN|apply Kd.R_drew));exact Kd.R_mono HO235.out (fun _ hk=>⟨⟨hk.1.2,hk.2⟩,hk.1.1.2⟩)) hg (.inl rfl));have n1_:=Aside0.mk (hp_);have n2_:=Aside0.mk (Kd.R_after (v:=(.slice (some ⟨go8,0,none⟩) t236.length co8)) (v1:=(.slice (some ⟨go8,0,none⟩) t236.length co8)) (ok:=(fun k_=>some k_≠(.slice Ao11 y233.length co11:Value).ownBlock∧some k_≠(v243:Value).ownBlock)) (by(with_reducible repeat (first|apply Kd.R_alloc|apply Kd.R_drewN|apply Kd.R_drew));exact Kd.R_mono HO241.out (fun _ hk=>⟨⟨hk.1.1.2,hk.2⟩,hk.1.2⟩)) hg (.inl rfl));have n3_:=Aside0.mk (Kd.R_after (v:=(.slice (some ⟨go8,0,none⟩) t236.length co8)) (v1:=(.slice (some ⟨go8,0,none⟩) t236.length co8)) (ok:=(fun k_=>some k_≠(.slice Ao11 y233.length co11:Value).ownBlock∧some k_≠(.slice Ao15 y239.length co15:Value).ownBlock)) (by(with_reducible repeat (first|apply Kd.R_alloc|apply Kd.R_drewN|apply Kd.R_drew));exact Kd.R_mono HO244.out (fun _ hk=>⟨⟨hk.1.1.2,hk.2⟩,hk.1.2⟩)) hg (.inl rfl));have n4_:=Aside0.mk ((by rw[hw];exact below_set (HB.out) GB8.out:Below w.heap.size w w18));clear HO235 HO238 HO241 HO244 HB;have HO235:=n0_;have HO238:=n1_;have HO241:=n2_;have HO244:=n3_;have HB:=n4_;clear n0_ n1_ n2_ n3_ n4_;clear hg hw hp_))
   go_loopg [] k (fun kq w' => ∃ (x8_1:List Int) (x9_1:List Int),Aside0 (impl_reach.l0 kq l0 x8_1 x9_1=some (r1,r2))∧Aside0 (kq≤k)∧Aside0 (Kd.R (Kd.int .i64) 3 w' w.heap.size (fun k_=>some k_≠(v243:Value).ownBlock) (.slice (some ⟨go8,0,none⟩) t236.length co8) x8_1)∧Aside0 (Kd.R (Kd.int .i64) 3 w' w.heap.size (fun k_=>some k_≠((.slice (some ⟨go8,0,none⟩) t236.length co8):Value).ownBlock) v243 x9_1)∧Aside0 (Below w.heap.size w w'))
   case atStart=>exact⟨(y245),(t242),H',⟨Nat.le_refl _⟩,⟨by(with_reducible repeat (first|apply Kd.R_alloc|apply Kd.R_drewN|apply Kd.R_drew));exact Kd.R_mono HO238.out (fun _ hk=>hk.2.2)⟩,⟨by(with_reducible repeat (first|apply Kd.R_alloc|apply Kd.R_drewN|apply Kd.R_drew));exact Kd.R_mono HO244.out (fun _ hk=>hk.2)⟩,⟨by repeat (first|(with_reducible first|exact HB.out|apply below_alloc|apply pw_below_drewN|apply below_drew1)|exact HB.out)⟩⟩
   case round =>
    clear H'
    try clear c1
    try clear p2
    try clear c6
    try clear c6b0
    try clear c7
    try clear c7b0
    try clear p8
    try clear q8
    try clear hx8
    try clear hf8
    try clear c9
    try clear c14
    try clear hx8_0
    try clear p8
    try clear q8
    obtain⟨x8_1,x9_1,HA,HK1,HO_8,HO_9,HB⟩:=hrel
    have hl8_1:=(Kd.R_reads' HO_8.out).1
    rw[hl8_1] at HO_8
    (try simp only[hl8_1])
    (try simp only[hl8_1] at HO_9)
    cases gk with
    | zero=>exact absurd HA.out (by simp[impl_reach.l0])
    | succ k1 =>
     have H:=HA.out
     clear HA
     simp only[impl_reach.l0] at H
     have H':=Aside0.mk H
     clear H
     go_wp2
     go_loopg [10,11,26] k1 (fun kq v10 v11 v26 w' => ∃ (x10_2:Int) (x11_2:Int) (x26_2:Int),v10=.int .i64 x10_2∧v11=.int .i64 x11_2∧v26=.int .i64 x26_2∧Aside0 (impl_reach.l1 kq l0 x8_1 x9_1 x10_2 x11_2 l0 (l0.length:Int) x26_2=some (r1,r2))∧Aside0 (kq≤k1)∧Aside0 (Kd.R (Kd.int .i64) 3 w' w.heap.size (fun k_=>some k_≠(v243:Value).ownBlock) (.slice (some ⟨go8,0,none⟩) x8_1.length co8) x8_1)∧Aside0 (Kd.R (Kd.int .i64) 3 w' w.heap.size (fun k_=>some k_≠((.slice (some ⟨go8,0,none⟩) x8_1.length co8):Value).ownBlock) v243 x9_1)∧Aside0 (Below w.heap.size w w'))
     case atStart=>exact⟨((-1)),(0),(0),(bR),(bR),(bR),H',⟨Nat.le_refl _⟩,⟨by(try simp only[hl8_1]);(with_reducible repeat (first|apply Kd.R_alloc|apply Kd.R_drewN|apply Kd.R_drew));exact HO_8.out⟩,⟨by(try simp only[hl8_1]);(with_reducible repeat (first|apply Kd.R_alloc|apply Kd.R_drewN|apply Kd.R_drew));exact HO_9.out⟩,⟨by repeat (first|(with_reducible first|exact HB.out|apply below_alloc|apply pw_below_drewN|apply below_drew1)|exact HB.out)⟩⟩
     case round =>
      clear H'
      try clear c1
      try clear p2
      try clear c6
      try clear c6b0
      try clear c7
      try clear c7b0
      try clear p8
      try clear q8
      try clear hx8
      try clear hf8
      try clear c9
      try clear c14
      try clear hx8_0
      try clear p2
      try clear p8
      try clear q8
      obtain⟨x10_2,x11_2,x26_2,rfl,rfl,rfl,HA,HK2,HO_8,HO_9,HB⟩:=hrel
      cases gk with
      | zero=>exact absurd HA.out (by simp[impl_reach.l1])
      | succ k2 =>
       have H:=HA.out
       clear HA
       simp only[impl_reach.l1] at H
       by_cases c19:x26_2 < (l0.length:Int)
       ·rw[if_pos c19] at H
        have c19b0:decide (x26_2 < (l0.length:Int))=true:=decide_eq_true c19
        clear c19
        by_cases c20:0≤x26_2
        ·rw[if_pos c20] at H
         have c20b0:decide (0≤x26_2)=true:=decide_eq_true c20
         clear c20
         by_cases c21:x26_2 < (l0.length:Int)
         ·rw[if_pos c21] at H
          have c21b0:decide (x26_2 < (l0.length:Int))=true:=decide_eq_true c21
          clear c21
          by_cases c22:0≤((rd_T104 l0 x26_2).f0)
          ·rw[if_pos c22] at H
           have c22b0:decide (0≤((rd_T104 l0 x26_2).f0))=true:=decide_eq_true c22
           clear c22
           by_cases c23:((rd_T104 l0 x26_2).f0) < (x8_1.length:Int)
           ·rw[if_pos c23] at H
            have c23b0:decide (((rd_T104 l0 x26_2).f0) < (x8_1.length:Int))=true:=decide_eq_true c23
            clear c23
            by_cases c24:(rd x8_1 ((rd_T104 l0 x26_2).f0)) < 0
            ·rw[if_pos c24] at H
             have c24b0:decide ((rd x8_1 ((rd_T104 l0 x26_2).f0)) < 0)=true:=decide_eq_true c24
             clear c24
             have H':=Aside0.mk H
             clear H
             have p250:0≤(x26_2:Int):=of_decide_eq_true (bD)
             have q250:x26_2 < (l0.length:Int):=of_decide_eq_true (bD)
             obtain⟨ad250,e250,hx250_0,hx250_1,hx250_2,hx250_3,hx250_4⟩:=at_T104 HR0.out x26_2 p250 q250
             cases e250
             replace hx250_0:=(HB.out.cell (World.block_lt_of_cell? w _ hx250_0)).trans hx250_0
             replace hx250_1:=(HB.out.cell (World.block_lt_of_cell? w _ hx250_1)).trans hx250_1
             replace hx250_2:=(HB.out.cell (World.block_lt_of_cell? w _ hx250_2)).trans hx250_2
             replace hx250_3:=(HB.out.cell (World.block_lt_of_cell? w _ hx250_3)).trans hx250_3
             replace hx250_4:=(HB.out.cell (World.block_lt_of_cell? w _ hx250_4)).trans hx250_4
             replace p250:=eq_true p250
             replace q250:=eq_true q250
             go_wp2_with (first|((with_reducible refine gate_dst (N:=13) rfl ?_);refine box_event ?hg (N:=13) ?hd (cs:=#[.int .i64 0,.int .i64 0,.int .i64 0,.int .i64 0,.int .i64 0]) (t:=104) ?hr ?_;(case hd=>rfl);(case hg=>rfl);(case hr=>first|(go_simp;done)|(go_simp;rfl));intro gb251 hg w25 hbox hb;have n0_:=Aside0.mk (Kd.R_below (bK HO_8.out) hb);have n1_:=Aside0.mk (Kd.R_below (bK HO_9.out) hb);have n2_:=Aside0.mk (below_step (bB) hb);have n3_:=Aside0.mk (hbox);have n4_:=Aside0.mk ((bG:w.heap.size≤gb251));have n5_:=Aside0.mk ((bG:w.heap.size≤gb251));clear HO_8 HO_9 HB;have HO_8:=n0_;have HO_9:=n1_;have HB:=n2_;have BK251:=n3_;have GW251:=n4_;have GE251:=n5_;clear n0_ n1_ n2_ n3_ n4_ n5_;clear hb hbox hg;obtain⟨hcz26_0,hcz26_1,hcz26_2,hcz26_3,hcz26_4⟩:=cC5 BK251.out;obtain⟨hfz26_0,hfz26_1,hfz26_2,hfz26_3,hfz26_4⟩:=cF5 BK251.out;have p252:0≤(((rd_T104 l0 x26_2).f0):Int):=of_decide_eq_true (bD);have q252:((rd_T104 l0 x26_2).f0) < (x8_1.length:Int):=of_decide_eq_true (bD);obtain⟨ad252,e252,hx252_0⟩:=Kd.at_int (Kd.R_reads' HO_8.out).2.2 ((rd_T104 l0 x26_2).f0) p252 q252;obtain rfl:(⟨go8,0,none⟩:Addr)=ad252:=(by injection e252);(first|simp only[add_plain] at hx252_0|simp only[add_at] at hx252_0|simp only[Addr.add,Nat.zero_add] at hx252_0|skip);have hn252_0:(⟨go8,0,none⟩:Addr).block≠gb251:=Kd.own_blk (Kd.R_ne HO_8.out BK251.out (by decide));have hn252_1:(⟨go8,0,none⟩:Addr).block≠gb251:=Kd.own_blk (Kd.R_ne HO_8.out BK251.out (by decide));have hn252_2:(⟨go8,0,none⟩:Addr).block≠gb251:=Kd.own_blk (Kd.R_ne HO_8.out BK251.out (by decide));have hn252_3:(⟨go8,0,none⟩:Addr).block≠gb251:=Kd.own_blk (Kd.R_ne HO_8.out BK251.out (by decide));have hn252_4:(⟨go8,0,none⟩:Addr).block≠gb251:=Kd.own_blk (Kd.R_ne HO_8.out BK251.out (by decide));replace hx252_0:=(cell_far (p:=⟨gb251,0,none⟩) (bA hn252_0) (.int .i64 ((rd_T104 l0 x26_2).f0))).trans hx252_0;replace hx252_0:=(cell_far (p:=⟨gb251,1,none⟩) (bA hn252_1) (.int .i64 ((rd_T104 l0 x26_2).f1))).trans hx252_0;replace hx252_0:=(cell_far (p:=⟨gb251,2,none⟩) (bA hn252_2) (.int .i64 ((rd_T104 l0 x26_2).f2))).trans hx252_0;replace hx252_0:=(cell_far (p:=⟨gb251,3,none⟩) (bA hn252_3) (.int .i64 ((rd_T104 l0 x26_2).f3))).trans hx252_0;replace hx252_0:=(cell_far (p:=⟨gb251,4,none⟩) (bA hn252_4) (.int .i64 ((rd_T104 l0 x26_2).f4))).trans hx252_0;clear hn252_0 hn252_1 hn252_2 hn252_3 hn252_4;replace p252:=eq_true p252;replace q252:=eq_true q252))
             go_roundg k2
             case measure=>have:=HK1.out;have:=HK2.out;omega
             case rel=>exact⟨(x10_2),(x11_2),(wrap64 (x26_2+1)),(bR),(bR),(bR),H',⟨by have:=HK1.out;have:=HK2.out;omega⟩,⟨by(try simp only[hl8_1]);(with_reducible repeat (first|apply Kd.R_alloc|apply Kd.R_drewN|apply Kd.R_drew));exact Kd.R_mono (Kd.R_far (p:=⟨gb251,4,none⟩) (Kd.R_far (p:=⟨gb251,3,none⟩) (Kd.R_far (p:=⟨gb251,2,none⟩) (Kd.R_far (p:=⟨gb251,1,none⟩) (Kd.R_far (p:=⟨gb251,0,none⟩) (Kd.R_types HO_8.out BK251.out (by decide)) (fun _ hk=>hk.2) (.int .i64 ((rd_T104 l0 x26_2).f0))) (fun _ hk=>hk.2) (.int .i64 ((rd_T104 l0 x26_2).f1))) (fun _ hk=>hk.2) (.int .i64 ((rd_T104 l0 x26_2).f2))) (fun _ hk=>hk.2) (.int .i64 ((rd_T104 l0 x26_2).f3))) (fun _ hk=>hk.2) (.int .i64 ((rd_T104 l0 x26_2).f4))) (fun _ hk=>hk.1)⟩,⟨by(try simp only[hl8_1]);(with_reducible repeat (first|apply Kd.R_alloc|apply Kd.R_drewN|apply Kd.R_drew));exact Kd.R_mono (Kd.R_far (p:=⟨gb251,4,none⟩) (Kd.R_far (p:=⟨gb251,3,none⟩) (Kd.R_far (p:=⟨gb251,2,none⟩) (Kd.R_far (p:=⟨gb251,1,none⟩) (Kd.R_far (p:=⟨gb251,0,none⟩) (Kd.R_types HO_9.out BK251.out (by decide)) (fun _ hk=>hk.2) (.int .i64 ((rd_T104 l0 x26_2).f0))) (fun _ hk=>hk.2) (.int .i64 ((rd_T104 l0 x26_2).f1))) (fun _ hk=>hk.2) (.int .i64 ((rd_T104 l0 x26_2).f2))) (fun _ hk=>hk.2) (.int .i64 ((rd_T104 l0 x26_2).f3))) (fun _ hk=>hk.2) (.int .i64 ((rd_T104 l0 x26_2).f4))) (fun _ hk=>hk.1)⟩,⟨bS GE251.out⟩⟩
            ·rw[if_neg c24] at H
             have c24b0:decide ((rd x8_1 ((rd_T104 l0 x26_2).f0)) < 0)=false:=decide_eq_false c24
             clear c24
             replace H:=Option.bind_eq_some_iff.mp H
             obtain⟨⟨t254,t255⟩,A270,H⟩:=H
             replace H:(if t255=true then (if 0≤((rd_T104 l0 x26_2).f1) then (if ((rd_T104 l0 x26_2).f1) < (x8_1.length:Int) then (if (rd x8_1 ((rd_T104 l0 x26_2).f1)) < 0 then (if x10_2 < 0 then (impl_reach.l1 k2 l0 x8_1 x9_1 x26_2 t254 l0 (l0.length:Int) (wrap64 (x26_2+1))) else (if t254 < x11_2 then (impl_reach.l1 k2 l0 x8_1 x9_1 x26_2 t254 l0 (l0.length:Int) (wrap64 (x26_2+1))) else (impl_reach.l1 k2 l0 x8_1 x9_1 x10_2 x11_2 l0 (l0.length:Int) (wrap64 (x26_2+1))))) else (if t254 < (rd x8_1 ((rd_T104 l0 x26_2).f1)) then (if x10_2 < 0 then (impl_reach.l1 k2 l0 x8_1 x9_1 x26_2 t254 l0 (l0.length:Int) (wrap64 (x26_2+1))) else (if t254 < x11_2 then (impl_reach.l1 k2 l0 x8_1 x9_1 x26_2 t254 l0 (l0.length:Int) (wrap64 (x26_2+1))) else (impl_reach.l1 k2 l0 x8_1 x9_1 x10_2 x11_2 l0 (l0.length:Int) (wrap64 (x26_2+1))))) else (impl_reach.l1 k2 l0 x8_1 x9_1 x10_2 x11_2 l0 (l0.length:Int) (wrap64 (x26_2+1))))) else (none)) else (none)) else (impl_reach.l1 k2 l0 x8_1 x9_1 x10_2 x11_2 l0 (l0.length:Int) (wrap64 (x26_2+1))))=some (r1,r2):=H
             have A27:=Aside0.mk A270
             clear A270
             by_cases c28:t255=true
             ·subst c28
              have H1:(if 0≤((rd_T104 l0 x26_2).f1) then (if ((rd_T104 l0 x26_2).f1) < (x8_1.length:Int) then (if (rd x8_1 ((rd_T104 l0 x26_2).f1)) < 0 then (if x10_2 < 0 then (impl_reach.l1 k2 l0 x8_1 x9_1 x26_2 t254 l0 (l0.length:Int) (wrap64 (x26_2+1))) else (if t254 < x11_2 then (impl_reach.l1 k2 l0 x8_1 x9_1 x26_2 t254 l0 (l0.length:Int) (wrap64 (x26_2+1))) else (impl_reach.l1 k2 l0 x8_1 x9_1 x10_2 x11_2 l0 (l0.length:Int) (wrap64 (x26_2+1))))) else (if t254 < (rd x8_1 ((rd_T104 l0 x26_2).f1)) then (if x10_2 < 0 then (impl_reach.l1 k2 l0 x8_1 x9_1 x26_2 t254 l0 (l0.length:Int) (wrap64 (x26_2+1))) else (if t254 < x11_2 then (impl_reach.l1 k2 l0 x8_1 x9_1 x26_2 t254 l0 (l0.length:Int) (wrap64 (x26_2+1))) else (impl_reach.l1 k2 l0 x8_1 x9_1 x10_2 x11_2 l0 (l0.length:Int) (wrap64 (x26_2+1))))) else (impl_reach.l1 k2 l0 x8_1 x9_1 x10_2 x11_2 l0 (l0.length:Int) (wrap64 (x26_2+1))))) else (none)) else (none))=some (r1,r2):=by rw[if_pos rfl] at H;exact H
              clear H
              have H:=H1
              clear H1
              by_cases c29:0≤((rd_T104 l0 x26_2).f1)
              ·rw[if_pos c29] at H
               have c29b0:decide (0≤((rd_T104 l0 x26_2).f1))=true:=decide_eq_true c29
               clear c29
               by_cases c30:((rd_T104 l0 x26_2).f1) < (x8_1.length:Int)
               ·rw[if_pos c30] at H
                have c30b0:decide (((rd_T104 l0 x26_2).f1) < (x8_1.length:Int))=true:=decide_eq_true c30
                clear c30
                by_cases c31:(rd x8_1 ((rd_T104 l0 x26_2).f1)) < 0
                ·rw[if_pos c31] at H
                 have c31b0:decide ((rd x8_1 ((rd_T104 l0 x26_2).f1)) < 0)=true:=decide_eq_true c31
                 clear c31
                 by_cases c32:x10_2 < 0
                 ·rw[if_pos c32] at H
                  have c32b0:decide (x10_2 < 0)=true:=decide_eq_true c32
                  clear c32
                  have H':=Aside0.mk H
                  clear H
                  have p250:0≤(x26_2:Int):=of_decide_eq_true (bD)
                  have q250:x26_2 < (l0.length:Int):=of_decide_eq_true (bD)
                  obtain⟨ad250,e250,hx250_0,hx250_1,hx250_2,hx250_3,hx250_4⟩:=at_T104 HR0.out x26_2 p250 q250
                  cases e250
                  replace hx250_0:=(HB.out.cell (World.block_lt_of_cell? w _ hx250_0)).trans hx250_0
                  replace hx250_1:=(HB.out.cell (World.block_lt_of_cell? w _ hx250_1)).trans hx250_1
                  replace hx250_2:=(HB.out.cell (World.block_lt_of_cell? w _ hx250_2)).trans hx250_2
                  replace hx250_3:=(HB.out.cell (World.block_lt_of_cell? w _ hx250_3)).trans hx250_3
                  replace hx250_4:=(HB.out.cell (World.block_lt_of_cell? w _ hx250_4)).trans hx250_4
                  replace p250:=eq_true p250
                  replace q250:=eq_true q250
                  try go_wp2_with (first|((with_reducible refine gate_dst (N:=13) rfl ?_);refine box_event ?hg (N:=13) ?hd (cs:=#[.int .i64 0,.int .i64 0,.int .i64 0,.int .i64 0,.int .i64 0]) (t:=104) ?hr ?_;(case hd=>rfl);(case hg=>rfl);(case hr=>first|(go_simp;done)|(go_simp;rfl));intro gb251 hg w33 hbox hb;have n0_:=Aside0.mk (Kd.R_below (bK HO_8.out) hb);have n1_:=Aside0.mk (Kd.R_below (bK HO_9.out) hb);have n2_:=Aside0.mk (below_step (bB) hb);have n3_:=Aside0.mk (hbox);have n4_:=Aside0.mk ((bG:w.heap.size≤gb251));have n5_:=Aside0.mk ((bG:w.heap.size≤gb251));clear HO_8 HO_9 HB;have HO_8:=n0_;have HO_9:=n1_;have HB:=n2_;have BK251:=n3_;have GW251:=n4_;have GE251:=n5_;clear n0_ n1_ n2_ n3_ n4_ n5_;clear hb hbox hg;obtain⟨hcz34_0,hcz34_1,hcz34_2,hcz34_3,hcz34_4⟩:=cC5 BK251.out;obtain⟨hfz34_0,hfz34_1,hfz34_2,hfz34_3,hfz34_4⟩:=cF5 BK251.out;have p252:0≤(((rd_T104 l0 x26_2).f0):Int):=of_decide_eq_true (bD);have q252:((rd_T104 l0 x26_2).f0) < (x8_1.length:Int):=of_decide_eq_true (bD);obtain⟨ad252,e252,hx252_0⟩:=Kd.at_int (Kd.R_reads' HO_8.out).2.2 ((rd_T104 l0 x26_2).f0) p252 q252;obtain rfl:(⟨go8,0,none⟩:Addr)=ad252:=(by injection e252);(first|simp only[add_plain] at hx252_0|simp only[add_at] at hx252_0|simp only[Addr.add,Nat.zero_add] at hx252_0|skip);have hn252_0:(⟨go8,0,none⟩:Addr).block≠gb251:=Kd.own_blk (Kd.R_ne HO_8.out BK251.out (by decide));have hn252_1:(⟨go8,0,none⟩:Addr).block≠gb251:=Kd.own_blk (Kd.R_ne HO_8.out BK251.out (by decide));have hn252_2:(⟨go8,0,none⟩:Addr).block≠gb251:=Kd.own_blk (Kd.R_ne HO_8.out BK251.out (by decide));have hn252_3:(⟨go8,0,none⟩:Addr).block≠gb251:=Kd.own_blk (Kd.R_ne HO_8.out BK251.out (by decide));have hn252_4:(⟨go8,0,none⟩:Addr).block≠gb251:=Kd.own_blk (Kd.R_ne HO_8.out BK251.out (by decide));replace hx252_0:=(cell_far (p:=⟨gb251,0,none⟩) (bA hn252_0) (.int .i64 ((rd_T104 l0 x26_2).f0))).trans hx252_0;replace hx252_0:=(cell_far (p:=⟨gb251,1,none⟩) (bA hn252_1) (.int .i64 ((rd_T104 l0 x26_2).f1))).trans hx252_0;replace hx252_0:=(cell_far (p:=⟨gb251,2,none⟩) (bA hn252_2) (.int .i64 ((rd_T104 l0 x26_2).f2))).trans hx252_0;replace hx252_0:=(cell_far (p:=⟨gb251,3,none⟩) (bA hn252_3) (.int .i64 ((rd_T104 l0 x26_2).f3))).trans hx252_0;replace hx252_0:=(cell_far (p:=⟨gb251,4,none⟩) (bA hn252_4) (.int .i64 ((rd_T104 l0 x26_2).f4))).trans hx252_0;clear hn252_0 hn252_1 hn252_2 hn252_3 hn252_4;replace p252:=eq_true p252;replace q252:=eq_true q252))
                  have n0_:Aside0 (Kd.R (Kd.int .i64) 3 (((((w33.setCell ⟨gb251,0,none⟩ (.int .i64 ((rd_T104 l0 x26_2).f0))).setCell ⟨gb251,1,none⟩ (.int .i64 ((rd_T104 l0 x26_2).f1))).setCell ⟨gb251,2,none⟩ (.int .i64 ((rd_T104 l0 x26_2).f2))).setCell ⟨gb251,3,none⟩ (.int .i64 ((rd_T104 l0 x26_2).f3))).setCell ⟨gb251,4,none⟩ (.int .i64 ((rd_T104 l0 x26_2).f4))) w.heap.size (fun k_=>some k_≠(v243:Value).ownBlock) (.slice (some ⟨go8,0,none⟩) x8_1.length co8) x8_1):=⟨by(with_reducible repeat (first|apply Kd.R_alloc|apply Kd.R_drewN|apply Kd.R_drew));exact Kd.R_mono (Kd.R_far (p:=⟨gb251,4,none⟩) (Kd.R_far (p:=⟨gb251,3,none⟩) (Kd.R_far (p:=⟨gb251,2,none⟩) (Kd.R_far (p:=⟨gb251,1,none⟩) (Kd.R_far (p:=⟨gb251,0,none⟩) (Kd.R_types HO_8.out BK251.out (by decide)) (fun _ hk=>hk.2) (.int .i64 ((rd_T104 l0 x26_2).f0))) (fun _ hk=>hk.2) (.int .i64 ((rd_T104 l0 x26_2).f1))) (fun _ hk=>hk.2) (.int .i64 ((rd_T104 l0 x26_2).f2))) (fun _ hk=>hk.2) (.int .i64 ((rd_T104 l0 x26_2).f3))) (fun _ hk=>hk.2) (.int .i64 ((rd_T104 l0 x26_2).f4))) (fun _ hk=>hk.1)⟩
                  have n1_:Aside0 (Kd.R (Kd.int .i64) 3 (((((w33.setCell ⟨gb251,0,none⟩ (.int .i64 ((rd_T104 l0 x26_2).f0))).setCell ⟨gb251,1,none⟩ (.int .i64 ((rd_T104 l0 x26_2).f1))).setCell ⟨gb251,2,none⟩ (.int .i64 ((rd_T104 l0 x26_2).f2))).setCell ⟨gb251,3,none⟩ (.int .i64 ((rd_T104 l0 x26_2).f3))).setCell ⟨gb251,4,none⟩ (.int .i64 ((rd_T104 l0 x26_2).f4))) w.heap.size (fun k_=>some k_≠(.slice (some ⟨go8,0,none⟩) x8_1.length co8:Value).ownBlock) v243 x9_1):=⟨by(with_reducible repeat (first|apply Kd.R_alloc|apply Kd.R_drewN|apply Kd.R_drew));exact Kd.R_mono (Kd.R_far (p:=⟨gb251,4,none⟩) (Kd.R_far (p:=⟨gb251,3,none⟩) (Kd.R_far (p:=⟨gb251,2,none⟩) (Kd.R_far (p:=⟨gb251,1,none⟩) (Kd.R_far (p:=⟨gb251,0,none⟩) (Kd.R_types HO_9.out BK251.out (by decide)) (fun _ hk=>hk.2) (.int .i64 ((rd_T104 l0 x26_2).f0))) (fun _ hk=>hk.2) (.int .i64 ((rd_T104 l0 x26_2).f1))) (fun _ hk=>hk.2) (.int .i64 ((rd_T104 l0 x26_2).f2))) (fun _ hk=>hk.2) (.int .i64 ((rd_T104 l0 x26_2).f3))) (fun _ hk=>hk.2) (.int .i64 ((rd_T104 l0 x26_2).f4))) (fun _ hk=>hk.1)⟩
                  have n2_:Aside0 ((((((w33.setCell ⟨gb251,0,none⟩ (.int .i64 ((rd_T104 l0 x26_2).f0))).setCell ⟨gb251,1,none⟩ (.int .i64 ((rd_T104 l0 x26_2).f1))).setCell ⟨gb251,2,none⟩ (.int .i64 ((rd_T104 l0 x26_2).f2))).setCell ⟨gb251,3,none⟩ (.int .i64 ((rd_T104 l0 x26_2).f3))).setCell ⟨gb251,4,none⟩ (.int .i64 ((rd_T104 l0 x26_2).f4))).heap[gb251]?=some (.cells #[.int .i64 ((rd_T104 l0 x26_2).f0),.int .i64 ((rd_T104 l0 x26_2).f1),.int .i64 ((rd_T104 l0 x26_2).f2),.int .i64 ((rd_T104 l0 x26_2).f3),.int .i64 ((rd_T104 l0 x26_2).f4)] 104 (0,0))):=⟨by(with_reducible repeat (first|refine blk_drewN ?_ _|refine blk_drew ?_|refine blk_alloc ?_ _));refine blk_put (cs:=#[.int .i64 ((rd_T104 l0 x26_2).f0),.int .i64 ((rd_T104 l0 x26_2).f1),.int .i64 ((rd_T104 l0 x26_2).f2),.int .i64 ((rd_T104 l0 x26_2).f3),.int .i64 0]) ?_ 4 _ rfl;(with_reducible repeat (first|refine blk_drewN ?_ _|refine blk_drew ?_|refine blk_alloc ?_ _));refine blk_put (cs:=#[.int .i64 ((rd_T104 l0 x26_2).f0),.int .i64 ((rd_T104 l0 x26_2).f1),.int .i64 ((rd_T104 l0 x26_2).f2),.int .i64 0,.int .i64 0]) ?_ 3 _ rfl;(with_reducible repeat (first|refine blk_drewN ?_ _|refine blk_drew ?_|refine blk_alloc ?_ _));refine blk_put (cs:=#[.int .i64 ((rd_T104 l0 x26_2).f0),.int .i64 ((rd_T104 l0 x26_2).f1),.int .i64 0,.int .i64 0,.int .i64 0]) ?_ 2 _ rfl;(with_reducible repeat (first|refine blk_drewN ?_ _|refine blk_drew ?_|refine blk_alloc ?_ _));refine blk_put (cs:=#[.int .i64 ((rd_T104 l0 x26_2).f0),.int .i64 0,.int .i64 0,.int .i64 0,.int .i64 0]) ?_ 1 _ rfl;(with_reducible repeat (first|refine blk_drewN ?_ _|refine blk_drew ?_|refine blk_alloc ?_ _));refine blk_put (cs:=#[.int .i64 0,.int .i64 0,.int .i64 0,.int .i64 0,.int .i64 0]) ?_ 0 _ rfl;(with_reducible repeat (first|refine blk_drewN ?_ _|refine blk_drew ?_|refine blk_alloc ?_ _));exact BK251.out⟩
                  have n3_:Aside0 (Below w.heap.size w (((((w33.setCell ⟨gb251,0,none⟩ (.int .i64 ((rd_T104 l0 x26_2).f0))).setCell ⟨gb251,1,none⟩ (.int .i64 ((rd_T104 l0 x26_2).f1))).setCell ⟨gb251,2,none⟩ (.int .i64 ((rd_T104 l0 x26_2).f2))).setCell ⟨gb251,3,none⟩ (.int .i64 ((rd_T104 l0 x26_2).f3))).setCell ⟨gb251,4,none⟩ (.int .i64 ((rd_T104 l0 x26_2).f4)))):=⟨bS GE251.out⟩
                  (try clear HO_8)
                  (try clear HO_9)
                  (try clear BK251)
                  (try clear HB)
                  generalize (((((w33.setCell ⟨gb251,0,none⟩ (.int .i64 ((rd_T104 l0 x26_2).f0))).setCell ⟨gb251,1,none⟩ (.int .i64 ((rd_T104 l0 x26_2).f1))).setCell ⟨gb251,2,none⟩ (.int .i64 ((rd_T104 l0 x26_2).f2))).setCell ⟨gb251,3,none⟩ (.int .i64 ((rd_T104 l0 x26_2).f3))).setCell ⟨gb251,4,none⟩ (.int .i64 ((rd_T104 l0 x26_2).f4)))=w35 at n0_ n1_ n2_ n3_ ⊢
                  have HO_8:=n0_
                  have HO_9:=n1_
                  have BK251:=n2_
                  have HB:=n3_
                  clear n0_ n1_ n2_ n3_
                  (try (rw[drewN_self w35];generalize hq_:World.drewN w35 _=w35;have n0_:=Aside0.mk (Kd.R_at hq_ HO_8.out);have n1_:=Aside0.mk (Kd.R_at hq_ HO_9.out);have n2_:=Aside0.mk (blk_at hq_ BK251.out);have n3_:=Aside0.mk (below_at hq_ HB.out);clear hq_ HO_8 HO_9 BK251 HB;have HO_8:=n0_;have HO_9:=n1_;have BK251:=n2_;have HB:=n3_;clear n0_ n1_ n2_ n3_))
                  have n0_:=Aside0.mk (Kd.R_drew HO_8.out)
                  have n1_:=Aside0.mk (Kd.R_drew HO_9.out)
                  have n2_:=Aside0.mk (blk_drew BK251.out)
                  have n3_:=Aside0.mk (below_drew1 HB.out)
                  clear HO_8 HO_9 BK251 HB
                  have HO_8:=n0_
                  have HO_9:=n1_
                  have BK251:=n2_
                  have HB:=n3_
                  clear n0_ n1_ n2_ n3_
                  have p253:0≤(((rd_T104 l0 x26_2).f0):Int):=of_decide_eq_true (bD)
                  have q253:((rd_T104 l0 x26_2).f0) < (x8_1.length:Int):=of_decide_eq_true (bD)
                  obtain⟨ad253,e253,hx253_0⟩:=Kd.at_int (Kd.R_reads' HO_8.out).2.2 ((rd_T104 l0 x26_2).f0) p253 q253
                  obtain rfl:(⟨go8,0,none⟩:Addr)=ad253:=(by injection e253)
                  (first|simp only[add_plain] at hx253_0|simp only[add_at] at hx253_0|simp only[Addr.add,Nat.zero_add] at hx253_0|skip)
                  replace p253:=eq_true p253
                  replace q253:=eq_true q253
                  refine start_ (n:=12) (S:=fun w'=>w'.cell? ⟨gb251,0,none⟩=some (.int .i64 ((rd_T104 l0 x26_2).f0))∧w'.cell? ⟨gb251,1,none⟩=some (.int .i64 ((rd_T104 l0 x26_2).f1))∧w'.cell? ⟨gb251,2,none⟩=some (.int .i64 ((rd_T104 l0 x26_2).f2))∧w'.cell? ⟨gb251,3,none⟩=some (.int .i64 ((rd_T104 l0 x26_2).f3))∧w'.cell? ⟨gb251,4,none⟩=some (.int .i64 ((rd_T104 l0 x26_2).f4))∧w'.cell? ⟨go8,(((rd_T104 l0 x26_2).f0)).toNat,none⟩=some (.int .i64 (rd x8_1 ((rd_T104 l0 x26_2).f0)))) (ds:=[]) #[false,false,false,false,false,false,false,false,false,false,false,false] (by kernel_rfl) rfl rfl ⟨(blk_cell BK251.out 0).trans rfl,(blk_cell BK251.out 1).trans rfl,(blk_cell BK251.out 2).trans rfl,(blk_cell BK251.out 3).trans rfl,(blk_cell BK251.out 4).trans rfl,hx253_0⟩ (fun hHeld => ?_);refine with_tabW impl_reach.tab8 impl_reach.bits8 (fun HT_ HW_ => ?_)
                  generalize w35.drew=w36 at HO_8 HO_9 BK251 HB hx253_0 hHeld ⊢
                  refine pure_ (i:=1) (N:=some 39) (v:=?_) (a':=?_) #[false,true,false,false,false,false,false,false,false,false,false,false] rfl rfl (any_of HT_.out (by kernel_rfl)) (fun _ _ _ h=>h) (Or.inl ⟨by rfl,?_⟩) ?_ ?_
                  rotate_left
                  ·intro w'
                   go_simp
                   with_reducible rfl
                  rotate_left
                  ·simp only[Act.put,List.setIfInBounds_toArray,List.set_cons_zero,List.set_cons_succ,i64_w,i32_w]
                   rfl
                  refine pure_ (i:=2) (N:=some 40) (v:=?_) (a':=?_) #[false,true,true,false,false,false,false,false,false,false,false,false] rfl rfl (any_of HT_.out (by kernel_rfl)) (fun _ _ _ h=>h) (Or.inl ⟨by rfl,?_⟩) ?_ ?_
                  rotate_left
                  ·intro w'
                   go_simp
                   with_reducible rfl
                  rotate_left
                  ·simp only[Act.put,List.setIfInBounds_toArray,List.set_cons_zero,List.set_cons_succ,i64_w,i32_w]
                   rfl
                  refine take_ (i:=0) (N:=some 38) (v:=?_) (a':=?_) #[true,true,true,false,false,false,false,false,false,false,false,false] rfl rfl (take_ofW HT_.out HW_.out (by kernel_rfl)) (fun _ _ _ h=>h) (Or.inl ⟨by rfl,?_⟩) hHeld ?_ ?_
                  rotate_left
                  ·rintro w' ⟨s0,s1,s2,s3,s4,s5⟩
                   go_simp
                   with_reducible rfl
                  rotate_left
                  ·simp only[Act.put,List.setIfInBounds_toArray,List.set_cons_zero,List.set_cons_succ,i64_w,i32_w]
                   rfl
                  refine take_ (i:=3) (N:=some 41) (v:=?_) (a':=?_) #[true,true,true,true,false,false,false,false,false,false,false,false] rfl rfl (take_ofW HT_.out HW_.out (by kernel_rfl)) (fun _ _ _ h=>h) (Or.inl ⟨by rfl,?_⟩) hHeld ?_ ?_
                  rotate_left
                  ·rintro w' ⟨s0,s1,s2,s3,s4,s5⟩
                   go_simp
                   with_reducible rfl
                  rotate_left
                  ·simp only[Act.put,List.setIfInBounds_toArray,List.set_cons_zero,List.set_cons_succ,i64_w,i32_w]
                   rfl
                  refine pure_ (i:=4) (N:=some 42) (v:=?_) (a':=?_) #[true,true,true,true,true,false,false,false,false,false,false,false] rfl rfl (any_of HT_.out (by kernel_rfl)) (fun _ _ _ h=>h) (Or.inl ⟨by rfl,?_⟩) ?_ ?_
                  rotate_left
                  ·intro w'
                   go_simp
                   with_reducible rfl
                  rotate_left
                  ·simp only[Act.put,List.setIfInBounds_toArray,List.set_cons_zero,List.set_cons_succ,i64_w,i32_w]
                   rfl
                  refine take_ (i:=5) (N:=some 43) (v:=?_) (a':=?_) #[true,true,true,true,true,true,false,false,false,false,false,false] rfl rfl (take_ofW HT_.out HW_.out (by kernel_rfl)) (fun _ _ _ h=>h) (Or.inl ⟨by rfl,?_⟩) hHeld ?_ ?_
                  rotate_left
                  ·rintro w' ⟨s0,s1,s2,s3,s4,s5⟩
                   go_simp
                   with_reducible rfl
                  rotate_left
                  ·simp only[Act.put,List.setIfInBounds_toArray,List.set_cons_zero,List.set_cons_succ,i64_w,i32_w]
                   rfl
                  refine one_ (i:=6) (N:=some 44) #[true,true,true,true,true,true,true,false,false,false,false,false] rfl rfl (one_of HT_.out (by kernel_rfl)) (by decide) (fun K hK => ?_)
                  refine goes_ Try.func122 (by kernel_rfl) rfl #[.agg #[.int .i64 ((rd_T104 l0 x26_2).f0),.int .i64 ((rd_T104 l0 x26_2).f1),.int .i64 ((rd_T104 l0 x26_2).f2),.int .i64 ((rd_T104 l0 x26_2).f3),.int .i64 ((rd_T104 l0 x26_2).f4)],.int .i64 (rd x8_1 ((rd_T104 l0 x26_2).f0))] (by rfl) rfl rfl (by(try simp only[List.map_toArray,List.map_cons,List.map_nil]);first|done|rfl|(simp only[List.length_drop,List.length_take];rfl)) ?_
                  with_reducible refine(impl_Contact_by.calls ((rd_T104 l0 x26_2).f0) ((rd_T104 l0 x26_2).f1) ((rd_T104 l0 x26_2).f2) ((rd_T104 l0 x26_2).f3) ((rd_T104 l0 x26_2).f4) (rd x8_1 ((rd_T104 l0 x26_2).f0)) t254 true _ A27.out).mono ?_
                  rintro e w37 ⟨rfl,hb⟩
                  have HS5_:=(hb.cell (World.block_lt_of_cell? _ _ (hHeld.2.2.2.2.2))).trans (hHeld.2.2.2.2.2)
                  refine⟨_,rfl,?_⟩
                  have n0_:=Aside0.mk (Kd.R_below (bK HO_8.out) hb)
                  have n1_:=Aside0.mk (Kd.R_below (bK HO_9.out) hb)
                  have n2_:=Aside0.mk (bM BK251.out hb)
                  have n3_:=Aside0.mk (below_step (bS GE251.out) hb)
                  clear HO_8 HO_9 BK251 HB
                  have HO_8:=n0_
                  have HO_9:=n1_
                  have BK251:=n2_
                  have HB:=n3_
                  clear n0_ n1_ n2_ n3_
                  (try clear hb)
                  (try clear hb2)
                  (try clear hk)
                  (try clear hi)
                  refine hK.out _ _ ⟨(blk_cell BK251.out 0).trans rfl,(blk_cell BK251.out 1).trans rfl,(blk_cell BK251.out 2).trans rfl,(blk_cell BK251.out 3).trans rfl,(blk_cell BK251.out 4).trans rfl,HS5_⟩ (fun hHeld => ?_)
                  clear hK K
                  refine norm_ (a':=?_) ?_ ?_
                  rotate_left
                  ·show Act.put _ (some 44) _=_
                   simp only[Act.put,List.setIfInBounds_toArray,List.set_cons_zero,List.set_cons_succ,i64_w,i32_w]
                   rfl
                  refine pure_ (i:=7) (N:=some 37) (v:=?_) (a':=?_) #[true,true,true,true,true,true,true,true,false,false,false,false] rfl rfl (any_of HT_.out (by kernel_rfl)) (fun _ _ _ h=>h) (Or.inl ⟨by rfl,?_⟩) ?_ ?_
                  rotate_left
                  ·intro w'
                   go_simp
                   with_reducible rfl
                  rotate_left
                  ·simp only[Act.put,List.setIfInBounds_toArray,List.set_cons_zero,List.set_cons_succ,i64_w,i32_w]
                   rfl
                  refine pure_ (i:=8) (N:=some 45) (v:=?_) (a':=?_) #[true,true,true,true,true,true,true,true,true,false,false,false] rfl rfl (any_of HT_.out (by kernel_rfl)) (fun _ _ _ h=>h) (Or.inl ⟨by rfl,?_⟩) ?_ ?_
                  rotate_left
                  ·intro w'
                   go_simp
                   with_reducible rfl
                  rotate_left
                  ·simp only[Act.put,List.setIfInBounds_toArray,List.set_cons_zero,List.set_cons_succ,i64_w,i32_w]
                   rfl
                  refine pure_ (i:=9) (N:=some 46) (v:=?_) (a':=?_) #[true,true,true,true,true,true,true,true,true,true,false,false] rfl rfl (any_of HT_.out (by kernel_rfl)) (fun _ _ _ h=>h) (Or.inl ⟨by rfl,?_⟩) ?_ ?_
                  rotate_left
                  ·intro w'
                   go_simp
                   with_reducible rfl
                  rotate_left
                  ·simp only[Act.put,List.setIfInBounds_toArray,List.set_cons_zero,List.set_cons_succ,i64_w,i32_w]
                   rfl
                  refine pure_ (i:=10) (N:=some 14) (v:=?_) (a':=?_) #[true,true,true,true,true,true,true,true,true,true,true,false] rfl rfl (any_of HT_.out (by kernel_rfl)) (fun _ _ _ h=>h) (Or.inl ⟨by rfl,?_⟩) ?_ ?_
                  rotate_left
                  ·intro w'
                   go_simp
                   with_reducible rfl
                  rotate_left
                  ·simp only[Act.put,List.setIfInBounds_toArray,List.set_cons_zero,List.set_cons_succ,i64_w,i32_w]
                   rfl
                  refine pure_ (i:=11) (N:=some 15) (v:=?_) (a':=?_) #[true,true,true,true,true,true,true,true,true,true,true,true] rfl rfl (any_of HT_.out (by kernel_rfl)) (fun _ _ _ h=>h) (Or.inl ⟨by rfl,?_⟩) ?_ ?_
                  rotate_left
                  ·intro w'
                   go_simp
                   with_reducible rfl
                  rotate_left
                  ·simp only[Act.put,List.setIfInBounds_toArray,List.set_cons_zero,List.set_cons_succ,i64_w,i32_w]
                   rfl
                  refine done_ (done_of HT_.out (by kernel_rfl)) ?_
                  obtain⟨hcz38_0,hcz38_1,hcz38_2,hcz38_3,hcz38_4⟩:=cC5 BK251.out
                  obtain⟨hfz38_0,hfz38_1,hfz38_2,hfz38_3,hfz38_4⟩:=cF5 BK251.out
                  have p256:0≤(((rd_T104 l0 x26_2).f1):Int):=of_decide_eq_true (bD)
                  have q256:((rd_T104 l0 x26_2).f1) < (x8_1.length:Int):=of_decide_eq_true (bD)
                  obtain⟨ad256,e256,hx256_0⟩:=Kd.at_int (Kd.R_reads' HO_8.out).2.2 ((rd_T104 l0 x26_2).f1) p256 q256
                  obtain rfl:(⟨go8,0,none⟩:Addr)=ad256:=(by injection e256)
                  (first|simp only[add_plain] at hx256_0|simp only[add_at] at hx256_0|simp only[Addr.add,Nat.zero_add] at hx256_0|skip)
                  replace p256:=eq_true p256
                  replace q256:=eq_true q256
                  try go_wp2
                  go_roundg k2
                  case measure=>have:=HK1.out;have:=HK2.out;omega
                  case rel=>exact⟨(x26_2),(t254),(wrap64 (x26_2+1)),(bR),(bR),(bR),H',⟨by have:=HK1.out;have:=HK2.out;omega⟩,⟨by(try simp only[hl8_1]);(with_reducible repeat (first|apply Kd.R_alloc|apply Kd.R_drewN|apply Kd.R_drew));exact HO_8.out⟩,⟨by(try simp only[hl8_1]);(with_reducible repeat (first|apply Kd.R_alloc|apply Kd.R_drewN|apply Kd.R_drew));exact HO_9.out⟩,⟨bS GE251.out⟩⟩
                 ·rw[if_neg c32] at H
                  have c32b0:decide (x10_2 < 0)=false:=decide_eq_false c32
                  clear c32
                  by_cases c39:t254 < x11_2
                  ·rw[if_pos c39] at H
                   have c39b0:decide (t254 < x11_2)=true:=decide_eq_true c39
                   clear c39
                   have H':=Aside0.mk H
                   clear H
                   have p250:0≤(x26_2:Int):=of_decide_eq_true (bD)
                   have q250:x26_2 < (l0.length:Int):=of_decide_eq_true (bD)
                   obtain⟨ad250,e250,hx250_0,hx250_1,hx250_2,hx250_3,hx250_4⟩:=at_T104 HR0.out x26_2 p250 q250
                   cases e250
                   replace hx250_0:=(HB.out.cell (World.block_lt_of_cell? w _ hx250_0)).trans hx250_0
                   replace hx250_1:=(HB.out.cell (World.block_lt_of_cell? w _ hx250_1)).trans hx250_1
                   replace hx250_2:=(HB.out.cell (World.block_lt_of_cell? w _ hx250_2)).trans hx250_2
                   replace hx250_3:=(HB.out.cell (World.block_lt_of_cell? w _ hx250_3)).trans hx250_3
                   replace hx250_4:=(HB.out.cell (World.block_lt_of_cell? w _ hx250_4)).trans hx250_4
                   replace p250:=eq_true p250
                   replace q250:=eq_true q250
                   try go_wp2_with (first|((with_reducible refine gate_dst (N:=13) rfl ?_);refine box_event ?hg (N:=13) ?hd (cs:=#[.int .i64 0,.int .i64 0,.int .i64 0,.int .i64 0,.int .i64 0]) (t:=104) ?hr ?_;(case hd=>rfl);(case hg=>rfl);(case hr=>first|(go_simp;done)|(go_simp;rfl));intro gb251 hg w40 hbox hb;have n0_:=Aside0.mk (Kd.R_below (bK HO_8.out) hb);have n1_:=Aside0.mk (Kd.R_below (bK HO_9.out) hb);have n2_:=Aside0.mk (below_step (bB) hb);have n3_:=Aside0.mk (hbox);have n4_:=Aside0.mk ((bG:w.heap.size≤gb251));have n5_:=Aside0.mk ((bG:w.heap.size≤gb251));clear HO_8 HO_9 HB;have HO_8:=n0_;have HO_9:=n1_;have HB:=n2_;have BK251:=n3_;have GW251:=n4_;have GE251:=n5_;clear n0_ n1_ n2_ n3_ n4_ n5_;clear hb hbox hg;obtain⟨hcz41_0,hcz41_1,hcz41_2,hcz41_3,hcz41_4⟩:=cC5 BK251.out;obtain⟨hfz41_0,hfz41_1,hfz41_2,hfz41_3,hfz41_4⟩:=cF5 BK251.out;have p252:0≤(((rd_T104 l0 x26_2).f0):Int):=of_decide_eq_true (bD);have q252:((rd_T104 l0 x26_2).f0) < (x8_1.length:Int):=of_decide_eq_true (bD);obtain⟨ad252,e252,hx252_0⟩:=Kd.at_int (Kd.R_reads' HO_8.out).2.2 ((rd_T104 l0 x26_2).f0) p252 q252;obtain rfl:(⟨go8,0,none⟩:Addr)=ad252:=(by injection e252);(first|simp only[add_plain] at hx252_0|simp only[add_at] at hx252_0|simp only[Addr.add,Nat.zero_add] at hx252_0|skip);have hn252_0:(⟨go8,0,none⟩:Addr).block≠gb251:=Kd.own_blk (Kd.R_ne HO_8.out BK251.out (by decide));have hn252_1:(⟨go8,0,none⟩:Addr).block≠gb251:=Kd.own_blk (Kd.R_ne HO_8.out BK251.out (by decide));have hn252_2:(⟨go8,0,none⟩:Addr).block≠gb251:=Kd.own_blk (Kd.R_ne HO_8.out BK251.out (by decide));have hn252_3:(⟨go8,0,none⟩:Addr).block≠gb251:=Kd.own_blk (Kd.R_ne HO_8.out BK251.out (by decide));have hn252_4:(⟨go8,0,none⟩:Addr).block≠gb251:=Kd.own_blk (Kd.R_ne HO_8.out BK251.out (by decide));replace hx252_0:=(cell_far (p:=⟨gb251,0,none⟩) (bA hn252_0) (.int .i64 ((rd_T104 l0 x26_2).f0))).trans hx252_0;replace hx252_0:=(cell_far (p:=⟨gb251,1,none⟩) (bA hn252_1) (.int .i64 ((rd_T104 l0 x26_2).f1))).trans hx252_0;replace hx252_0:=(cell_far (p:=⟨gb251,2,none⟩) (bA hn252_2) (.int .i64 ((rd_T104 l0 x26_2).f2))).trans hx252_0;replace hx252_0:=(cell_far (p:=⟨gb251,3,none⟩) (bA hn252_3) (.int .i64 ((rd_T104 l0 x26_2).f3))).trans hx252_0;replace hx252_0:=(cell_far (p:=⟨gb251,4,none⟩) (bA hn252_4) (.int .i64 ((rd_T104 l0 x26_2).f4))).trans hx252_0;clear hn252_0 hn252_1 hn252_2 hn252_3 hn252_4;replace p252:=eq_true p252;replace q252:=eq_true q252))
                   have n0_:Aside0 (Kd.R (Kd.int .i64) 3 (((((w40.setCell ⟨gb251,0,none⟩ (.int .i64 ((rd_T104 l0 x26_2).f0))).setCell ⟨gb251,1,none⟩ (.int .i64 ((rd_T104 l0 x26_2).f1))).setCell ⟨gb251,2,none⟩ (.int .i64 ((rd_T104 l0 x26_2).f2))).setCell ⟨gb251,3,none⟩ (.int .i64 ((rd_T104 l0 x26_2).f3))).setCell ⟨gb251,4,none⟩ (.int .i64 ((rd_T104 l0 x26_2).f4))) w.heap.size (fun k_=>some k_≠(v243:Value).ownBlock) (.slice (some ⟨go8,0,none⟩) x8_1.length co8) x8_1):=⟨by(with_reducible repeat (first|apply Kd.R_alloc|apply Kd.R_drewN|apply Kd.R_drew));exact Kd.R_mono (Kd.R_far (p:=⟨gb251,4,none⟩) (Kd.R_far (p:=⟨gb251,3,none⟩) (Kd.R_far (p:=⟨gb251,2,none⟩) (Kd.R_far (p:=⟨gb251,1,none⟩) (Kd.R_far (p:=⟨gb251,0,none⟩) (Kd.R_types HO_8.out BK251.out (by decide)) (fun _ hk=>hk.2) (.int .i64 ((rd_T104 l0 x26_2).f0))) (fun _ hk=>hk.2) (.int .i64 ((rd_T104 l0 x26_2).f1))) (fun _ hk=>hk.2) (.int .i64 ((rd_T104 l0 x26_2).f2))) (fun _ hk=>hk.2) (.int .i64 ((rd_T104 l0 x26_2).f3))) (fun _ hk=>hk.2) (.int .i64 ((rd_T104 l0 x26_2).f4))) (fun _ hk=>hk.1)⟩
                   have n1_:Aside0 (Kd.R (Kd.int .i64) 3 (((((w40.setCell ⟨gb251,0,none⟩ (.int .i64 ((rd_T104 l0 x26_2).f0))).setCell ⟨gb251,1,none⟩ (.int .i64 ((rd_T104 l0 x26_2).f1))).setCell ⟨gb251,2,none⟩ (.int .i64 ((rd_T104 l0 x26_2).f2))).setCell ⟨gb251,3,none⟩ (.int .i64 ((rd_T104 l0 x26_2).f3))).setCell ⟨gb251,4,none⟩ (.int .i64 ((rd_T104 l0 x26_2).f4))) w.heap.size (fun k_=>some k_≠(.slice (some ⟨go8,0,none⟩) x8_1.length co8:Value).ownBlock) v243 x9_1):=⟨by(with_reducible repeat (first|apply Kd.R_alloc|apply Kd.R_drewN|apply Kd.R_drew));exact Kd.R_mono (Kd.R_far (p:=⟨gb251,4,none⟩) (Kd.R_far (p:=⟨gb251,3,none⟩) (Kd.R_far (p:=⟨gb251,2,none⟩) (Kd.R_far (p:=⟨gb251,1,none⟩) (Kd.R_far (p:=⟨gb251,0,none⟩) (Kd.R_types HO_9.out BK251.out (by decide)) (fun _ hk=>hk.2) (.int .i64 ((rd_T104 l0 x26_2).f0))) (fun _ hk=>hk.2) (.int .i64 ((rd_T104 l0 x26_2).f1))) (fun _ hk=>hk.2) (.int .i64 ((rd_T104 l0 x26_2).f2))) (fun _ hk=>hk.2) (.int .i64 ((rd_T104 l0 x26_2).f3))) (fun _ hk=>hk.2) (.int .i64 ((rd_T104 l0 x26_2).f4))) (fun _ hk=>hk.1)⟩
                   have n2_:Aside0 ((((((w40.setCell ⟨gb251,0,none⟩ (.int .i64 ((rd_T104 l0 x26_2).f0))).setCell ⟨gb251,1,none⟩ (.int .i64 ((rd_T104 l0 x26_2).f1))).setCell ⟨gb251,2,none⟩ (.int .i64 ((rd_T104 l0 x26_2).f2))).setCell ⟨gb251,3,none⟩ (.int .i64 ((rd_T104 l0 x26_2).f3))).setCell ⟨gb251,4,none⟩ (.int .i64 ((rd_T104 l0 x26_2).f4))).heap[gb251]?=some (.cells #[.int .i64 ((rd_T104 l0 x26_2).f0),.int .i64 ((rd_T104 l0 x26_2).f1),.int .i64 ((rd_T104 l0 x26_2).f2),.int .i64 ((rd_T104 l0 x26_2).f3),.int .i64 ((rd_T104 l0 x26_2).f4)] 104 (0,0))):=⟨by(with_reducible repeat (first|refine blk_drewN ?_ _|refine blk_drew ?_|refine blk_alloc ?_ _));refine blk_put (cs:=#[.int .i64 ((rd_T104 l0 x26_2).f0),.int .i64 ((rd_T104 l0 x26_2).f1),.int .i64 ((rd_T104 l0 x26_2).f2),.int .i64 ((rd_T104 l0 x26_2).f3),.int .i64 0]) ?_ 4 _ rfl;(with_reducible repeat (first|refine blk_drewN ?_ _|refine blk_drew ?_|refine blk_alloc ?_ _));refine blk_put (cs:=#[.int .i64 ((rd_T104 l0 x26_2).f0),.int .i64 ((rd_T104 l0 x26_2).f1),.int .i64 ((rd_T104 l0 x26_2).f2),.int .i64 0,.int .i64 0]) ?_ 3 _ rfl;(with_reducible repeat (first|refine blk_drewN ?_ _|refine blk_drew ?_|refine blk_alloc ?_ _));refine blk_put (cs:=#[.int .i64 ((rd_T104 l0 x26_2).f0),.int .i64 ((rd_T104 l0 x26_2).f1),.int .i64 0,.int .i64 0,.int .i64 0]) ?_ 2 _ rfl;(with_reducible repeat (first|refine blk_drewN ?_ _|refine blk_drew ?_|refine blk_alloc ?_ _));refine blk_put (cs:=#[.int .i64 ((rd_T104 l0 x26_2).f0),.int .i64 0,.int .i64 0,.int .i64 0,.int .i64 0]) ?_ 1 _ rfl;(with_reducible repeat (first|refine blk_drewN ?_ _|refine blk_drew ?_|refine blk_alloc ?_ _));refine blk_put (cs:=#[.int .i64 0,.int .i64 0,.int .i64 0,.int .i64 0,.int .i64 0]) ?_ 0 _ rfl;(with_reducible repeat (first|refine blk_drewN ?_ _|refine blk_drew ?_|refine blk_alloc ?_ _));exact BK251.out⟩
                   have n3_:Aside0 (Below w.heap.size w (((((w40.setCell ⟨gb251,0,none⟩ (.int .i64 ((rd_T104 l0 x26_2).f0))).setCell ⟨gb251,1,none⟩ (.int .i64 ((rd_T104 l0 x26_2).f1))).setCell ⟨gb251,2,none⟩ (.int .i64 ((rd_T104 l0 x26_2).f2))).setCell ⟨gb251,3,none⟩ (.int .i64 ((rd_T104 l0 x26_2).f3))).setCell ⟨gb251,4,none⟩ (.int .i64 ((rd_T104 l0 x26_2).f4)))):=⟨bS GE251.out⟩
                   (try clear HO_8)
                   (try clear HO_9)
                   (try clear BK251)
                   (try clear HB)
                   generalize (((((w40.setCell ⟨gb251,0,none⟩ (.int .i64 ((rd_T104 l0 x26_2).f0))).setCell ⟨gb251,1,none⟩ (.int .i64 ((rd_T104 l0 x26_2).f1))).setCell ⟨gb251,2,none⟩ (.int .i64 ((rd_T104 l0 x26_2).f2))).setCell ⟨gb251,3,none⟩ (.int .i64 ((rd_T104 l0 x26_2).f3))).setCell ⟨gb251,4,none⟩ (.int .i64 ((rd_T104 l0 x26_2).f4)))=w42 at n0_ n1_ n2_ n3_ ⊢
                   have HO_8:=n0_
                   have HO_9:=n1_
                   have BK251:=n2_
                   have HB:=n3_
                   clear n0_ n1_ n2_ n3_
                   (try (rw[drewN_self w42];generalize hq_:World.drewN w42 _=w42;have n0_:=Aside0.mk (Kd.R_at hq_ HO_8.out);have n1_:=Aside0.mk (Kd.R_at hq_ HO_9.out);have n2_:=Aside0.mk (blk_at hq_ BK251.out);have n3_:=Aside0.mk (below_at hq_ HB.out);clear hq_ HO_8 HO_9 BK251 HB;have HO_8:=n0_;have HO_9:=n1_;have BK251:=n2_;have HB:=n3_;clear n0_ n1_ n2_ n3_))
                   have n0_:=Aside0.mk (Kd.R_drew HO_8.out)
                   have n1_:=Aside0.mk (Kd.R_drew HO_9.out)
                   have n2_:=Aside0.mk (blk_drew BK251.out)
                   have n3_:=Aside0.mk (below_drew1 HB.out)
                   clear HO_8 HO_9 BK251 HB
                   have HO_8:=n0_
                   have HO_9:=n1_
                   have BK251:=n2_
                   have HB:=n3_
                   clear n0_ n1_ n2_ n3_
                   have p253:0≤(((rd_T104 l0 x26_2).f0):Int):=of_decide_eq_true (bD)
                   have q253:((rd_T104 l0 x26_2).f0) < (x8_1.length:Int):=of_decide_eq_true (bD)
                   obtain⟨ad253,e253,hx253_0⟩:=Kd.at_int (Kd.R_reads' HO_8.out).2.2 ((rd_T104 l0 x26_2).f0) p253 q253
                   obtain rfl:(⟨go8,0,none⟩:Addr)=ad253:=(by injection e253)
                   (first|simp only[add_plain] at hx253_0|simp only[add_at] at hx253_0|simp only[Addr.add,Nat.zero_add] at hx253_0|skip)
                   replace p253:=eq_true p253
                   replace q253:=eq_true q253
                   refine start_ (n:=12) (S:=fun w'=>w'.cell? ⟨gb251,0,none⟩=some (.int .i64 ((rd_T104 l0 x26_2).f0))∧w'.cell? ⟨gb251,1,none⟩=some (.int .i64 ((rd_T104 l0 x26_2).f1))∧w'.cell? ⟨gb251,2,none⟩=some (.int .i64 ((rd_T104 l0 x26_2).f2))∧w'.cell? ⟨gb251,3,none⟩=some (.int .i64 ((rd_T104 l0 x26_2).f3))∧w'.cell? ⟨gb251,4,none⟩=some (.int .i64 ((rd_T104 l0 x26_2).f4))∧w'.cell? ⟨go8,(((rd_T104 l0 x26_2).f0)).toNat,none⟩=some (.int .i64 (rd x8_1 ((rd_T104 l0 x26_2).f0)))) (ds:=[]) #[false,false,false,false,false,false,false,false,false,false,false,false] (by kernel_rfl) rfl rfl ⟨(blk_cell BK251.out 0).trans rfl,(blk_cell BK251.out 1).trans rfl,(blk_cell BK251.out 2).trans rfl,(blk_cell BK251.out 3).trans rfl,(blk_cell BK251.out 4).trans rfl,hx253_0⟩ (fun hHeld => ?_);refine with_tabW impl_reach.tab8 impl_reach.bits8 (fun HT_ HW_ => ?_)
                   generalize w42.drew=w43 at HO_8 HO_9 BK251 HB hx253_0 hHeld ⊢
                   refine pure_ (i:=1) (N:=some 39) (v:=?_) (a':=?_) #[false,true,false,false,false,false,false,false,false,false,false,false] rfl rfl (any_of HT_.out (by kernel_rfl)) (fun _ _ _ h=>h) (Or.inl ⟨by rfl,?_⟩) ?_ ?_
                   rotate_left
                   ·intro w'
                    go_simp
                    with_reducible rfl
                   rotate_left
                   ·simp only[Act.put,List.setIfInBounds_toArray,List.set_cons_zero,List.set_cons_succ,i64_w,i32_w]
                    rfl
                   refine pure_ (i:=2) (N:=some 40) (v:=?_) (a':=?_) #[false,true,true,false,false,false,false,false,false,false,false,false] rfl rfl (any_of HT_.out (by kernel_rfl)) (fun _ _ _ h=>h) (Or.inl ⟨by rfl,?_⟩) ?_ ?_
                   rotate_left
                   ·intro w'
                    go_simp
                    with_reducible rfl
                   rotate_left
                   ·simp only[Act.put,List.setIfInBounds_toArray,List.set_cons_zero,List.set_cons_succ,i64_w,i32_w]
                    rfl
                   refine take_ (i:=0) (N:=some 38) (v:=?_) (a':=?_) #[true,true,true,false,false,false,false,false,false,false,false,false] rfl rfl (take_ofW HT_.out HW_.out (by kernel_rfl)) (fun _ _ _ h=>h) (Or.inl ⟨by rfl,?_⟩) hHeld ?_ ?_
                   rotate_left
                   ·rintro w' ⟨s0,s1,s2,s3,s4,s5⟩
                    go_simp
                    with_reducible rfl
                   rotate_left
                   ·simp only[Act.put,List.setIfInBounds_toArray,List.set_cons_zero,List.set_cons_succ,i64_w,i32_w]
                    rfl
                   refine take_ (i:=3) (N:=some 41) (v:=?_) (a':=?_) #[true,true,true,true,false,false,false,false,false,false,false,false] rfl rfl (take_ofW HT_.out HW_.out (by kernel_rfl)) (fun _ _ _ h=>h) (Or.inl ⟨by rfl,?_⟩) hHeld ?_ ?_
                   rotate_left
                   ·rintro w' ⟨s0,s1,s2,s3,s4,s5⟩
                    go_simp
                    with_reducible rfl
                   rotate_left
                   ·simp only[Act.put,List.setIfInBounds_toArray,List.set_cons_zero,List.set_cons_succ,i64_w,i32_w]
                    rfl
                   refine pure_ (i:=4) (N:=some 42) (v:=?_) (a':=?_) #[true,true,true,true,true,false,false,false,false,false,false,false] rfl rfl (any_of HT_.out (by kernel_rfl)) (fun _ _ _ h=>h) (Or.inl ⟨by rfl,?_⟩) ?_ ?_
                   rotate_left
                   ·intro w'
                    go_simp
                    with_reducible rfl
                   rotate_left
                   ·simp only[Act.put,List.setIfInBounds_toArray,List.set_cons_zero,List.set_cons_succ,i64_w,i32_w]
                    rfl
                   refine take_ (i:=5) (N:=some 43) (v:=?_) (a':=?_) #[true,true,true,true,true,true,false,false,false,false,false,false] rfl rfl (take_ofW HT_.out HW_.out (by kernel_rfl)) (fun _ _ _ h=>h) (Or.inl ⟨by rfl,?_⟩) hHeld ?_ ?_
                   rotate_left
                   ·rintro w' ⟨s0,s1,s2,s3,s4,s5⟩
                    go_simp
                    with_reducible rfl
                   rotate_left
                   ·simp only[Act.put,List.setIfInBounds_toArray,List.set_cons_zero,List.set_cons_succ,i64_w,i32_w]
                    rfl
                   refine one_ (i:=6) (N:=some 44) #[true,true,true,true,true,true,true,false,false,false,false,false] rfl rfl (one_of HT_.out (by kernel_rfl)) (by decide) (fun K hK => ?_)
                   refine goes_ Try.func122 (by kernel_rfl) rfl #[.agg #[.int .i64 ((rd_T104 l0 x26_2).f0),.int .i64 ((rd_T104 l0 x26_2).f1),.int .i64 ((rd_T104 l0 x26_2).f2),.int .i64 ((rd_T104 l0 x26_2).f3),.int .i64 ((rd_T104 l0 x26_2).f4)],.int .i64 (rd x8_1 ((rd_T104 l0 x26_2).f0))] (by rfl) rfl rfl (by(try simp only[List.map_toArray,List.map_cons,List.map_nil]);first|done|rfl|(simp only[List.length_drop,List.length_take];rfl)) ?_
                   with_reducible refine(impl_Contact_by.calls ((rd_T104 l0 x26_2).f0) ((rd_T104 l0 x26_2).f1) ((rd_T104 l0 x26_2).f2) ((rd_T104 l0 x26_2).f3) ((rd_T104 l0 x26_2).f4) (rd x8_1 ((rd_T104 l0 x26_2).f0)) t254 true _ A27.out).mono ?_
                   rintro e w44 ⟨rfl,hb⟩
                   have HS5_:=(hb.cell (World.block_lt_of_cell? _ _ (hHeld.2.2.2.2.2))).trans (hHeld.2.2.2.2.2)
                   refine⟨_,rfl,?_⟩
                   have n0_:=Aside0.mk (Kd.R_below (bK HO_8.out) hb)
                   have n1_:=Aside0.mk (Kd.R_below (bK HO_9.out) hb)
                   have n2_:=Aside0.mk (bM BK251.out hb)
                   have n3_:=Aside0.mk (below_step (bS GE251.out) hb)
                   clear HO_8 HO_9 BK251 HB
                   have HO_8:=n0_
                   have HO_9:=n1_
                   have BK251:=n2_
                   have HB:=n3_
                   clear n0_ n1_ n2_ n3_
                   (try clear hb)
                   (try clear hb2)
                   (try clear hk)
                   (try clear hi)
                   refine hK.out _ _ ⟨(blk_cell BK251.out 0).trans rfl,(blk_cell BK251.out 1).trans rfl,(blk_cell BK251.out 2).trans rfl,(blk_cell BK251.out 3).trans rfl,(blk_cell BK251.out 4).trans rfl,HS5_⟩ (fun hHeld => ?_)
                   clear hK K
                   refine norm_ (a':=?_) ?_ ?_
                   rotate_left
                   ·show Act.put _ (some 44) _=_
                    simp only[Act.put,List.setIfInBounds_toArray,List.set_cons_zero,List.set_cons_succ,i64_w,i32_w]
                    rfl
                   refine pure_ (i:=7) (N:=some 37) (v:=?_) (a':=?_) #[true,true,true,true,true,true,true,true,false,false,false,false] rfl rfl (any_of HT_.out (by kernel_rfl)) (fun _ _ _ h=>h) (Or.inl ⟨by rfl,?_⟩) ?_ ?_
                   rotate_left
                   ·intro w'
                    go_simp
                    with_reducible rfl
                   rotate_left
                   ·simp only[Act.put,List.setIfInBounds_toArray,List.set_cons_zero,List.set_cons_succ,i64_w,i32_w]
                    rfl
                   refine pure_ (i:=8) (N:=some 45) (v:=?_) (a':=?_) #[true,true,true,true,true,true,true,true,true,false,false,false] rfl rfl (any_of HT_.out (by kernel_rfl)) (fun _ _ _ h=>h) (Or.inl ⟨by rfl,?_⟩) ?_ ?_
                   rotate_left
                   ·intro w'
                    go_simp
                    with_reducible rfl
                   rotate_left
                   ·simp only[Act.put,List.setIfInBounds_toArray,List.set_cons_zero,List.set_cons_succ,i64_w,i32_w]
                    rfl
                   refine pure_ (i:=9) (N:=some 46) (v:=?_) (a':=?_) #[true,true,true,true,true,true,true,true,true,true,false,false] rfl rfl (any_of HT_.out (by kernel_rfl)) (fun _ _ _ h=>h) (Or.inl ⟨by rfl,?_⟩) ?_ ?_
                   rotate_left
                   ·intro w'
                    go_simp
                    with_reducible rfl
                   rotate_left
                   ·simp only[Act.put,List.setIfInBounds_toArray,List.set_cons_zero,List.set_cons_succ,i64_w,i32_w]
                    rfl
                   refine pure_ (i:=10) (N:=some 14) (v:=?_) (a':=?_) #[true,true,true,true,true,true,true,true,true,true,true,false] rfl rfl (any_of HT_.out (by kernel_rfl)) (fun _ _ _ h=>h) (Or.inl ⟨by rfl,?_⟩) ?_ ?_
                   rotate_left
                   ·intro w'
                    go_simp
                    with_reducible rfl
                   rotate_left
                   ·simp only[Act.put,List.setIfInBounds_toArray,List.set_cons_zero,List.set_cons_succ,i64_w,i32_w]
                    rfl
                   refine pure_ (i:=11) (N:=some 15) (v:=?_) (a':=?_) #[true,true,true,true,true,true,true,true,true,true,true,true] rfl rfl (any_of HT_.out (by kernel_rfl)) (fun _ _ _ h=>h) (Or.inl ⟨by rfl,?_⟩) ?_ ?_
                   rotate_left
                   ·intro w'
                    go_simp
                    with_reducible rfl
                   rotate_left
                   ·simp only[Act.put,List.setIfInBounds_toArray,List.set_cons_zero,List.set_cons_succ,i64_w,i32_w]
                    rfl
                   refine done_ (done_of HT_.out (by kernel_rfl)) ?_
                   obtain⟨hcz45_0,hcz45_1,hcz45_2,hcz45_3,hcz45_4⟩:=cC5 BK251.out
                   obtain⟨hfz45_0,hfz45_1,hfz45_2,hfz45_3,hfz45_4⟩:=cF5 BK251.out
                   have p256:0≤(((rd_T104 l0 x26_2).f1):Int):=of_decide_eq_true (bD)
                   have q256:((rd_T104 l0 x26_2).f1) < (x8_1.length:Int):=of_decide_eq_true (bD)
                   obtain⟨ad256,e256,hx256_0⟩:=Kd.at_int (Kd.R_reads' HO_8.out).2.2 ((rd_T104 l0 x26_2).f1) p256 q256
                   obtain rfl:(⟨go8,0,none⟩:Addr)=ad256:=(by injection e256)
                   (first|simp only[add_plain] at hx256_0|simp only[add_at] at hx256_0|simp only[Addr.add,Nat.zero_add] at hx256_0|skip)
                   replace p256:=eq_true p256
                   replace q256:=eq_true q256
                   try go_wp2
                   go_roundg k2
                   case measure=>have:=HK1.out;have:=HK2.out;omega
                   case rel=>exact⟨(x26_2),(t254),(wrap64 (x26_2+1)),(bR),(bR),(bR),H',⟨by have:=HK1.out;have:=HK2.out;omega⟩,⟨by(try simp only[hl8_1]);(with_reducible repeat (first|apply Kd.R_alloc|apply Kd.R_drewN|apply Kd.R_drew));exact HO_8.out⟩,⟨by(try simp only[hl8_1]);(with_reducible repeat (first|apply Kd.R_alloc|apply Kd.R_drewN|apply Kd.R_drew));exact HO_9.out⟩,⟨bS GE251.out⟩⟩
                  ·rw[if_neg c39] at H
                   have c39b0:decide (t254 < x11_2)=false:=decide_eq_false c39
                   clear c39
                   have H':=Aside0.mk H
                   clear H
                   have p250:0≤(x26_2:Int):=of_decide_eq_true (bD)
                   have q250:x26_2 < (l0.length:Int):=of_decide_eq_true (bD)
                   obtain⟨ad250,e250,hx250_0,hx250_1,hx250_2,hx250_3,hx250_4⟩:=at_T104 HR0.out x26_2 p250 q250
                   cases e250
                   replace hx250_0:=(HB.out.cell (World.block_lt_of_cell? w _ hx250_0)).trans hx250_0
                   replace hx250_1:=(HB.out.cell (World.block_lt_of_cell? w _ hx250_1)).trans hx250_1
                   replace hx250_2:=(HB.out.cell (World.block_lt_of_cell? w _ hx250_2)).trans hx250_2
                   replace hx250_3:=(HB.out.cell (World.block_lt_of_cell? w _ hx250_3)).trans hx250_3
                   replace hx250_4:=(HB.out.cell (World.block_lt_of_cell? w _ hx250_4)).trans hx250_4
                   replace p250:=eq_true p250
                   replace q250:=eq_true q250
                   try go_wp2_with (first|((with_reducible refine gate_dst (N:=13) rfl ?_);refine box_event ?hg (N:=13) ?hd (cs:=#[.int .i64 0,.int .i64 0,.int .i64 0,.int .i64 0,.int .i64 0]) (t:=104) ?hr ?_;(case hd=>rfl);(case hg=>rfl);(case hr=>first|(go_simp;done)|(go_simp;rfl));intro gb251 hg w46 hbox hb;have n0_:=Aside0.mk (Kd.R_below (bK HO_8.out) hb);have n1_:=Aside0.mk (Kd.R_below (bK HO_9.out) hb);have n2_:=Aside0.mk (below_step (bB) hb);have n3_:=Aside0.mk (hbox);have n4_:=Aside0.mk ((bG:w.heap.size≤gb251));have n5_:=Aside0.mk ((bG:w.heap.size≤gb251));clear HO_8 HO_9 HB;have HO_8:=n0_;have HO_9:=n1_;have HB:=n2_;have BK251:=n3_;have GW251:=n4_;have GE251:=n5_;clear n0_ n1_ n2_ n3_ n4_ n5_;clear hb hbox hg;obtain⟨hcz47_0,hcz47_1,hcz47_2,hcz47_3,hcz47_4⟩:=cC5 BK251.out;obtain⟨hfz47_0,hfz47_1,hfz47_2,hfz47_3,hfz47_4⟩:=cF5 BK251.out;have p252:0≤(((rd_T104 l0 x26_2).f0):Int):=of_decide_eq_true (bD);have q252:((rd_T104 l0 x26_2).f0) < (x8_1.length:Int):=of_decide_eq_true (bD);obtain⟨ad252,e252,hx252_0⟩:=Kd.at_int (Kd.R_reads' HO_8.out).2.2 ((rd_T104 l0 x26_2).f0) p252 q252;obtain rfl:(⟨go8,0,none⟩:Addr)=ad252:=(by injection e252);(first|simp only[add_plain] at hx252_0|simp only[add_at] at hx252_0|simp only[Addr.add,Nat.zero_add] at hx252_0|skip);have hn252_0:(⟨go8,0,none⟩:Addr).block≠gb251:=Kd.own_blk (Kd.R_ne HO_8.out BK251.out (by decide));have hn252_1:(⟨go8,0,none⟩:Addr).block≠gb251:=Kd.own_blk (Kd.R_ne HO_8.out BK251.out (by decide));have hn252_2:(⟨go8,0,none⟩:Addr).block≠gb251:=Kd.own_blk (Kd.R_ne HO_8.out BK251.out (by decide));have hn252_3:(⟨go8,0,none⟩:Addr).block≠gb251:=Kd.own_blk (Kd.R_ne HO_8.out BK251.out (by decide));have hn252_4:(⟨go8,0,none⟩:Addr).block≠gb251:=Kd.own_blk (Kd.R_ne HO_8.out BK251.out (by decide));replace hx252_0:=(cell_far (p:=⟨gb251,0,none⟩) (bA hn252_0) (.int .i64 ((rd_T104 l0 x26_2).f0))).trans hx252_0;replace hx252_0:=(cell_far (p:=⟨gb251,1,none⟩) (bA hn252_1) (.int .i64 ((rd_T104 l0 x26_2).f1))).trans hx252_0;replace hx252_0:=(cell_far (p:=⟨gb251,2,none⟩) (bA hn252_2) (.int .i64 ((rd_T104 l0 x26_2).f2))).trans hx252_0;replace hx252_0:=(cell_far (p:=⟨gb251,3,none⟩) (bA hn252_3) (.int .i64 ((rd_T104 l0 x26_2).f3))).trans hx252_0;replace hx252_0:=(cell_far (p:=⟨gb251,4,none⟩) (bA hn252_4) (.int .i64 ((rd_T104 l0 x26_2).f4))).trans hx252_0;clear hn252_0 hn252_1 hn252_2 hn252_3 hn252_4;replace p252:=eq_true p252;replace q252:=eq_true q252))
                   have n0_:Aside0 (Kd.R (Kd.int .i64) 3 (((((w46.setCell ⟨gb251,0,none⟩ (.int .i64 ((rd_T104 l0 x26_2).f0))).setCell ⟨gb251,1,none⟩ (.int .i64 ((rd_T104 l0 x26_2).f1))).setCell ⟨gb251,2,none⟩ (.int .i64 ((rd_T104 l0 x26_2).f2))).setCell ⟨gb251,3,none⟩ (.int .i64 ((rd_T104 l0 x26_2).f3))).setCell ⟨gb251,4,none⟩ (.int .i64 ((rd_T104 l0 x26_2).f4))) w.heap.size (fun k_=>some k_≠(v243:Value).ownBlock) (.slice (some ⟨go8,0,none⟩) x8_1.length co8) x8_1):=⟨by(with_reducible repeat (first|apply Kd.R_alloc|apply Kd.R_drewN|apply Kd.R_drew));exact Kd.R_mono (Kd.R_far (p:=⟨gb251,4,none⟩) (Kd.R_far (p:=⟨gb251,3,none⟩) (Kd.R_far (p:=⟨gb251,2,none⟩) (Kd.R_far (p:=⟨gb251,1,none⟩) (Kd.R_far (p:=⟨gb251,0,none⟩) (Kd.R_types HO_8.out BK251.out (by decide)) (fun _ hk=>hk.2) (.int .i64 ((rd_T104 l0 x26_2).f0))) (fun _ hk=>hk.2) (.int .i64 ((rd_T104 l0 x26_2).f1))) (fun _ hk=>hk.2) (.int .i64 ((rd_T104 l0 x26_2).f2))) (fun _ hk=>hk.2) (.int .i64 ((rd_T104 l0 x26_2).f3))) (fun _ hk=>hk.2) (.int .i64 ((rd_T104 l0 x26_2).f4))) (fun _ hk=>hk.1)⟩
                   have n1_:Aside0 (Kd.R (Kd.int .i64) 3 (((((w46.setCell ⟨gb251,0,none⟩ (.int .i64 ((rd_T104 l0 x26_2).f0))).setCell ⟨gb251,1,none⟩ (.int .i64 ((rd_T104 l0 x26_2).f1))).setCell ⟨gb251,2,none⟩ (.int .i64 ((rd_T104 l0 x26_2).f2))).setCell ⟨gb251,3,none⟩ (.int .i64 ((rd_T104 l0 x26_2).f3))).setCell ⟨gb251,4,none⟩ (.int .i64 ((rd_T104 l0 x26_2).f4))) w.heap.size (fun k_=>some k_≠(.slice (some ⟨go8,0,none⟩) x8_1.length co8:Value).ownBlock) v243 x9_1):=⟨by(with_reducible repeat (first|apply Kd.R_alloc|apply Kd.R_drewN|apply Kd.R_drew));exact Kd.R_mono (Kd.R_far (p:=⟨gb251,4,none⟩) (Kd.R_far (p:=⟨gb251,3,none⟩) (Kd.R_far (p:=⟨gb251,2,none⟩) (Kd.R_far (p:=⟨gb251,1,none⟩) (Kd.R_far (p:=⟨gb251,0,none⟩) (Kd.R_types HO_9.out BK251.out (by decide)) (fun _ hk=>hk.2) (.int .i64 ((rd_T104 l0 x26_2).f0))) (fun _ hk=>hk.2) (.int .i64 ((rd_T104 l0 x26_2).f1))) (fun _ hk=>hk.2) (.int .i64 ((rd_T104 l0 x26_2).f2))) (fun _ hk=>hk.2) (.int .i64 ((rd_T104 l0 x26_2).f3))) (fun _ hk=>hk.2) (.int .i64 ((rd_T104 l0 x26_2).f4))) (fun _ hk=>hk.1)⟩
                   have n2_:Aside0 ((((((w46.setCell ⟨gb251,0,none⟩ (.int .i64 ((rd_T104 l0 x26_2).f0))).setCell ⟨gb251,1,none⟩ (.int .i64 ((rd_T104 l0 x26_2).f1))).setCell ⟨gb251,2,none⟩ (.int .i64 ((rd_T104 l0 x26_2).f2))).setCell ⟨gb251,3,none⟩ (.int .i64 ((rd_T104 l0 x26_2).f3))).setCell ⟨gb251,4,none⟩ (.int .i64 ((rd_T104 l0 x26_2).f4))).heap[gb251]?=some (.cells #[.int .i64 ((rd_T104 l0 x26_2).f0),.int .i64 ((rd_T104 l0 x26_2).f1),.int .i64 ((rd_T104 l0 x26_2).f2),.int .i64 ((rd_T104 l0 x26_2).f3),.int .i64 ((rd_T104 l0 x26_2).f4)] 104 (0,0))):=⟨by(with_reducible repeat (first|refine blk_drewN ?_ _|refine blk_drew ?_|refine blk_alloc ?_ _));refine blk_put (cs:=#[.int .i64 ((rd_T104 l0 x26_2).f0),.int .i64 ((rd_T104 l0 x26_2).f1),.int .i64 ((rd_T104 l0 x26_2).f2),.int .i64 ((rd_T104 l0 x26_2).f3),.int .i64 0]) ?_ 4 _ rfl;(with_reducible repeat (first|refine blk_drewN ?_ _|refine blk_drew ?_|refine blk_alloc ?_ _));refine blk_put (cs:=#[.int .i64 ((rd_T104 l0 x26_2).f0),.int .i64 ((rd_T104 l0 x26_2).f1),.int .i64 ((rd_T104 l0 x26_2).f2),.int .i64 0,.int .i64 0]) ?_ 3 _ rfl;(with_reducible repeat (first|refine blk_drewN ?_ _|refine blk_drew ?_|refine blk_alloc ?_ _));refine blk_put (cs:=#[.int .i64 ((rd_T104 l0 x26_2).f0),.int .i64 ((rd_T104 l0 x26_2).f1),.int .i64 0,.int .i64 0,.int .i64 0]) ?_ 2 _ rfl;(with_reducible repeat (first|refine blk_drewN ?_ _|refine blk_drew ?_|refine blk_alloc ?_ _));refine blk_put (cs:=#[.int .i64 ((rd_T104 l0 x26_2).f0),.int .i64 0,.int .i64 0,.int .i64 0,.int .i64 0]) ?_ 1 _ rfl;(with_reducible repeat (first|refine blk_drewN ?_ _|refine blk_drew ?_|refine blk_alloc ?_ _));refine blk_put (cs:=#[.int .i64 0,.int .i64 0,.int .i64 0,.int .i64 0,.int .i64 0]) ?_ 0 _ rfl;(with_reducible repeat (first|refine blk_drewN ?_ _|refine blk_drew ?_|refine blk_alloc ?_ _));exact BK251.out⟩
                   have n3_:Aside0 (Below w.heap.size w (((((w46.setCell ⟨gb251,0,none⟩ (.int .i64 ((rd_T104 l0 x26_2).f0))).setCell ⟨gb251,1,none⟩ (.int .i64 ((rd_T104 l0 x26_2).f1))).setCell ⟨gb251,2,none⟩ (.int .i64 ((rd_T104 l0 x26_2).f2))).setCell ⟨gb251,3,none⟩ (.int .i64 ((rd_T104 l0 x26_2).f3))).setCell ⟨gb251,4,none⟩ (.int .i64 ((rd_T104 l0 x26_2).f4)))):=⟨bS GE251.out⟩
                   (try clear HO_8)
                   (try clear HO_9)
                   (try clear BK251)
                   (try clear HB)
                   generalize (((((w46.setCell ⟨gb251,0,none⟩ (.int .i64 ((rd_T104 l0 x26_2).f0))).setCell ⟨gb251,1,none⟩ (.int .i64 ((rd_T104 l0 x26_2).f1))).setCell ⟨gb251,2,none⟩ (.int .i64 ((rd_T104 l0 x26_2).f2))).setCell ⟨gb251,3,none⟩ (.int .i64 ((rd_T104 l0 x26_2).f3))).setCell ⟨gb251,4,none⟩ (.int .i64 ((rd_T104 l0 x26_2).f4)))=w48 at n0_ n1_ n2_ n3_ ⊢
                   have HO_8:=n0_
                   have HO_9:=n1_
                   have BK251:=n2_
                   have HB:=n3_
                   clear n0_ n1_ n2_ n3_
                   (try (rw[drewN_self w48];generalize hq_:World.drewN w48 _=w48;have n0_:=Aside0.mk (Kd.R_at hq_ HO_8.out);have n1_:=Aside0.mk (Kd.R_at hq_ HO_9.out);have n2_:=Aside0.mk (blk_at hq_ BK251.out);have n3_:=Aside0.mk (below_at hq_ HB.out);clear hq_ HO_8 HO_9 BK251 HB;have HO_8:=n0_;have HO_9:=n1_;have BK251:=n2_;have HB:=n3_;clear n0_ n1_ n2_ n3_))
                   have n0_:=Aside0.mk (Kd.R_drew HO_8.out)
                   have n1_:=Aside0.mk (Kd.R_drew HO_9.out)
                   have n2_:=Aside0.mk (blk_drew BK251.out)
                   have n3_:=Aside0.mk (below_drew1 HB.out)
                   clear HO_8 HO_9 BK251 HB
                   have HO_8:=n0_
                   have HO_9:=n1_
                   have BK251:=n2_
                   have HB:=n3_
                   clear n0_ n1_ n2_ n3_
                   have p253:0≤(((rd_T104 l0 x26_2).f0):Int):=of_decide_eq_true (bD)
                   have q253:((rd_T104 l0 x26_2).f0) < (x8_1.length:Int):=of_decide_eq_true (bD)
                   obtain⟨ad253,e253,hx253_0⟩:=Kd.at_int (Kd.R_reads' HO_8.out).2.2 ((rd_T104 l0 x26_2).f0) p253 q253
                   obtain rfl:(⟨go8,0,none⟩:Addr)=ad253:=(by injection e253)
                   (first|simp only[add_plain] at hx253_0|simp only[add_at] at hx253_0|simp only[Addr.add,Nat.zero_add] at hx253_0|skip)
                   replace p253:=eq_true p253
                   replace q253:=eq_true q253
                   refine start_ (n:=12) (S:=fun w'=>w'.cell? ⟨gb251,0,none⟩=some (.int .i64 ((rd_T104 l0 x26_2).f0))∧w'.cell? ⟨gb251,1,none⟩=some (.int .i64 ((rd_T104 l0 x26_2).f1))∧w'.cell? ⟨gb251,2,none⟩=some (.int .i64 ((rd_T104 l0 x26_2).f2))∧w'.cell? ⟨gb251,3,none⟩=some (.int .i64 ((rd_T104 l0 x26_2).f3))∧w'.cell? ⟨gb251,4,none⟩=some (.int .i64 ((rd_T104 l0 x26_2).f4))∧w'.cell? ⟨go8,(((rd_T104 l0 x26_2).f0)).toNat,none⟩=some (.int .i64 (rd x8_1 ((rd_T104 l0 x26_2).f0)))) (ds:=[]) #[false,false,false,false,false,false,false,false,false,false,false,false] (by kernel_rfl) rfl rfl ⟨(blk_cell BK251.out 0).trans rfl,(blk_cell BK251.out 1).trans rfl,(blk_cell BK251.out 2).trans rfl,(blk_cell BK251.out 3).trans rfl,(blk_cell BK251.out 4).trans rfl,hx253_0⟩ (fun hHeld => ?_);refine with_tabW impl_reach.tab8 impl_reach.bits8 (fun HT_ HW_ => ?_)
                   generalize w48.drew=w49 at HO_8 HO_9 BK251 HB hx253_0 hHeld ⊢
                   refine pure_ (i:=1) (N:=some 39) (v:=?_) (a':=?_) #[false,true,false,false,false,false,false,false,false,false,false,false] rfl rfl (any_of HT_.out (by kernel_rfl)) (fun _ _ _ h=>h) (Or.inl ⟨by rfl,?_⟩) ?_ ?_
                   rotate_left
                   ·intro w'
                    go_simp
                    with_reducible rfl
                   rotate_left
                   ·simp only[Act.put,List.setIfInBounds_toArray,List.set_cons_zero,List.set_cons_succ,i64_w,i32_w]
                    rfl
                   refine pure_ (i:=2) (N:=some 40) (v:=?_) (a':=?_) #[false,true,true,false,false,false,false,false,false,false,false,false] rfl rfl (any_of HT_.out (by kernel_rfl)) (fun _ _ _ h=>h) (Or.inl ⟨by rfl,?_⟩) ?_ ?_
                   rotate_left
                   ·intro w'
                    go_simp
                    with_reducible rfl
                   rotate_left
                   ·simp only[Act.put,List.setIfInBounds_toArray,List.set_cons_zero,List.set_cons_succ,i64_w,i32_w]
                    rfl
                   refine take_ (i:=0) (N:=some 38) (v:=?_) (a':=?_) #[true,true,true,false,false,false,false,false,false,false,false,false] rfl rfl (take_ofW HT_.out HW_.out (by kernel_rfl)) (fun _ _ _ h=>h) (Or.inl ⟨by rfl,?_⟩) hHeld ?_ ?_
                   rotate_left
                   ·rintro w' ⟨s0,s1,s2,s3,s4,s5⟩
                    go_simp
                    with_reducible rfl
                   rotate_left
                   ·simp only[Act.put,List.setIfInBounds_toArray,List.set_cons_zero,List.set_cons_succ,i64_w,i32_w]
                    rfl
                   refine take_ (i:=3) (N:=some 41) (v:=?_) (a':=?_) #[true,true,true,true,false,false,false,false,false,false,false,false] rfl rfl (take_ofW HT_.out HW_.out (by kernel_rfl)) (fun _ _ _ h=>h) (Or.inl ⟨by rfl,?_⟩) hHeld ?_ ?_
                   rotate_left
                   ·rintro w' ⟨s0,s1,s2,s3,s4,s5⟩
                    go_simp
                    with_reducible rfl
                   rotate_left
                   ·simp only[Act.put,List.setIfInBounds_toArray,List.set_cons_zero,List.set_cons_succ,i64_w,i32_w]
                    rfl
                   refine pure_ (i:=4) (N:=some 42) (v:=?_) (a':=?_) #[true,true,true,true,true,false,false,false,false,false,false,false] rfl rfl (any_of HT_.out (by kernel_rfl)) (fun _ _ _ h=>h) (Or.inl ⟨by rfl,?_⟩) ?_ ?_
                   rotate_left
                   ·intro w'
                    go_simp
                    with_reducible rfl
                   rotate_left
                   ·simp only[Act.put,List.setIfInBounds_toArray,List.set_cons_zero,List.set_cons_succ,i64_w,i32_w]
                    rfl
                   refine take_ (i:=5) (N:=some 43) (v:=?_) (a':=?_) #[true,true,true,true,true,true,false,false,false,false,false,false] rfl rfl (take_ofW HT_.out HW_.out (by kernel_rfl)) (fun _ _ _ h=>h) (Or.inl ⟨by rfl,?_⟩) hHeld ?_ ?_
                   rotate_left
                   ·rintro w' ⟨s0,s1,s2,s3,s4,s5⟩
                    go_simp
                    with_reducible rfl
                   rotate_left
                   ·simp only[Act.put,List.setIfInBounds_toArray,List.set_cons_zero,List.set_cons_succ,i64_w,i32_w]
                    rfl
                   refine one_ (i:=6) (N:=some 44) #[true,true,true,true,true,true,true,false,false,false,false,false] rfl rfl (one_of HT_.out (by kernel_rfl)) (by decide) (fun K hK => ?_)
                   refine goes_ Try.func122 (by kernel_rfl) rfl #[.agg #[.int .i64 ((rd_T104 l0 x26_2).f0),.int .i64 ((rd_T104 l0 x26_2).f1),.int .i64 ((rd_T104 l0 x26_2).f2),.int .i64 ((rd_T104 l0 x26_2).f3),.int .i64 ((rd_T104 l0 x26_2).f4)],.int .i64 (rd x8_1 ((rd_T104 l0 x26_2).f0))] (by rfl) rfl rfl (by(try simp only[List.map_toArray,List.map_cons,List.map_nil]);first|done|rfl|(simp only[List.length_drop,List.length_take];rfl)) ?_
                   with_reducible refine(impl_Contact_by.calls ((rd_T104 l0 x26_2).f0) ((rd_T104 l0 x26_2).f1) ((rd_T104 l0 x26_2).f2) ((rd_T104 l0 x26_2).f3) ((rd_T104 l0 x26_2).f4) (rd x8_1 ((rd_T104 l0 x26_2).f0)) t254 true _ A27.out).mono ?_
                   rintro e w50 ⟨rfl,hb⟩
                   have HS5_:=(hb.cell (World.block_lt_of_cell? _ _ (hHeld.2.2.2.2.2))).trans (hHeld.2.2.2.2.2)
                   refine⟨_,rfl,?_⟩
                   have n0_:=Aside0.mk (Kd.R_below (bK HO_8.out) hb)
                   have n1_:=Aside0.mk (Kd.R_below (bK HO_9.out) hb)
                   have n2_:=Aside0.mk (bM BK251.out hb)
                   have n3_:=Aside0.mk (below_step (bS GE251.out) hb)
                   clear HO_8 HO_9 BK251 HB
                   have HO_8:=n0_
                   have HO_9:=n1_
                   have BK251:=n2_
                   have HB:=n3_
                   clear n0_ n1_ n2_ n3_
                   (try clear hb)
                   (try clear hb2)
                   (try clear hk)
                   (try clear hi)
                   refine hK.out _ _ ⟨(blk_cell BK251.out 0).trans rfl,(blk_cell BK251.out 1).trans rfl,(blk_cell BK251.out 2).trans rfl,(blk_cell BK251.out 3).trans rfl,(blk_cell BK251.out 4).trans rfl,HS5_⟩ (fun hHeld => ?_)
                   clear hK K
                   refine norm_ (a':=?_) ?_ ?_
                   rotate_left
                   ·show Act.put _ (some 44) _=_
                    simp only[Act.put,List.setIfInBounds_toArray,List.set_cons_zero,List.set_cons_succ,i64_w,i32_w]
                    rfl
                   refine pure_ (i:=7) (N:=some 37) (v:=?_) (a':=?_) #[true,true,true,true,true,true,true,true,false,false,false,false] rfl rfl (any_of HT_.out (by kernel_rfl)) (fun _ _ _ h=>h) (Or.inl ⟨by rfl,?_⟩) ?_ ?_
                   rotate_left
                   ·intro w'
                    go_simp
                    with_reducible rfl
                   rotate_left
                   ·simp only[Act.put,List.setIfInBounds_toArray,List.set_cons_zero,List.set_cons_succ,i64_w,i32_w]
                    rfl
                   refine pure_ (i:=8) (N:=some 45) (v:=?_) (a':=?_) #[true,true,true,true,true,true,true,true,true,false,false,false] rfl rfl (any_of HT_.out (by kernel_rfl)) (fun _ _ _ h=>h) (Or.inl ⟨by rfl,?_⟩) ?_ ?_
                   rotate_left
                   ·intro w'
                    go_simp
                    with_reducible rfl
                   rotate_left
                   ·simp only[Act.put,List.setIfInBounds_toArray,List.set_cons_zero,List.set_cons_succ,i64_w,i32_w]
                    rfl
                   refine pure_ (i:=9) (N:=some 46) (v:=?_) (a':=?_) #[true,true,true,true,true,true,true,true,true,true,false,false] rfl rfl (any_of HT_.out (by kernel_rfl)) (fun _ _ _ h=>h) (Or.inl ⟨by rfl,?_⟩) ?_ ?_
                   rotate_left
                   ·intro w'
                    go_simp
                    with_reducible rfl
                   rotate_left
                   ·simp only[Act.put,List.setIfInBounds_toArray,List.set_cons_zero,List.set_cons_succ,i64_w,i32_w]
                    rfl
                   refine pure_ (i:=10) (N:=some 14) (v:=?_) (a':=?_) #[true,true,true,true,true,true,true,true,true,true,true,false] rfl rfl (any_of HT_.out (by kernel_rfl)) (fun _ _ _ h=>h) (Or.inl ⟨by rfl,?_⟩) ?_ ?_
                   rotate_left
                   ·intro w'
                    go_simp
                    with_reducible rfl
                   rotate_left
                   ·simp only[Act.put,List.setIfInBounds_toArray,List.set_cons_zero,List.set_cons_succ,i64_w,i32_w]
                    rfl
                   refine pure_ (i:=11) (N:=some 15) (v:=?_) (a':=?_) #[true,true,true,true,true,true,true,true,true,true,true,true] rfl rfl (any_of HT_.out (by kernel_rfl)) (fun _ _ _ h=>h) (Or.inl ⟨by rfl,?_⟩) ?_ ?_
                   rotate_left
                   ·intro w'
                    go_simp
                    with_reducible rfl
                   rotate_left
                   ·simp only[Act.put,List.setIfInBounds_toArray,List.set_cons_zero,List.set_cons_succ,i64_w,i32_w]
                    rfl
                   refine done_ (done_of HT_.out (by kernel_rfl)) ?_
                   obtain⟨hcz51_0,hcz51_1,hcz51_2,hcz51_3,hcz51_4⟩:=cC5 BK251.out
                   obtain⟨hfz51_0,hfz51_1,hfz51_2,hfz51_3,hfz51_4⟩:=cF5 BK251.out
                   have p256:0≤(((rd_T104 l0 x26_2).f1):Int):=of_decide_eq_true (bD)
                   have q256:((rd_T104 l0 x26_2).f1) < (x8_1.length:Int):=of_decide_eq_true (bD)
                   obtain⟨ad256,e256,hx256_0⟩:=Kd.at_int (Kd.R_reads' HO_8.out).2.2 ((rd_T104 l0 x26_2).f1) p256 q256
                   obtain rfl:(⟨go8,0,none⟩:Addr)=ad256:=(by injection e256)
                   (first|simp only[add_plain] at hx256_0|simp only[add_at] at hx256_0|simp only[Addr.add,Nat.zero_add] at hx256_0|skip)
                   replace p256:=eq_true p256
                   replace q256:=eq_true q256
                   try go_wp2
                   go_roundg k2
                   case measure=>have:=HK1.out;have:=HK2.out;omega
                   case rel=>exact⟨(x10_2),(x11_2),(wrap64 (x26_2+1)),(bR),(bR),(bR),H',⟨by have:=HK1.out;have:=HK2.out;omega⟩,⟨by(try simp only[hl8_1]);(with_reducible repeat (first|apply Kd.R_alloc|apply Kd.R_drewN|apply Kd.R_drew));exact HO_8.out⟩,⟨by(try simp only[hl8_1]);(with_reducible repeat (first|apply Kd.R_alloc|apply Kd.R_drewN|apply Kd.R_drew));exact HO_9.out⟩,⟨bS GE251.out⟩⟩
                ·rw[if_neg c31] at H
                 have c31b0:decide ((rd x8_1 ((rd_T104 l0 x26_2).f1)) < 0)=false:=decide_eq_false c31
                 clear c31
                 by_cases c52:t254 < (rd x8_1 ((rd_T104 l0 x26_2).f1))
                 ·rw[if_pos c52] at H
                  have c52b0:decide (t254 < (rd x8_1 ((rd_T104 l0 x26_2).f1)))=true:=decide_eq_true c52
                  clear c52
                  by_cases c53:x10_2 < 0
                  ·rw[if_pos c53] at H
                   have c53b0:decide (x10_2 < 0)=true:=decide_eq_true c53
                   clear c53
                   have H':=Aside0.mk H
                   clear H
                   have p250:0≤(x26_2:Int):=of_decide_eq_true (bD)
                   have q250:x26_2 < (l0.length:Int):=of_decide_eq_true (bD)
                   obtain⟨ad250,e250,hx250_0,hx250_1,hx250_2,hx250_3,hx250_4⟩:=at_T104 HR0.out x26_2 p250 q250
                   cases e250
                   replace hx250_0:=(HB.out.cell (World.block_lt_of_cell? w _ hx250_0)).trans hx250_0
                   replace hx250_1:=(HB.out.cell (World.block_lt_of_cell? w _ hx250_1)).trans hx250_1
                   replace hx250_2:=(HB.out.cell (World.block_lt_of_cell? w _ hx250_2)).trans hx250_2
                   replace hx250_3:=(HB.out.cell (World.block_lt_of_cell? w _ hx250_3)).trans hx250_3
                   replace hx250_4:=(HB.out.cell (World.block_lt_of_cell? w _ hx250_4)).trans hx250_4
                   replace p250:=eq_true p250
                   replace q250:=eq_true q250
                   try go_wp2_with (first|((with_reducible refine gate_dst (N:=13) rfl ?_);refine box_event ?hg (N:=13) ?hd (cs:=#[.int .i64 0,.int .i64 0,.int .i64 0,.int .i64 0,.int .i64 0]) (t:=104) ?hr ?_;(case hd=>rfl);(case hg=>rfl);(case hr=>first|(go_simp;done)|(go_simp;rfl));intro gb251 hg w54 hbox hb;have n0_:=Aside0.mk (Kd.R_below (bK HO_8.out) hb);have n1_:=Aside0.mk (Kd.R_below (bK HO_9.out) hb);have n2_:=Aside0.mk (below_step (bB) hb);have n3_:=Aside0.mk (hbox);have n4_:=Aside0.mk ((bG:w.heap.size≤gb251));have n5_:=Aside0.mk ((bG:w.heap.size≤gb251));clear HO_8 HO_9 HB;have HO_8:=n0_;have HO_9:=n1_;have HB:=n2_;have BK251:=n3_;have GW251:=n4_;have GE251:=n5_;clear n0_ n1_ n2_ n3_ n4_ n5_;clear hb hbox hg;obtain⟨hcz55_0,hcz55_1,hcz55_2,hcz55_3,hcz55_4⟩:=cC5 BK251.out;obtain⟨hfz55_0,hfz55_1,hfz55_2,hfz55_3,hfz55_4⟩:=cF5 BK251.out;have p252:0≤(((rd_T104 l0 x26_2).f0):Int):=of_decide_eq_true (bD);have q252:((rd_T104 l0 x26_2).f0) < (x8_1.length:Int):=of_decide_eq_true (bD);obtain⟨ad252,e252,hx252_0⟩:=Kd.at_int (Kd.R_reads' HO_8.out).2.2 ((rd_T104 l0 x26_2).f0) p252 q252;obtain rfl:(⟨go8,0,none⟩:Addr)=ad252:=(by injection e252);(first|simp only[add_plain] at hx252_0|simp only[add_at] at hx252_0|simp only[Addr.add,Nat.zero_add] at hx252_0|skip);have hn252_0:(⟨go8,0,none⟩:Addr).block≠gb251:=Kd.own_blk (Kd.R_ne HO_8.out BK251.out (by decide));have hn252_1:(⟨go8,0,none⟩:Addr).block≠gb251:=Kd.own_blk (Kd.R_ne HO_8.out BK251.out (by decide));have hn252_2:(⟨go8,0,none⟩:Addr).block≠gb251:=Kd.own_blk (Kd.R_ne HO_8.out BK251.out (by decide));have hn252_3:(⟨go8,0,none⟩:Addr).block≠gb251:=Kd.own_blk (Kd.R_ne HO_8.out BK251.out (by decide));have hn252_4:(⟨go8,0,none⟩:Addr).block≠gb251:=Kd.own_blk (Kd.R_ne HO_8.out BK251.out (by decide));replace hx252_0:=(cell_far (p:=⟨gb251,0,none⟩) (bA hn252_0) (.int .i64 ((rd_T104 l0 x26_2).f0))).trans hx252_0;replace hx252_0:=(cell_far (p:=⟨gb251,1,none⟩) (bA hn252_1) (.int .i64 ((rd_T104 l0 x26_2).f1))).trans hx252_0;replace hx252_0:=(cell_far (p:=⟨gb251,2,none⟩) (bA hn252_2) (.int .i64 ((rd_T104 l0 x26_2).f2))).trans hx252_0;replace hx252_0:=(cell_far (p:=⟨gb251,3,none⟩) (bA hn252_3) (.int .i64 ((rd_T104 l0 x26_2).f3))).trans hx252_0;replace hx252_0:=(cell_far (p:=⟨gb251,4,none⟩) (bA hn252_4) (.int .i64 ((rd_T104 l0 x26_2).f4))).trans hx252_0;clear hn252_0 hn252_1 hn252_2 hn252_3 hn252_4;replace p252:=eq_true p252;replace q252:=eq_true q252))
                   have n0_:Aside0 (Kd.R (Kd.int .i64) 3 (((((w54.setCell ⟨gb251,0,none⟩ (.int .i64 ((rd_T104 l0 x26_2).f0))).setCell ⟨gb251,1,none⟩ (.int .i64 ((rd_T104 l0 x26_2).f1))).setCell ⟨gb251,2,none⟩ (.int .i64 ((rd_T104 l0 x26_2).f2))).setCell ⟨gb251,3,none⟩ (.int .i64 ((rd_T104 l0 x26_2).f3))).setCell ⟨gb251,4,none⟩ (.int .i64 ((rd_T104 l0 x26_2).f4))) w.heap.size (fun k_=>some k_≠(v243:Value).ownBlock) (.slice (some ⟨go8,0,none⟩) x8_1.length co8) x8_1):=⟨by(with_reducible repeat (first|apply Kd.R_alloc|apply Kd.R_drewN|apply Kd.R_drew));exact Kd.R_mono (Kd.R_far (p:=⟨gb251,4,none⟩) (Kd.R_far (p:=⟨gb251,3,none⟩) (Kd.R_far (p:=⟨gb251,2,none⟩) (Kd.R_far (p:=⟨gb251,1,none⟩) (Kd.R_far (p:=⟨gb251,0,none⟩) (Kd.R_types HO_8.out BK251.out (by decide)) (fun _ hk=>hk.2) (.int .i64 ((rd_T104 l0 x26_2).f0))) (fun _ hk=>hk.2) (.int .i64 ((rd_T104 l0 x26_2).f1))) (fun _ hk=>hk.2) (.int .i64 ((rd_T104 l0 x26_2).f2))) (fun _ hk=>hk.2) (.int .i64 ((rd_T104 l0 x26_2).f3))) (fun _ hk=>hk.2) (.int .i64 ((rd_T104 l0 x26_2).f4))) (fun _ hk=>hk.1)⟩
                   have n1_:Aside0 (Kd.R (Kd.int .i64) 3 (((((w54.setCell ⟨gb251,0,none⟩ (.int .i64 ((rd_T104 l0 x26_2).f0))).setCell ⟨gb251,1,none⟩ (.int .i64 ((rd_T104 l0 x26_2).f1))).setCell ⟨gb251,2,none⟩ (.int .i64 ((rd_T104 l0 x26_2).f2))).setCell ⟨gb251,3,none⟩ (.int .i64 ((rd_T104 l0 x26_2).f3))).setCell ⟨gb251,4,none⟩ (.int .i64 ((rd_T104 l0 x26_2).f4))) w.heap.size (fun k_=>some k_≠(.slice (some ⟨go8,0,none⟩) x8_1.length co8:Value).ownBlock) v243 x9_1):=⟨by(with_reducible repeat (first|apply Kd.R_alloc|apply Kd.R_drewN|apply Kd.R_drew));exact Kd.R_mono (Kd.R_far (p:=⟨gb251,4,none⟩) (Kd.R_far (p:=⟨gb251,3,none⟩) (Kd.R_far (p:=⟨gb251,2,none⟩) (Kd.R_far (p:=⟨gb251,1,none⟩) (Kd.R_far (p:=⟨gb251,0,none⟩) (Kd.R_types HO_9.out BK251.out (by decide)) (fun _ hk=>hk.2) (.int .i64 ((rd_T104 l0 x26_2).f0))) (fun _ hk=>hk.2) (.int .i64 ((rd_T104 l0 x26_2).f1))) (fun _ hk=>hk.2) (.int .i64 ((rd_T104 l0 x26_2).f2))) (fun _ hk=>hk.2) (.int .i64 ((rd_T104 l0 x26_2).f3))) (fun _ hk=>hk.2) (.int .i64 ((rd_T104 l0 x26_2).f4))) (fun _ hk=>hk.1)⟩
                   have n2_:Aside0 ((((((w54.setCell ⟨gb251,0,none⟩ (.int .i64 ((rd_T104 l0 x26_2).f0))).setCell ⟨gb251,1,none⟩ (.int .i64 ((rd_T104 l0 x26_2).f1))).setCell ⟨gb251,2,none⟩ (.int .i64 ((rd_T104 l0 x26_2).f2))).setCell ⟨gb251,3,none⟩ (.int .i64 ((rd_T104 l0 x26_2).f3))).setCell ⟨gb251,4,none⟩ (.int .i64 ((rd_T104 l0 x26_2).f4))).heap[gb251]?=some (.cells #[.int .i64 ((rd_T104 l0 x26_2).f0),.int .i64 ((rd_T104 l0 x26_2).f1),.int .i64 ((rd_T104 l0 x26_2).f2),.int .i64 ((rd_T104 l0 x26_2).f3),.int .i64 ((rd_T104 l0 x26_2).f4)] 104 (0,0))):=⟨by(with_reducible repeat (first|refine blk_drewN ?_ _|refine blk_drew ?_|refine blk_alloc ?_ _));refine blk_put (cs:=#[.int .i64 ((rd_T104 l0 x26_2).f0),.int .i64 ((rd_T104 l0 x26_2).f1),.int .i64 ((rd_T104 l0 x26_2).f2),.int .i64 ((rd_T104 l0 x26_2).f3),.int .i64 0]) ?_ 4 _ rfl;(with_reducible repeat (first|refine blk_drewN ?_ _|refine blk_drew ?_|refine blk_alloc ?_ _));refine blk_put (cs:=#[.int .i64 ((rd_T104 l0 x26_2).f0),.int .i64 ((rd_T104 l0 x26_2).f1),.int .i64 ((rd_T104 l0 x26_2).f2),.int .i64 0,.int .i64 0]) ?_ 3 _ rfl;(with_reducible repeat (first|refine blk_drewN ?_ _|refine blk_drew ?_|refine blk_alloc ?_ _));refine blk_put (cs:=#[.int .i64 ((rd_T104 l0 x26_2).f0),.int .i64 ((rd_T104 l0 x26_2).f1),.int .i64 0,.int .i64 0,.int .i64 0]) ?_ 2 _ rfl;(with_reducible repeat (first|refine blk_drewN ?_ _|refine blk_drew ?_|refine blk_alloc ?_ _));refine blk_put (cs:=#[.int .i64 ((rd_T104 l0 x26_2).f0),.int .i64 0,.int .i64 0,.int .i64 0,.int .i64 0]) ?_ 1 _ rfl;(with_reducible repeat (first|refine blk_drewN ?_ _|refine blk_drew ?_|refine blk_alloc ?_ _));refine blk_put (cs:=#[.int .i64 0,.int .i64 0,.int .i64 0,.int .i64 0,.int .i64 0]) ?_ 0 _ rfl;(with_reducible repeat (first|refine blk_drewN ?_ _|refine blk_drew ?_|refine blk_alloc ?_ _));exact BK251.out⟩
                   have n3_:Aside0 (Below w.heap.size w (((((w54.setCell ⟨gb251,0,none⟩ (.int .i64 ((rd_T104 l0 x26_2).f0))).setCell ⟨gb251,1,none⟩ (.int .i64 ((rd_T104 l0 x26_2).f1))).setCell ⟨gb251,2,none⟩ (.int .i64 ((rd_T104 l0 x26_2).f2))).setCell ⟨gb251,3,none⟩ (.int .i64 ((rd_T104 l0 x26_2).f3))).setCell ⟨gb251,4,none⟩ (.int .i64 ((rd_T104 l0 x26_2).f4)))):=⟨bS GE251.out⟩
                   (try clear HO_8)
                   (try clear HO_9)
                   (try clear BK251)
                   (try clear HB)
                   generalize (((((w54.setCell ⟨gb251,0,none⟩ (.int .i64 ((rd_T104 l0 x26_2).f0))).setCell ⟨gb251,1,none⟩ (.int .i64 ((rd_T104 l0 x26_2).f1))).setCell ⟨gb251,2,none⟩ (.int .i64 ((rd_T104 l0 x26_2).f2))).setCell ⟨gb251,3,none⟩ (.int .i64 ((rd_T104 l0 x26_2).f3))).setCell ⟨gb251,4,none⟩ (.int .i64 ((rd_T104 l0 x26_2).f4)))=w56 at n0_ n1_ n2_ n3_ ⊢
                   have HO_8:=n0_
                   have HO_9:=n1_
                   have BK251:=n2_
                   have HB:=n3_
                   clear n0_ n1_ n2_ n3_
                   (try (rw[drewN_self w56];generalize hq_:World.drewN w56 _=w56;have n0_:=Aside0.mk (Kd.R_at hq_ HO_8.out);have n1_:=Aside0.mk (Kd.R_at hq_ HO_9.out);have n2_:=Aside0.mk (blk_at hq_ BK251.out);have n3_:=Aside0.mk (below_at hq_ HB.out);clear hq_ HO_8 HO_9 BK251 HB;have HO_8:=n0_;have HO_9:=n1_;have BK251:=n2_;have HB:=n3_;clear n0_ n1_ n2_ n3_))
                   have n0_:=Aside0.mk (Kd.R_drew HO_8.out)
                   have n1_:=Aside0.mk (Kd.R_drew HO_9.out)
                   have n2_:=Aside0.mk (blk_drew BK251.out)
                   have n3_:=Aside0.mk (below_drew1 HB.out)
                   clear HO_8 HO_9 BK251 HB
                   have HO_8:=n0_
                   have HO_9:=n1_
                   have BK251:=n2_
                   have HB:=n3_
                   clear n0_ n1_ n2_ n3_
                   have p253:0≤(((rd_T104 l0 x26_2).f0):Int):=of_decide_eq_true (bD)
                   have q253:((rd_T104 l0 x26_2).f0) < (x8_1.length:Int):=of_decide_eq_true (bD)
                   obtain⟨ad253,e253,hx253_0⟩:=Kd.at_int (Kd.R_reads' HO_8.out).2.2 ((rd_T104 l0 x26_2).f0) p253 q253
                   obtain rfl:(⟨go8,0,none⟩:Addr)=ad253:=(by injection e253)
                   (first|simp only[add_plain] at hx253_0|simp only[add_at] at hx253_0|simp only[Addr.add,Nat.zero_add] at hx253_0|skip)
                   replace p253:=eq_true p253
                   replace q253:=eq_true q253
                   refine start_ (n:=12) (S:=fun w'=>w'.cell? ⟨gb251,0,none⟩=some (.int .i64 ((rd_T104 l0 x26_2).f0))∧w'.cell? ⟨gb251,1,none⟩=some (.int .i64 ((rd_T104 l0 x26_2).f1))∧w'.cell? ⟨gb251,2,none⟩=some (.int .i64 ((rd_T104 l0 x26_2).f2))∧w'.cell? ⟨gb251,3,none⟩=some (.int .i64 ((rd_T104 l0 x26_2).f3))∧w'.cell? ⟨gb251,4,none⟩=some (.int .i64 ((rd_T104 l0 x26_2).f4))∧w'.cell? ⟨go8,(((rd_T104 l0 x26_2).f0)).toNat,none⟩=some (.int .i64 (rd x8_1 ((rd_T104 l0 x26_2).f0)))) (ds:=[]) #[false,false,false,false,false,false,false,false,false,false,false,false] (by kernel_rfl) rfl rfl ⟨(blk_cell BK251.out 0).trans rfl,(blk_cell BK251.out 1).trans rfl,(blk_cell BK251.out 2).trans rfl,(blk_cell BK251.out 3).trans rfl,(blk_cell BK251.out 4).trans rfl,hx253_0⟩ (fun hHeld => ?_);refine with_tabW impl_reach.tab8 impl_reach.bits8 (fun HT_ HW_ => ?_)
                   generalize w56.drew=w57 at HO_8 HO_9 BK251 HB hx253_0 hHeld ⊢
                   refine pure_ (i:=1) (N:=some 39) (v:=?_) (a':=?_) #[false,true,false,false,false,false,false,false,false,false,false,false] rfl rfl (any_of HT_.out (by kernel_rfl)) (fun _ _ _ h=>h) (Or.inl ⟨by rfl,?_⟩) ?_ ?_
                   rotate_left
                   ·intro w'
                    go_simp
                    with_reducible rfl
                   rotate_left
                   ·simp only[Act.put,List.setIfInBounds_toArray,List.set_cons_zero,List.set_cons_succ,i64_w,i32_w]
                    rfl
                   refine pure_ (i:=2) (N:=some 40) (v:=?_) (a':=?_) #[false,true,true,false,false,false,false,false,false,false,false,false] rfl rfl (any_of HT_.out (by kernel_rfl)) (fun _ _ _ h=>h) (Or.inl ⟨by rfl,?_⟩) ?_ ?_
                   rotate_left
                   ·intro w'
                    go_simp
                    with_reducible rfl
                   rotate_left
                   ·simp only[Act.put,List.setIfInBounds_toArray,List.set_cons_zero,List.set_cons_succ,i64_w,i32_w]
                    rfl
                   refine take_ (i:=0) (N:=some 38) (v:=?_) (a':=?_) #[true,true,true,false,false,false,false,false,false,false,false,false] rfl rfl (take_ofW HT_.out HW_.out (by kernel_rfl)) (fun _ _ _ h=>h) (Or.inl ⟨by rfl,?_⟩) hHeld ?_ ?_
                   rotate_left
                   ·rintro w' ⟨s0,s1,s2,s3,s4,s5⟩
                    go_simp
                    with_reducible rfl
                   rotate_left
                   ·simp only[Act.put,List.setIfInBounds_toArray,List.set_cons_zero,List.set_cons_succ,i64_w,i32_w]
                    rfl
                   refine take_ (i:=3) (N:=some 41) (v:=?_) (a':=?_) #[true,true,true,true,false,false,false,false,false,false,false,false] rfl rfl (take_ofW HT_.out HW_.out (by kernel_rfl)) (fun _ _ _ h=>h) (Or.inl ⟨by rfl,?_⟩) hHeld ?_ ?_
                   rotate_left
                   ·rintro w' ⟨s0,s1,s2,s3,s4,s5⟩
                    go_simp
                    with_reducible rfl
                   rotate_left
                   ·simp only[Act.put,List.setIfInBounds_toArray,List.set_cons_zero,List.set_cons_succ,i64_w,i32_w]
                    rfl
                   refine pure_ (i:=4) (N:=some 42) (v:=?_) (a':=?_) #[true,true,true,true,true,false,false,false,false,false,false,false] rfl rfl (any_of HT_.out (by kernel_rfl)) (fun _ _ _ h=>h) (Or.inl ⟨by rfl,?_⟩) ?_ ?_
                   rotate_left
                   ·intro w'
                    go_simp
                    with_reducible rfl
                   rotate_left
                   ·simp only[Act.put,List.setIfInBounds_toArray,List.set_cons_zero,List.set_cons_succ,i64_w,i32_w]
                    rfl
                   refine take_ (i:=5) (N:=some 43) (v:=?_) (a':=?_) #[true,true,true,true,true,true,false,false,false,false,false,false] rfl rfl (take_ofW HT_.out HW_.out (by kernel_rfl)) (fun _ _ _ h=>h) (Or.inl ⟨by rfl,?_⟩) hHeld ?_ ?_
                   rotate_left
                   ·rintro w' ⟨s0,s1,s2,s3,s4,s5⟩
                    go_simp
                    with_reducible rfl
                   rotate_left
                   ·simp only[Act.put,List.setIfInBounds_toArray,List.set_cons_zero,List.set_cons_succ,i64_w,i32_w]
                    rfl
                   refine one_ (i:=6) (N:=some 44) #[true,true,true,true,true,true,true,false,false,false,false,false] rfl rfl (one_of HT_.out (by kernel_rfl)) (by decide) (fun K hK => ?_)
                   refine goes_ Try.func122 (by kernel_rfl) rfl #[.agg #[.int .i64 ((rd_T104 l0 x26_2).f0),.int .i64 ((rd_T104 l0 x26_2).f1),.int .i64 ((rd_T104 l0 x26_2).f2),.int .i64 ((rd_T104 l0 x26_2).f3),.int .i64 ((rd_T104 l0 x26_2).f4)],.int .i64 (rd x8_1 ((rd_T104 l0 x26_2).f0))] (by rfl) rfl rfl (by(try simp only[List.map_toArray,List.map_cons,List.map_nil]);first|done|rfl|(simp only[List.length_drop,List.length_take];rfl)) ?_
                   with_reducible refine(impl_Contact_by.calls ((rd_T104 l0 x26_2).f0) ((rd_T104 l0 x26_2).f1) ((rd_T104 l0 x26_2).f2) ((rd_T104 l0 x26_2).f3) ((rd_T104 l0 x26_2).f4) (rd x8_1 ((rd_T104 l0 x26_2).f0)) t254 true _ A27.out).mono ?_
                   rintro e w58 ⟨rfl,hb⟩
                   have HS5_:=(hb.cell (World.block_lt_of_cell? _ _ (hHeld.2.2.2.2.2))).trans (hHeld.2.2.2.2.2)
                   refine⟨_,rfl,?_⟩
                   have n0_:=Aside0.mk (Kd.R_below (bK HO_8.out) hb)
                   have n1_:=Aside0.mk (Kd.R_below (bK HO_9.out) hb)
                   have n2_:=Aside0.mk (bM BK251.out hb)
                   have n3_:=Aside0.mk (below_step (bS GE251.out) hb)
                   clear HO_8 HO_9 BK251 HB
                   have HO_8:=n0_
                   have HO_9:=n1_
                   have BK251:=n2_
                   have HB:=n3_
                   clear n0_ n1_ n2_ n3_
                   (try clear hb)
                   (try clear hb2)
                   (try clear hk)
                   (try clear hi)
                   refine hK.out _ _ ⟨(blk_cell BK251.out 0).trans rfl,(blk_cell BK251.out 1).trans rfl,(blk_cell BK251.out 2).trans rfl,(blk_cell BK251.out 3).trans rfl,(blk_cell BK251.out 4).trans rfl,HS5_⟩ (fun hHeld => ?_)
                   clear hK K
                   refine norm_ (a':=?_) ?_ ?_
                   rotate_left
                   ·show Act.put _ (some 44) _=_
                    simp only[Act.put,List.setIfInBounds_toArray,List.set_cons_zero,List.set_cons_succ,i64_w,i32_w]
                    rfl
                   refine pure_ (i:=7) (N:=some 37) (v:=?_) (a':=?_) #[true,true,true,true,true,true,true,true,false,false,false,false] rfl rfl (any_of HT_.out (by kernel_rfl)) (fun _ _ _ h=>h) (Or.inl ⟨by rfl,?_⟩) ?_ ?_
                   rotate_left
                   ·intro w'
                    go_simp
                    with_reducible rfl
                   rotate_left
                   ·simp only[Act.put,List.setIfInBounds_toArray,List.set_cons_zero,List.set_cons_succ,i64_w,i32_w]
                    rfl
                   refine pure_ (i:=8) (N:=some 45) (v:=?_) (a':=?_) #[true,true,true,true,true,true,true,true,true,false,false,false] rfl rfl (any_of HT_.out (by kernel_rfl)) (fun _ _ _ h=>h) (Or.inl ⟨by rfl,?_⟩) ?_ ?_
                   rotate_left
                   ·intro w'
                    go_simp
                    with_reducible rfl
                   rotate_left
                   ·simp only[Act.put,List.setIfInBounds_toArray,List.set_cons_zero,List.set_cons_succ,i64_w,i32_w]
                    rfl
                   refine pure_ (i:=9) (N:=some 46) (v:=?_) (a':=?_) #[true,true,true,true,true,true,true,true,true,true,false,false] rfl rfl (any_of HT_.out (by kernel_rfl)) (fun _ _ _ h=>h) (Or.inl ⟨by rfl,?_⟩) ?_ ?_
                   rotate_left
                   ·intro w'
                    go_simp
                    with_reducible rfl
                   rotate_left
                   ·simp only[Act.put,List.setIfInBounds_toArray,List.set_cons_zero,List.set_cons_succ,i64_w,i32_w]
                    rfl
                   refine pure_ (i:=10) (N:=some 14) (v:=?_) (a':=?_) #[true,true,true,true,true,true,true,true,true,true,true,false] rfl rfl (any_of HT_.out (by kernel_rfl)) (fun _ _ _ h=>h) (Or.inl ⟨by rfl,?_⟩) ?_ ?_
                   rotate_left
                   ·intro w'
                    go_simp
                    with_reducible rfl
                   rotate_left
                   ·simp only[Act.put,List.setIfInBounds_toArray,List.set_cons_zero,List.set_cons_succ,i64_w,i32_w]
                    rfl
                   refine pure_ (i:=11) (N:=some 15) (v:=?_) (a':=?_) #[true,true,true,true,true,true,true,true,true,true,true,true] rfl rfl (any_of HT_.out (by kernel_rfl)) (fun _ _ _ h=>h) (Or.inl ⟨by rfl,?_⟩) ?_ ?_
                   rotate_left
                   ·intro w'
                    go_simp
                    with_reducible rfl
                   rotate_left
                   ·simp only[Act.put,List.setIfInBounds_toArray,List.set_cons_zero,List.set_cons_succ,i64_w,i32_w]
                    rfl
                   refine done_ (done_of HT_.out (by kernel_rfl)) ?_
                   obtain⟨hcz59_0,hcz59_1,hcz59_2,hcz59_3,hcz59_4⟩:=cC5 BK251.out
                   obtain⟨hfz59_0,hfz59_1,hfz59_2,hfz59_3,hfz59_4⟩:=cF5 BK251.out
                   have p256:0≤(((rd_T104 l0 x26_2).f1):Int):=of_decide_eq_true (bD)
                   have q256:((rd_T104 l0 x26_2).f1) < (x8_1.length:Int):=of_decide_eq_true (bD)
                   obtain⟨ad256,e256,hx256_0⟩:=Kd.at_int (Kd.R_reads' HO_8.out).2.2 ((rd_T104 l0 x26_2).f1) p256 q256
                   obtain rfl:(⟨go8,0,none⟩:Addr)=ad256:=(by injection e256)
                   (first|simp only[add_plain] at hx256_0|simp only[add_at] at hx256_0|simp only[Addr.add,Nat.zero_add] at hx256_0|skip)
                   replace p256:=eq_true p256
                   replace q256:=eq_true q256
                   have p257:0≤(((rd_T104 l0 x26_2).f1):Int):=of_decide_eq_true (bD)
                   have q257:((rd_T104 l0 x26_2).f1) < (x8_1.length:Int):=of_decide_eq_true (bD)
                   obtain⟨ad257,e257,hx257_0⟩:=Kd.at_int (Kd.R_reads' HO_8.out).2.2 ((rd_T104 l0 x26_2).f1) p257 q257
                   obtain rfl:(⟨go8,0,none⟩:Addr)=ad257:=(by injection e257)
                   (first|simp only[add_plain] at hx257_0|simp only[add_at] at hx257_0|simp only[Addr.add,Nat.zero_add] at hx257_0|skip)
                   replace p257:=eq_true p257
                   replace q257:=eq_true q257
                   try go_wp2
                   go_roundg k2
                   case measure=>have:=HK1.out;have:=HK2.out;omega
                   case rel=>exact⟨(x26_2),(t254),(wrap64 (x26_2+1)),(bR),(bR),(bR),H',⟨by have:=HK1.out;have:=HK2.out;omega⟩,⟨by(try simp only[hl8_1]);(with_reducible repeat (first|apply Kd.R_alloc|apply Kd.R_drewN|apply Kd.R_drew));exact HO_8.out⟩,⟨by(try simp only[hl8_1]);(with_reducible repeat (first|apply Kd.R_alloc|apply Kd.R_drewN|apply Kd.R_drew));exact HO_9.out⟩,⟨bS GE251.out⟩⟩
                  ·rw[if_neg c53] at H
                   have c53b0:decide (x10_2 < 0)=false:=decide_eq_false c53
                   clear c53
                   by_cases c60:t254 < x11_2
                   ·rw[if_pos c60] at H
                    have c60b0:decide (t254 < x11_2)=true:=decide_eq_true c60
                    clear c60
                    have H':=Aside0.mk H
                    clear H
                    have p250:0≤(x26_2:Int):=of_decide_eq_true (bD)
                    have q250:x26_2 < (l0.length:Int):=of_decide_eq_true (bD)
                    obtain⟨ad250,e250,hx250_0,hx250_1,hx250_2,hx250_3,hx250_4⟩:=at_T104 HR0.out x26_2 p250 q250
                    cases e250
                    replace hx250_0:=(HB.out.cell (World.block_lt_of_cell? w _ hx250_0)).trans hx250_0
                    replace hx250_1:=(HB.out.cell (World.block_lt_of_cell? w _ hx250_1)).trans hx250_1
                    replace hx250_2:=(HB.out.cell (World.block_lt_of_cell? w _ hx250_2)).trans hx250_2
                    replace hx250_3:=(HB.out.cell (World.block_lt_of_cell? w _ hx250_3)).trans hx250_3
                    replace hx250_4:=(HB.out.cell (World.block_lt_of_cell? w _ hx250_4)).trans hx250_4
                    replace p250:=eq_true p250
                    replace q250:=eq_true q250
                    try go_wp2_with (first|((with_reducible refine gate_dst (N:=13) rfl ?_);refine box_event ?hg (N:=13) ?hd (cs:=#[.int .i64 0,.int .i64 0,.int .i64 0,.int .i64 0,.int .i64 0]) (t:=104) ?hr ?_;(case hd=>rfl);(case hg=>rfl);(case hr=>first|(go_simp;done)|(go_simp;rfl));intro gb251 hg w61 hbox hb;have n0_:=Aside0.mk (Kd.R_below (bK HO_8.out) hb);have n1_:=Aside0.mk (Kd.R_below (bK HO_9.out) hb);have n2_:=Aside0.mk (below_step (bB) hb);have n3_:=Aside0.mk (hbox);have n4_:=Aside0.mk ((bG:w.heap.size≤gb251));have n5_:=Aside0.mk ((bG:w.heap.size≤gb251));clear HO_8 HO_9 HB;have HO_8:=n0_;have HO_9:=n1_;have HB:=n2_;have BK251:=n3_;have GW251:=n4_;have GE251:=n5_;clear n0_ n1_ n2_ n3_ n4_ n5_;clear hb hbox hg;obtain⟨hcz62_0,hcz62_1,hcz62_2,hcz62_3,hcz62_4⟩:=cC5 BK251.out;obtain⟨hfz62_0,hfz62_1,hfz62_2,hfz62_3,hfz62_4⟩:=cF5 BK251.out;have p252:0≤(((rd_T104 l0 x26_2).f0):Int):=of_decide_eq_true (bD);have q252:((rd_T104 l0 x26_2).f0) < (x8_1.length:Int):=of_decide_eq_true (bD);obtain⟨ad252,e252,hx252_0⟩:=Kd.at_int (Kd.R_reads' HO_8.out).2.2 ((rd_T104 l0 x26_2).f0) p252 q252;obtain rfl:(⟨go8,0,none⟩:Addr)=ad252:=(by injection e252);(first|simp only[add_plain] at hx252_0|simp only[add_at] at hx252_0|simp only[Addr.add,Nat.zero_add] at hx252_0|skip);have hn252_0:(⟨go8,0,none⟩:Addr).block≠gb251:=Kd.own_blk (Kd.R_ne HO_8.out BK251.out (by decide));have hn252_1:(⟨go8,0,none⟩:Addr).block≠gb251:=Kd.own_blk (Kd.R_ne HO_8.out BK251.out (by decide));have hn252_2:(⟨go8,0,none⟩:Addr).block≠gb251:=Kd.own_blk (Kd.R_ne HO_8.out BK251.out (by decide));have hn252_3:(⟨go8,0,none⟩:Addr).block≠gb251:=Kd.own_blk (Kd.R_ne HO_8.out BK251.out (by decide));have hn252_4:(⟨go8,0,none⟩:Addr).block≠gb251:=Kd.own_blk (Kd.R_ne HO_8.out BK251.out (by decide));replace hx252_0:=(cell_far (p:=⟨gb251,0,none⟩) (bA hn252_0) (.int .i64 ((rd_T104 l0 x26_2).f0))).trans hx252_0;replace hx252_0:=(cell_far (p:=⟨gb251,1,none⟩) (bA hn252_1) (.int .i64 ((rd_T104 l0 x26_2).f1))).trans hx252_0;replace hx252_0:=(cell_far (p:=⟨gb251,2,none⟩) (bA hn252_2) (.int .i64 ((rd_T104 l0 x26_2).f2))).trans hx252_0;replace hx252_0:=(cell_far (p:=⟨gb251,3,none⟩) (bA hn252_3) (.int .i64 ((rd_T104 l0 x26_2).f3))).trans hx252_0;replace hx252_0:=(cell_far (p:=⟨gb251,4,none⟩) (bA hn252_4) (.int .i64 ((rd_T104 l0 x26_2).f4))).trans hx252_0;clear hn252_0 hn252_1 hn252_2 hn252_3 hn252_4;replace p252:=eq_true p252;replace q252:=eq_true q252))
                    have n0_:Aside0 (Kd.R (Kd.int .i64) 3 (((((w61.setCell ⟨gb251,0,none⟩ (.int .i64 ((rd_T104 l0 x26_2).f0))).setCell ⟨gb251,1,none⟩ (.int .i64 ((rd_T104 l0 x26_2).f1))).setCell ⟨gb251,2,none⟩ (.int .i64 ((rd_T104 l0 x26_2).f2))).setCell ⟨gb251,3,none⟩ (.int .i64 ((rd_T104 l0 x26_2).f3))).setCell ⟨gb251,4,none⟩ (.int .i64 ((rd_T104 l0 x26_2).f4))) w.heap.size (fun k_=>some k_≠(v243:Value).ownBlock) (.slice (some ⟨go8,0,none⟩) x8_1.length co8) x8_1):=⟨by(with_reducible repeat (first|apply Kd.R_alloc|apply Kd.R_drewN|apply Kd.R_drew));exact Kd.R_mono (Kd.R_far (p:=⟨gb251,4,none⟩) (Kd.R_far (p:=⟨gb251,3,none⟩) (Kd.R_far (p:=⟨gb251,2,none⟩) (Kd.R_far (p:=⟨gb251,1,none⟩) (Kd.R_far (p:=⟨gb251,0,none⟩) (Kd.R_types HO_8.out BK251.out (by decide)) (fun _ hk=>hk.2) (.int .i64 ((rd_T104 l0 x26_2).f0))) (fun _ hk=>hk.2) (.int .i64 ((rd_T104 l0 x26_2).f1))) (fun _ hk=>hk.2) (.int .i64 ((rd_T104 l0 x26_2).f2))) (fun _ hk=>hk.2) (.int .i64 ((rd_T104 l0 x26_2).f3))) (fun _ hk=>hk.2) (.int .i64 ((rd_T104 l0 x26_2).f4))) (fun _ hk=>hk.1)⟩
                    have n1_:Aside0 (Kd.R (Kd.int .i64) 3 (((((w61.setCell ⟨gb251,0,none⟩ (.int .i64 ((rd_T104 l0 x26_2).f0))).setCell ⟨gb251,1,none⟩ (.int .i64 ((rd_T104 l0 x26_2).f1))).setCell ⟨gb251,2,none⟩ (.int .i64 ((rd_T104 l0 x26_2).f2))).setCell ⟨gb251,3,none⟩ (.int .i64 ((rd_T104 l0 x26_2).f3))).setCell ⟨gb251,4,none⟩ (.int .i64 ((rd_T104 l0 x26_2).f4))) w.heap.size (fun k_=>some k_≠(.slice (some ⟨go8,0,none⟩) x8_1.length co8:Value).ownBlock) v243 x9_1):=⟨by(with_reducible repeat (first|apply Kd.R_alloc|apply Kd.R_drewN|apply Kd.R_drew));exact Kd.R_mono (Kd.R_far (p:=⟨gb251,4,none⟩) (Kd.R_far (p:=⟨gb251,3,none⟩) (Kd.R_far (p:=⟨gb251,2,none⟩) (Kd.R_far (p:=⟨gb251,1,none⟩) (Kd.R_far (p:=⟨gb251,0,none⟩) (Kd.R_types HO_9.out BK251.out (by decide)) (fun _ hk=>hk.2) (.int .i64 ((rd_T104 l0 x26_2).f0))) (fun _ hk=>hk.2) (.int .i64 ((rd_T104 l0 x26_2).f1))) (fun _ hk=>hk.2) (.int .i64 ((rd_T104 l0 x26_2).f2))) (fun _ hk=>hk.2) (.int .i64 ((rd_T104 l0 x26_2).f3))) (fun _ hk=>hk.2) (.int .i64 ((rd_T104 l0 x26_2).f4))) (fun _ hk=>hk.1)⟩
                    have n2_:Aside0 ((((((w61.setCell ⟨gb251,0,none⟩ (.int .i64 ((rd_T104 l0 x26_2).f0))).setCell ⟨gb251,1,none⟩ (.int .i64 ((rd_T104 l0 x26_2).f1))).setCell ⟨gb251,2,none⟩ (.int .i64 ((rd_T104 l0 x26_2).f2))).setCell ⟨gb251,3,none⟩ (.int .i64 ((rd_T104 l0 x26_2).f3))).setCell ⟨gb251,4,none⟩ (.int .i64 ((rd_T104 l0 x26_2).f4))).heap[gb251]?=some (.cells #[.int .i64 ((rd_T104 l0 x26_2).f0),.int .i64 ((rd_T104 l0 x26_2).f1),.int .i64 ((rd_T104 l0 x26_2).f2),.int .i64 ((rd_T104 l0 x26_2).f3),.int .i64 ((rd_T104 l0 x26_2).f4)] 104 (0,0))):=⟨by(with_reducible repeat (first|refine blk_drewN ?_ _|refine blk_drew ?_|refine blk_alloc ?_ _));refine blk_put (cs:=#[.int .i64 ((rd_T104 l0 x26_2).f0),.int .i64 ((rd_T104 l0 x26_2).f1),.int .i64 ((rd_T104 l0 x26_2).f2),.int .i64 ((rd_T104 l0 x26_2).f3),.int .i64 0]) ?_ 4 _ rfl;(with_reducible repeat (first|refine blk_drewN ?_ _|refine blk_drew ?_|refine blk_alloc ?_ _));refine blk_put (cs:=#[.int .i64 ((rd_T104 l0 x26_2).f0),.int .i64 ((rd_T104 l0 x26_2).f1),.int .i64 ((rd_T104 l0 x26_2).f2),.int .i64 0,.int .i64 0]) ?_ 3 _ rfl;(with_reducible repeat (first|refine blk_drewN ?_ _|refine blk_drew ?_|refine blk_alloc ?_ _));refine blk_put (cs:=#[.int .i64 ((rd_T104 l0 x26_2).f0),.int .i64 ((rd_T104 l0 x26_2).f1),.int .i64 0,.int .i64 0,.int .i64 0]) ?_ 2 _ rfl;(with_reducible repeat (first|refine blk_drewN ?_ _|refine blk_drew ?_|refine blk_alloc ?_ _));refine blk_put (cs:=#[.int .i64 ((rd_T104 l0 x26_2).f0),.int .i64 0,.int .i64 0,.int .i64 0,.int .i64 0]) ?_ 1 _ rfl;(with_reducible repeat (first|refine blk_drewN ?_ _|refine blk_drew ?_|refine blk_alloc ?_ _));refine blk_put (cs:=#[.int .i64 0,.int .i64 0,.int .i64 0,.int .i64 0,.int .i64 0]) ?_ 0 _ rfl;(with_reducible repeat (first|refine blk_drewN ?_ _|refine blk_drew ?_|refine blk_alloc ?_ _));exact BK251.out⟩
                    have n3_:Aside0 (Below w.heap.size w (((((w61.setCell ⟨gb251,0,none⟩ (.int .i64 ((rd_T104 l0 x26_2).f0))).setCell ⟨gb251,1,none⟩ (.int .i64 ((rd_T104 l0 x26_2).f1))).setCell ⟨gb251,2,none⟩ (.int .i64 ((rd_T104 l0 x26_2).f2))).setCell ⟨gb251,3,none⟩ (.int .i64 ((rd_T104 l0 x26_2).f3))).setCell ⟨gb251,4,none⟩ (.int .i64 ((rd_T104 l0 x26_2).f4)))):=⟨bS GE251.out⟩
                    (try clear HO_8)
                    (try clear HO_9)
                    (try clear BK251)
                    (try clear HB)
                    generalize (((((w61.setCell ⟨gb251,0,none⟩ (.int .i64 ((rd_T104 l0 x26_2).f0))).setCell ⟨gb251,1,none⟩ (.int .i64 ((rd_T104 l0 x26_2).f1))).setCell ⟨gb251,2,none⟩ (.int .i64 ((rd_T104 l0 x26_2).f2))).setCell ⟨gb251,3,none⟩ (.int .i64 ((rd_T104 l0 x26_2).f3))).setCell ⟨gb251,4,none⟩ (.int .i64 ((rd_T104 l0 x26_2).f4)))=w63 at n0_ n1_ n2_ n3_ ⊢
                    have HO_8:=n0_
                    have HO_9:=n1_
                    have BK251:=n2_
                    have HB:=n3_
                    clear n0_ n1_ n2_ n3_
                    (try (rw[drewN_self w63];generalize hq_:World.drewN w63 _=w63;have n0_:=Aside0.mk (Kd.R_at hq_ HO_8.out);have n1_:=Aside0.mk (Kd.R_at hq_ HO_9.out);have n2_:=Aside0.mk (blk_at hq_ BK251.out);have n3_:=Aside0.mk (below_at hq_ HB.out);clear hq_ HO_8 HO_9 BK251 HB;have HO_8:=n0_;have HO_9:=n1_;have BK251:=n2_;have HB:=n3_;clear n0_ n1_ n2_ n3_))
                    have n0_:=Aside0.mk (Kd.R_drew HO_8.out)
                    have n1_:=Aside0.mk (Kd.R_drew HO_9.out)
                    have n2_:=Aside0.mk (blk_drew BK251.out)
                    have n3_:=Aside0.mk (below_drew1 HB.out)
                    clear HO_8 HO_9 BK251 HB
                    have HO_8:=n0_
                    have HO_9:=n1_
                    have BK251:=n2_
                    have HB:=n3_
                    clear n0_ n1_ n2_ n3_
                    have p253:0≤(((rd_T104 l0 x26_2).f0):Int):=of_decide_eq_true (bD)
                    have q253:((rd_T104 l0 x26_2).f0) < (x8_1.length:Int):=of_decide_eq_true (bD)
                    obtain⟨ad253,e253,hx253_0⟩:=Kd.at_int (Kd.R_reads' HO_8.out).2.2 ((rd_T104 l0 x26_2).f0) p253 q253
                    obtain rfl:(⟨go8,0,none⟩:Addr)=ad253:=(by injection e253)
                    (first|simp only[add_plain] at hx253_0|simp only[add_at] at hx253_0|simp only[Addr.add,Nat.zero_add] at hx253_0|skip)
                    replace p253:=eq_true p253
                    replace q253:=eq_true q253
                    refine start_ (n:=12) (S:=fun w'=>w'.cell? ⟨gb251,0,none⟩=some (.int .i64 ((rd_T104 l0 x26_2).f0))∧w'.cell? ⟨gb251,1,none⟩=some (.int .i64 ((rd_T104 l0 x26_2).f1))∧w'.cell? ⟨gb251,2,none⟩=some (.int .i64 ((rd_T104 l0 x26_2).f2))∧w'.cell? ⟨gb251,3,none⟩=some (.int .i64 ((rd_T104 l0 x26_2).f3))∧w'.cell? ⟨gb251,4,none⟩=some (.int .i64 ((rd_T104 l0 x26_2).f4))∧w'.cell? ⟨go8,(((rd_T104 l0 x26_2).f0)).toNat,none⟩=some (.int .i64 (rd x8_1 ((rd_T104 l0 x26_2).f0)))) (ds:=[]) #[false,false,false,false,false,false,false,false,false,false,false,false] (by kernel_rfl) rfl rfl ⟨(blk_cell BK251.out 0).trans rfl,(blk_cell BK251.out 1).trans rfl,(blk_cell BK251.out 2).trans rfl,(blk_cell BK251.out 3).trans rfl,(blk_cell BK251.out 4).trans rfl,hx253_0⟩ (fun hHeld => ?_);refine with_tabW impl_reach.tab8 impl_reach.bits8 (fun HT_ HW_ => ?_)
                    generalize w63.drew=w64 at HO_8 HO_9 BK251 HB hx253_0 hHeld ⊢
                    refine pure_ (i:=1) (N:=some 39) (v:=?_) (a':=?_) #[false,true,false,false,false,false,false,false,false,false,false,false] rfl rfl (any_of HT_.out (by kernel_rfl)) (fun _ _ _ h=>h) (Or.inl ⟨by rfl,?_⟩) ?_ ?_
                    rotate_left
                    ·intro w'
                     go_simp
                     with_reducible rfl
                    rotate_left
                    ·simp only[Act.put,List.setIfInBounds_toArray,List.set_cons_zero,List.set_cons_succ,i64_w,i32_w]
                     rfl
                    refine pure_ (i:=2) (N:=some 40) (v:=?_) (a':=?_) #[false,true,true,false,false,false,false,false,false,false,false,false] rfl rfl (any_of HT_.out (by kernel_rfl)) (fun _ _ _ h=>h) (Or.inl ⟨by rfl,?_⟩) ?_ ?_
                    rotate_left
                    ·intro w'
                     go_simp
                     with_reducible rfl
                    rotate_left
                    ·simp only[Act.put,List.setIfInBounds_toArray,List.set_cons_zero,List.set_cons_succ,i64_w,i32_w]
                     rfl
                    refine take_ (i:=0) (N:=some 38) (v:=?_) (a':=?_) #[true,true,true,false,false,false,false,false,false,false,false,false] rfl rfl (take_ofW HT_.out HW_.out (by kernel_rfl)) (fun _ _ _ h=>h) (Or.inl ⟨by rfl,?_⟩) hHeld ?_ ?_
                    rotate_left
                    ·rintro w' ⟨s0,s1,s2,s3,s4,s5⟩
                     go_simp
                     with_reducible rfl
                    rotate_left
                    ·simp only[Act.put,List.setIfInBounds_toArray,List.set_cons_zero,List.set_cons_succ,i64_w,i32_w]
                     rfl
                    refine take_ (i:=3) (N:=some 41) (v:=?_) (a':=?_) #[true,true,true,true,false,false,false,false,false,false,false,false] rfl rfl (take_ofW HT_.out HW_.out (by kernel_rfl)) (fun _ _ _ h=>h) (Or.inl ⟨by rfl,?_⟩) hHeld ?_ ?_
                    rotate_left
                    ·rintro w' ⟨s0,s1,s2,s3,s4,s5⟩
                     go_simp
                     with_reducible rfl
                    rotate_left
                    ·simp only[Act.put,List.setIfInBounds_toArray,List.set_cons_zero,List.set_cons_succ,i64_w,i32_w]
                     rfl
                    refine pure_ (i:=4) (N:=some 42) (v:=?_) (a':=?_) #[true,true,true,true,true,false,false,false,false,false,false,false] rfl rfl (any_of HT_.out (by kernel_rfl)) (fun _ _ _ h=>h) (Or.inl ⟨by rfl,?_⟩) ?_ ?_
                    rotate_left
                    ·intro w'
                     go_simp
                     with_reducible rfl
                    rotate_left
                    ·simp only[Act.put,List.setIfInBounds_toArray,List.set_cons_zero,List.set_cons_succ,i64_w,i32_w]
                     rfl
                    refine take_ (i:=5) (N:=some 43) (v:=?_) (a':=?_) #[true,true,true,true,true,true,false,false,false,false,false,false] rfl rfl (take_ofW HT_.out HW_.out (by kernel_rfl)) (fun _ _ _ h=>h) (Or.inl ⟨by rfl,?_⟩) hHeld ?_ ?_
                    rotate_left
                    ·rintro w' ⟨s0,s1,s2,s3,s4,s5⟩
                     go_simp
                     with_reducible rfl
                    rotate_left
                    ·simp only[Act.put,List.setIfInBounds_toArray,List.set_cons_zero,List.set_cons_succ,i64_w,i32_w]
                     rfl
                    refine one_ (i:=6) (N:=some 44) #[true,true,true,true,true,true,true,false,false,false,false,false] rfl rfl (one_of HT_.out (by kernel_rfl)) (by decide) (fun K hK => ?_)
                    refine goes_ Try.func122 (by kernel_rfl) rfl #[.agg #[.int .i64 ((rd_T104 l0 x26_2).f0),.int .i64 ((rd_T104 l0 x26_2).f1),.int .i64 ((rd_T104 l0 x26_2).f2),.int .i64 ((rd_T104 l0 x26_2).f3),.int .i64 ((rd_T104 l0 x26_2).f4)],.int .i64 (rd x8_1 ((rd_T104 l0 x26_2).f0))] (by rfl) rfl rfl (by(try simp only[List.map_toArray,List.map_cons,List.map_nil]);first|done|rfl|(simp only[List.length_drop,List.length_take];rfl)) ?_
                    with_reducible refine(impl_Contact_by.calls ((rd_T104 l0 x26_2).f0) ((rd_T104 l0 x26_2).f1) ((rd_T104 l0 x26_2).f2) ((rd_T104 l0 x26_2).f3) ((rd_T104 l0 x26_2).f4) (rd x8_1 ((rd_T104 l0 x26_2).f0)) t254 true _ A27.out).mono ?_
                    rintro e w65 ⟨rfl,hb⟩
                    have HS5_:=(hb.cell (World.block_lt_of_cell? _ _ (hHeld.2.2.2.2.2))).trans (hHeld.2.2.2.2.2)
                    refine⟨_,rfl,?_⟩
                    have n0_:=Aside0.mk (Kd.R_below (bK HO_8.out) hb)
                    have n1_:=Aside0.mk (Kd.R_below (bK HO_9.out) hb)
                    have n2_:=Aside0.mk (bM BK251.out hb)
                    have n3_:=Aside0.mk (below_step (bS GE251.out) hb)
                    clear HO_8 HO_9 BK251 HB
                    have HO_8:=n0_
                    have HO_9:=n1_
                    have BK251:=n2_
                    have HB:=n3_
                    clear n0_ n1_ n2_ n3_
                    (try clear hb)
                    (try clear hb2)
                    (try clear hk)
                    (try clear hi)
                    refine hK.out _ _ ⟨(blk_cell BK251.out 0).trans rfl,(blk_cell BK251.out 1).trans rfl,(blk_cell BK251.out 2).trans rfl,(blk_cell BK251.out 3).trans rfl,(blk_cell BK251.out 4).trans rfl,HS5_⟩ (fun hHeld => ?_)
                    clear hK K
                    refine norm_ (a':=?_) ?_ ?_
                    rotate_left
                    ·show Act.put _ (some 44) _=_
                     simp only[Act.put,List.setIfInBounds_toArray,List.set_cons_zero,List.set_cons_succ,i64_w,i32_w]
                     rfl
                    refine pure_ (i:=7) (N:=some 37) (v:=?_) (a':=?_) #[true,true,true,true,true,true,true,true,false,false,false,false] rfl rfl (any_of HT_.out (by kernel_rfl)) (fun _ _ _ h=>h) (Or.inl ⟨by rfl,?_⟩) ?_ ?_
                    rotate_left
                    ·intro w'
                     go_simp
                     with_reducible rfl
                    rotate_left
                    ·simp only[Act.put,List.setIfInBounds_toArray,List.set_cons_zero,List.set_cons_succ,i64_w,i32_w]
                     rfl
                    refine pure_ (i:=8) (N:=some 45) (v:=?_) (a':=?_) #[true,true,true,true,true,true,true,true,true,false,false,false] rfl rfl (any_of HT_.out (by kernel_rfl)) (fun _ _ _ h=>h) (Or.inl ⟨by rfl,?_⟩) ?_ ?_
                    rotate_left
                    ·intro w'
                     go_simp
                     with_reducible rfl
                    rotate_left
                    ·simp only[Act.put,List.setIfInBounds_toArray,List.set_cons_zero,List.set_cons_succ,i64_w,i32_w]
                     rfl
                    refine pure_ (i:=9) (N:=some 46) (v:=?_) (a':=?_) #[true,true,true,true,true,true,true,true,true,true,false,false] rfl rfl (any_of HT_.out (by kernel_rfl)) (fun _ _ _ h=>h) (Or.inl ⟨by rfl,?_⟩) ?_ ?_
                    rotate_left
                    ·intro w'
                     go_simp
                     with_reducible rfl
                    rotate_left
                    ·simp only[Act.put,List.setIfInBounds_toArray,List.set_cons_zero,List.set_cons_succ,i64_w,i32_w]
                     rfl
                    refine pure_ (i:=10) (N:=some 14) (v:=?_) (a':=?_) #[true,true,true,true,true,true,true,true,true,true,true,false] rfl rfl (any_of HT_.out (by kernel_rfl)) (fun _ _ _ h=>h) (Or.inl ⟨by rfl,?_⟩) ?_ ?_
                    rotate_left
                    ·intro w'
                     go_simp
                     with_reducible rfl
                    rotate_left
                    ·simp only[Act.put,List.setIfInBounds_toArray,List.set_cons_zero,List.set_cons_succ,i64_w,i32_w]
                     rfl
                    refine pure_ (i:=11) (N:=some 15) (v:=?_) (a':=?_) #[true,true,true,true,true,true,true,true,true,true,true,true] rfl rfl (any_of HT_.out (by kernel_rfl)) (fun _ _ _ h=>h) (Or.inl ⟨by rfl,?_⟩) ?_ ?_
                    rotate_left
                    ·intro w'
                     go_simp
                     with_reducible rfl
                    rotate_left
                    ·simp only[Act.put,List.setIfInBounds_toArray,List.set_cons_zero,List.set_cons_succ,i64_w,i32_w]
                     rfl
                    refine done_ (done_of HT_.out (by kernel_rfl)) ?_
                    obtain⟨hcz66_0,hcz66_1,hcz66_2,hcz66_3,hcz66_4⟩:=cC5 BK251.out
                    obtain⟨hfz66_0,hfz66_1,hfz66_2,hfz66_3,hfz66_4⟩:=cF5 BK251.out
                    have p256:0≤(((rd_T104 l0 x26_2).f1):Int):=of_decide_eq_true (bD)
                    have q256:((rd_T104 l0 x26_2).f1) < (x8_1.length:Int):=of_decide_eq_true (bD)
                    obtain⟨ad256,e256,hx256_0⟩:=Kd.at_int (Kd.R_reads' HO_8.out).2.2 ((rd_T104 l0 x26_2).f1) p256 q256
                    obtain rfl:(⟨go8,0,none⟩:Addr)=ad256:=(by injection e256)
                    (first|simp only[add_plain] at hx256_0|simp only[add_at] at hx256_0|simp only[Addr.add,Nat.zero_add] at hx256_0|skip)
                    replace p256:=eq_true p256
                    replace q256:=eq_true q256
                    have p257:0≤(((rd_T104 l0 x26_2).f1):Int):=of_decide_eq_true (bD)
                    have q257:((rd_T104 l0 x26_2).f1) < (x8_1.length:Int):=of_decide_eq_true (bD)
                    obtain⟨ad257,e257,hx257_0⟩:=Kd.at_int (Kd.R_reads' HO_8.out).2.2 ((rd_T104 l0 x26_2).f1) p257 q257
                    obtain rfl:(⟨go8,0,none⟩:Addr)=ad257:=(by injection e257)
                    (first|simp only[add_plain] at hx257_0|simp only[add_at] at hx257_0|simp only[Addr.add,Nat.zero_add] at hx257_0|skip)
                    replace p257:=eq_true p257
                    replace q257:=eq_true q257
                    try go_wp2
                    go_roundg k2
                    case measure=>have:=HK1.out;have:=HK2.out;omega
                    case rel=>exact⟨(x26_2),(t254),(wrap64 (x26_2+1)),(bR),(bR),(bR),H',⟨by have:=HK1.out;have:=HK2.out;omega⟩,⟨by(try simp only[hl8_1]);(with_reducible repeat (first|apply Kd.R_alloc|apply Kd.R_drewN|apply Kd.R_drew));exact HO_8.out⟩,⟨by(try simp only[hl8_1]);(with_reducible repeat (first|apply Kd.R_alloc|apply Kd.R_drewN|apply Kd.R_drew));exact HO_9.out⟩,⟨bS GE251.out⟩⟩
                   ·rw[if_neg c60] at H
                    have c60b0:decide (t254 < x11_2)=false:=decide_eq_false c60
                    clear c60
                    have H':=Aside0.mk H
                    clear H
                    have p250:0≤(x26_2:Int):=of_decide_eq_true (bD)
                    have q250:x26_2 < (l0.length:Int):=of_decide_eq_true (bD)
                    obtain⟨ad250,e250,hx250_0,hx250_1,hx250_2,hx250_3,hx250_4⟩:=at_T104 HR0.out x26_2 p250 q250
                    cases e250
                    replace hx250_0:=(HB.out.cell (World.block_lt_of_cell? w _ hx250_0)).trans hx250_0
                    replace hx250_1:=(HB.out.cell (World.block_lt_of_cell? w _ hx250_1)).trans hx250_1
                    replace hx250_2:=(HB.out.cell (World.block_lt_of_cell? w _ hx250_2)).trans hx250_2
                    replace hx250_3:=(HB.out.cell (World.block_lt_of_cell? w _ hx250_3)).trans hx250_3
                    replace hx250_4:=(HB.out.cell (World.block_lt_of_cell? w _ hx250_4)).trans hx250_4
                    replace p250:=eq_true p250
                    replace q250:=eq_true q250
                    try go_wp2_with (first|((with_reducible refine gate_dst (N:=13) rfl ?_);refine box_event ?hg (N:=13) ?hd (cs:=#[.int .i64 0,.int .i64 0,.int .i64 0,.int .i64 0,.int .i64 0]) (t:=104) ?hr ?_;(case hd=>rfl);(case hg=>rfl);(case hr=>first|(go_simp;done)|(go_simp;rfl));intro gb251 hg w67 hbox hb;have n0_:=Aside0.mk (Kd.R_below (bK HO_8.out) hb);have n1_:=Aside0.mk (Kd.R_below (bK HO_9.out) hb);have n2_:=Aside0.mk (below_step (bB) hb);have n3_:=Aside0.mk (hbox);have n4_:=Aside0.mk ((bG:w.heap.size≤gb251));have n5_:=Aside0.mk ((bG:w.heap.size≤gb251));clear HO_8 HO_9 HB;have HO_8:=n0_;have HO_9:=n1_;have HB:=n2_;have BK251:=n3_;have GW251:=n4_;have GE251:=n5_;clear n0_ n1_ n2_ n3_ n4_ n5_;clear hb hbox hg;obtain⟨hcz68_0,hcz68_1,hcz68_2,hcz68_3,hcz68_4⟩:=cC5 BK251.out;obtain⟨hfz68_0,hfz68_1,hfz68_2,hfz68_3,hfz68_4⟩:=cF5 BK251.out;have p252:0≤(((rd_T104 l0 x26_2).f0):Int):=of_decide_eq_true (bD);have q252:((rd_T104 l0 x26_2).f0) < (x8_1.length:Int):=of_decide_eq_true (bD);obtain⟨ad252,e252,hx252_0⟩:=Kd.at_int (Kd.R_reads' HO_8.out).2.2 ((rd_T104 l0 x26_2).f0) p252 q252;obtain rfl:(⟨go8,0,none⟩:Addr)=ad252:=(by injection e252);(first|simp only[add_plain] at hx252_0|simp only[add_at] at hx252_0|simp only[Addr.add,Nat.zero_add] at hx252_0|skip);have hn252_0:(⟨go8,0,none⟩:Addr).block≠gb251:=Kd.own_blk (Kd.R_ne HO_8.out BK251.out (by decide));have hn252_1:(⟨go8,0,none⟩:Addr).block≠gb251:=Kd.own_blk (Kd.R_ne HO_8.out BK251.out (by decide));have hn252_2:(⟨go8,0,none⟩:Addr).block≠gb251:=Kd.own_blk (Kd.R_ne HO_8.out BK251.out (by decide));have hn252_3:(⟨go8,0,none⟩:Addr).block≠gb251:=Kd.own_blk (Kd.R_ne HO_8.out BK251.out (by decide));have hn252_4:(⟨go8,0,none⟩:Addr).block≠gb251:=Kd.own_blk (Kd.R_ne HO_8.out BK251.out (by decide));replace hx252_0:=(cell_far (p:=⟨gb251,0,none⟩) (bA hn252_0) (.int .i64 ((rd_T104 l0 x26_2).f0))).trans hx252_0;replace hx252_0:=(cell_far (p:=⟨gb251,1,none⟩) (bA hn252_1) (.int .i64 ((rd_T104 l0 x26_2).f1))).trans hx252_0;replace hx252_0:=(cell_far (p:=⟨gb251,2,none⟩) (bA hn252_2) (.int .i64 ((rd_T104 l0 x26_2).f2))).trans hx252_0;replace hx252_0:=(cell_far (p:=⟨gb251,3,none⟩) (bA hn252_3) (.int .i64 ((rd_T104 l0 x26_2).f3))).trans hx252_0;replace hx252_0:=(cell_far (p:=⟨gb251,4,none⟩) (bA hn252_4) (.int .i64 ((rd_T104 l0 x26_2).f4))).trans hx252_0;clear hn252_0 hn252_1 hn252_2 hn252_3 hn252_4;replace p252:=eq_true p252;replace q252:=eq_true q252))
                    have n0_:Aside0 (Kd.R (Kd.int .i64) 3 (((((w67.setCell ⟨gb251,0,none⟩ (.int .i64 ((rd_T104 l0 x26_2).f0))).setCell ⟨gb251,1,none⟩ (.int .i64 ((rd_T104 l0 x26_2).f1))).setCell ⟨gb251,2,none⟩ (.int .i64 ((rd_T104 l0 x26_2).f2))).setCell ⟨gb251,3,none⟩ (.int .i64 ((rd_T104 l0 x26_2).f3))).setCell ⟨gb251,4,none⟩ (.int .i64 ((rd_T104 l0 x26_2).f4))) w.heap.size (fun k_=>some k_≠(v243:Value).ownBlock) (.slice (some ⟨go8,0,none⟩) x8_1.length co8) x8_1):=⟨by(with_reducible repeat (first|apply Kd.R_alloc|apply Kd.R_drewN|apply Kd.R_drew));exact Kd.R_mono (Kd.R_far (p:=⟨gb251,4,none⟩) (Kd.R_far (p:=⟨gb251,3,none⟩) (Kd.R_far (p:=⟨gb251,2,none⟩) (Kd.R_far (p:=⟨gb251,1,none⟩) (Kd.R_far (p:=⟨gb251,0,none⟩) (Kd.R_types HO_8.out BK251.out (by decide)) (fun _ hk=>hk.2) (.int .i64 ((rd_T104 l0 x26_2).f0))) (fun _ hk=>hk.2) (.int .i64 ((rd_T104 l0 x26_2).f1))) (fun _ hk=>hk.2) (.int .i64 ((rd_T104 l0 x26_2).f2))) (fun _ hk=>hk.2) (.int .i64 ((rd_T104 l0 x26_2).f3))) (fun _ hk=>hk.2) (.int .i64 ((rd_T104 l0 x26_2).f4))) (fun _ hk=>hk.1)⟩
                    have n1_:Aside0 (Kd.R (Kd.int .i64) 3 (((((w67.setCell ⟨gb251,0,none⟩ (.int .i64 ((rd_T104 l0 x26_2).f0))).setCell ⟨gb251,1,none⟩ (.int .i64 ((rd_T104 l0 x26_2).f1))).setCell ⟨gb251,2,none⟩ (.int .i64 ((rd_T104 l0 x26_2).f2))).setCell ⟨gb251,3,none⟩ (.int .i64 ((rd_T104 l0 x26_2).f3))).setCell ⟨gb251,4,none⟩ (.int .i64 ((rd_T104 l0 x26_2).f4))) w.heap.size (fun k_=>some k_≠(.slice (some ⟨go8,0,none⟩) x8_1.length co8:Value).ownBlock) v243 x9_1):=⟨by(with_reducible repeat (first|apply Kd.R_alloc|apply Kd.R_drewN|apply Kd.R_drew));exact Kd.R_mono (Kd.R_far (p:=⟨gb251,4,none⟩) (Kd.R_far (p:=⟨gb251,3,none⟩) (Kd.R_far (p:=⟨gb251,2,none⟩) (Kd.R_far (p:=⟨gb251,1,none⟩) (Kd.R_far (p:=⟨gb251,0,none⟩) (Kd.R_types HO_9.out BK251.out (by decide)) (fun _ hk=>hk.2) (.int .i64 ((rd_T104 l0 x26_2).f0))) (fun _ hk=>hk.2) (.int .i64 ((rd_T104 l0 x26_2).f1))) (fun _ hk=>hk.2) (.int .i64 ((rd_T104 l0 x26_2).f2))) (fun _ hk=>hk.2) (.int .i64 ((rd_T104 l0 x26_2).f3))) (fun _ hk=>hk.2) (.int .i64 ((rd_T104 l0 x26_2).f4))) (fun _ hk=>hk.1)⟩
                    have n2_:Aside0 ((((((w67.setCell ⟨gb251,0,none⟩ (.int .i64 ((rd_T104 l0 x26_2).f0))).setCell ⟨gb251,1,none⟩ (.int .i64 ((rd_T104 l0 x26_2).f1))).setCell ⟨gb251,2,none⟩ (.int .i64 ((rd_T104 l0 x26_2).f2))).setCell ⟨gb251,3,none⟩ (.int .i64 ((rd_T104 l0 x26_2).f3))).setCell ⟨gb251,4,none⟩ (.int .i64 ((rd_T104 l0 x26_2).f4))).heap[gb251]?=some (.cells #[.int .i64 ((rd_T104 l0 x26_2).f0),.int .i64 ((rd_T104 l0 x26_2).f1),.int .i64 ((rd_T104 l0 x26_2).f2),.int .i64 ((rd_T104 l0 x26_2).f3),.int .i64 ((rd_T104 l0 x26_2).f4)] 104 (0,0))):=⟨by(with_reducible repeat (first|refine blk_drewN ?_ _|refine blk_drew ?_|refine blk_alloc ?_ _));refine blk_put (cs:=#[.int .i64 ((rd_T104 l0 x26_2).f0),.int .i64 ((rd_T104 l0 x26_2).f1),.int .i64 ((rd_T104 l0 x26_2).f2),.int .i64 ((rd_T104 l0 x26_2).f3),.int .i64 0]) ?_ 4 _ rfl;(with_reducible repeat (first|refine blk_drewN ?_ _|refine blk_drew ?_|refine blk_alloc ?_ _));refine blk_put (cs:=#[.int .i64 ((rd_T104 l0 x26_2).f0),.int .i64 ((rd_T104 l0 x26_2).f1),.int .i64 ((rd_T104 l0 x26_2).f2),.int .i64 0,.int .i64 0]) ?_ 3 _ rfl;(with_reducible repeat (first|refine blk_drewN ?_ _|refine blk_drew ?_|refine blk_alloc ?_ _));refine blk_put (cs:=#[.int .i64 ((rd_T104 l0 x26_2).f0),.int .i64 ((rd_T104 l0 x26_2).f1),.int .i64 0,.int .i64 0,.int .i64 0]) ?_ 2 _ rfl;(with_reducible repeat (first|refine blk_drewN ?_ _|refine blk_drew ?_|refine blk_alloc ?_ _));refine blk_put (cs:=#[.int .i64 ((rd_T104 l0 x26_2).f0),.int .i64 0,.int .i64 0,.int .i64 0,.int .i64 0]) ?_ 1 _ rfl;(with_reducible repeat (first|refine blk_drewN ?_ _|refine blk_drew ?_|refine blk_alloc ?_ _));refine blk_put (cs:=#[.int .i64 0,.int .i64 0,.int .i64 0,.int .i64 0,.int .i64 0]) ?_ 0 _ rfl;(with_reducible repeat (first|refine blk_drewN ?_ _|refine blk_drew ?_|refine blk_alloc ?_ _));exact BK251.out⟩
                    have n3_:Aside0 (Below w.heap.size w (((((w67.setCell ⟨gb251,0,none⟩ (.int .i64 ((rd_T104 l0 x26_2).f0))).setCell ⟨gb251,1,none⟩ (.int .i64 ((rd_T104 l0 x26_2).f1))).setCell ⟨gb251,2,none⟩ (.int .i64 ((rd_T104 l0 x26_2).f2))).setCell ⟨gb251,3,none⟩ (.int .i64 ((rd_T104 l0 x26_2).f3))).setCell ⟨gb251,4,none⟩ (.int .i64 ((rd_T104 l0 x26_2).f4)))):=⟨bS GE251.out⟩
                    (try clear HO_8)
                    (try clear HO_9)
                    (try clear BK251)
                    (try clear HB)
                    generalize (((((w67.setCell ⟨gb251,0,none⟩ (.int .i64 ((rd_T104 l0 x26_2).f0))).setCell ⟨gb251,1,none⟩ (.int .i64 ((rd_T104 l0 x26_2).f1))).setCell ⟨gb251,2,none⟩ (.int .i64 ((rd_T104 l0 x26_2).f2))).setCell ⟨gb251,3,none⟩ (.int .i64 ((rd_T104 l0 x26_2).f3))).setCell ⟨gb251,4,none⟩ (.int .i64 ((rd_T104 l0 x26_2).f4)))=w69 at n0_ n1_ n2_ n3_ ⊢
                    have HO_8:=n0_
                    have HO_9:=n1_
                    have BK251:=n2_
                    have HB:=n3_
                    clear n0_ n1_ n2_ n3_
                    (try (rw[drewN_self w69];generalize hq_:World.drewN w69 _=w69;have n0_:=Aside0.mk (Kd.R_at hq_ HO_8.out);have n1_:=Aside0.mk (Kd.R_at hq_ HO_9.out);have n2_:=Aside0.mk (blk_at hq_ BK251.out);have n3_:=Aside0.mk (below_at hq_ HB.out);clear hq_ HO_8 HO_9 BK251 HB;have HO_8:=n0_;have HO_9:=n1_;have BK251:=n2_;have HB:=n3_;clear n0_ n1_ n2_ n3_))
                    have n0_:=Aside0.mk (Kd.R_drew HO_8.out)
                    have n1_:=Aside0.mk (Kd.R_drew HO_9.out)
                    have n2_:=Aside0.mk (blk_drew BK251.out)
                    have n3_:=Aside0.mk (below_drew1 HB.out)
                    clear HO_8 HO_9 BK251 HB
                    have HO_8:=n0_
                    have HO_9:=n1_
                    have BK251:=n2_
                    have HB:=n3_
                    clear n0_ n1_ n2_ n3_
                    have p253:0≤(((rd_T104 l0 x26_2).f0):Int):=of_decide_eq_true (bD)
                    have q253:((rd_T104 l0 x26_2).f0) < (x8_1.length:Int):=of_decide_eq_true (bD)
                    obtain⟨ad253,e253,hx253_0⟩:=Kd.at_int (Kd.R_reads' HO_8.out).2.2 ((rd_T104 l0 x26_2).f0) p253 q253
                    obtain rfl:(⟨go8,0,none⟩:Addr)=ad253:=(by injection e253)
                    (first|simp only[add_plain] at hx253_0|simp only[add_at] at hx253_0|simp only[Addr.add,Nat.zero_add] at hx253_0|skip)
                    replace p253:=eq_true p253
                    replace q253:=eq_true q253
                    refine start_ (n:=12) (S:=fun w'=>w'.cell? ⟨gb251,0,none⟩=some (.int .i64 ((rd_T104 l0 x26_2).f0))∧w'.cell? ⟨gb251,1,none⟩=some (.int .i64 ((rd_T104 l0 x26_2).f1))∧w'.cell? ⟨gb251,2,none⟩=some (.int .i64 ((rd_T104 l0 x26_2).f2))∧w'.cell? ⟨gb251,3,none⟩=some (.int .i64 ((rd_T104 l0 x26_2).f3))∧w'.cell? ⟨gb251,4,none⟩=some (.int .i64 ((rd_T104 l0 x26_2).f4))∧w'.cell? ⟨go8,(((rd_T104 l0 x26_2).f0)).toNat,none⟩=some (.int .i64 (rd x8_1 ((rd_T104 l0 x26_2).f0)))) (ds:=[]) #[false,false,false,false,false,false,false,false,false,false,false,false] (by kernel_rfl) rfl rfl ⟨(blk_cell BK251.out 0).trans rfl,(blk_cell BK251.out 1).trans rfl,(blk_cell BK251.out 2).trans rfl,(blk_cell BK251.out 3).trans rfl,(blk_cell BK251.out 4).trans rfl,hx253_0⟩ (fun hHeld => ?_);refine with_tabW impl_reach.tab8 impl_reach.bits8 (fun HT_ HW_ => ?_)
                    generalize w69.drew=w70 at HO_8 HO_9 BK251 HB hx253_0 hHeld ⊢
                    refine pure_ (i:=1) (N:=some 39) (v:=?_) (a':=?_) #[false,true,false,false,false,false,false,false,false,false,false,false] rfl rfl (any_of HT_.out (by kernel_rfl)) (fun _ _ _ h=>h) (Or.inl ⟨by rfl,?_⟩) ?_ ?_
                    rotate_left
                    ·intro w'
                     go_simp
                     with_reducible rfl
                    rotate_left
                    ·simp only[Act.put,List.setIfInBounds_toArray,List.set_cons_zero,List.set_cons_succ,i64_w,i32_w]
                     rfl
                    refine pure_ (i:=2) (N:=some 40) (v:=?_) (a':=?_) #[false,true,true,false,false,false,false,false,false,false,false,false] rfl rfl (any_of HT_.out (by kernel_rfl)) (fun _ _ _ h=>h) (Or.inl ⟨by rfl,?_⟩) ?_ ?_
                    rotate_left
                    ·intro w'
                     go_simp
                     with_reducible rfl
                    rotate_left
                    ·simp only[Act.put,List.setIfInBounds_toArray,List.set_cons_zero,List.set_cons_succ,i64_w,i32_w]
                     rfl
                    refine take_ (i:=0) (N:=some 38) (v:=?_) (a':=?_) #[true,true,true,false,false,false,false,false,false,false,false,false] rfl rfl (take_ofW HT_.out HW_.out (by kernel_rfl)) (fun _ _ _ h=>h) (Or.inl ⟨by rfl,?_⟩) hHeld ?_ ?_
                    rotate_left
                    ·rintro w' ⟨s0,s1,s2,s3,s4,s5⟩
                     go_simp
                     with_reducible rfl
                    rotate_left
                    ·simp only[Act.put,List.setIfInBounds_toArray,List.set_cons_zero,List.set_cons_succ,i64_w,i32_w]
                     rfl
                    refine take_ (i:=3) (N:=some 41) (v:=?_) (a':=?_) #[true,true,true,true,false,false,false,false,false,false,false,false] rfl rfl (take_ofW HT_.out HW_.out (by kernel_rfl)) (fun _ _ _ h=>h) (Or.inl ⟨by rfl,?_⟩) hHeld ?_ ?_
                    rotate_left
                    ·rintro w' ⟨s0,s1,s2,s3,s4,s5⟩
                     go_simp
                     with_reducible rfl
                    rotate_left
                    ·simp only[Act.put,List.setIfInBounds_toArray,List.set_cons_zero,List.set_cons_succ,i64_w,i32_w]
                     rfl
                    refine pure_ (i:=4) (N:=some 42) (v:=?_) (a':=?_) #[true,true,true,true,true,false,false,false,false,false,false,false] rfl rfl (any_of HT_.out (by kernel_rfl)) (fun _ _ _ h=>h) (Or.inl ⟨by rfl,?_⟩) ?_ ?_
                    rotate_left
                    ·intro w'
                     go_simp
                     with_reducible rfl
                    rotate_left
                    ·simp only[Act.put,List.setIfInBounds_toArray,List.set_cons_zero,List.set_cons_succ,i64_w,i32_w]
                     rfl
                    refine take_ (i:=5) (N:=some 43) (v:=?_) (a':=?_) #[true,true,true,true,true,true,false,false,false,false,false,false] rfl rfl (take_ofW HT_.out HW_.out (by kernel_rfl)) (fun _ _ _ h=>h) (Or.inl ⟨by rfl,?_⟩) hHeld ?_ ?_
                    rotate_left
                    ·rintro w' ⟨s0,s1,s2,s3,s4,s5⟩
                     go_simp
                     with_reducible rfl
                    rotate_left
                    ·simp only[Act.put,List.setIfInBounds_toArray,List.set_cons_zero,List.set_cons_succ,i64_w,i32_w]
                     rfl
                    refine one_ (i:=6) (N:=some 44) #[true,true,true,true,true,true,true,false,false,false,false,false] rfl rfl (one_of HT_.out (by kernel_rfl)) (by decide) (fun K hK => ?_)
                    refine goes_ Try.func122 (by kernel_rfl) rfl #[.agg #[.int .i64 ((rd_T104 l0 x26_2).f0),.int .i64 ((rd_T104 l0 x26_2).f1),.int .i64 ((rd_T104 l0 x26_2).f2),.int .i64 ((rd_T104 l0 x26_2).f3),.int .i64 ((rd_T104 l0 x26_2).f4)],.int .i64 (rd x8_1 ((rd_T104 l0 x26_2).f0))] (by rfl) rfl rfl (by(try simp only[List.map_toArray,List.map_cons,List.map_nil]);first|done|rfl|(simp only[List.length_drop,List.length_take];rfl)) ?_
                    with_reducible refine(impl_Contact_by.calls ((rd_T104 l0 x26_2).f0) ((rd_T104 l0 x26_2).f1) ((rd_T104 l0 x26_2).f2) ((rd_T104 l0 x26_2).f3) ((rd_T104 l0 x26_2).f4) (rd x8_1 ((rd_T104 l0 x26_2).f0)) t254 true _ A27.out).mono ?_
                    rintro e w71 ⟨rfl,hb⟩
                    have HS5_:=(hb.cell (World.block_lt_of_cell? _ _ (hHeld.2.2.2.2.2))).trans (hHeld.2.2.2.2.2)
                    refine⟨_,rfl,?_⟩
                    have n0_:=Aside0.mk (Kd.R_below (bK HO_8.out) hb)
                    have n1_:=Aside0.mk (Kd.R_below (bK HO_9.out) hb)
                    have n2_:=Aside0.mk (bM BK251.out hb)
                    have n3_:=Aside0.mk (below_step (bS GE251.out) hb)
                    clear HO_8 HO_9 BK251 HB
                    have HO_8:=n0_
                    have HO_9:=n1_
                    have BK251:=n2_
                    have HB:=n3_
                    clear n0_ n1_ n2_ n3_
                    (try clear hb)
                    (try clear hb2)
                    (try clear hk)
                    (try clear hi)
                    refine hK.out _ _ ⟨(blk_cell BK251.out 0).trans rfl,(blk_cell BK251.out 1).trans rfl,(blk_cell BK251.out 2).trans rfl,(blk_cell BK251.out 3).trans rfl,(blk_cell BK251.out 4).trans rfl,HS5_⟩ (fun hHeld => ?_)
                    clear hK K
                    refine norm_ (a':=?_) ?_ ?_
                    rotate_left
                    ·show Act.put _ (some 44) _=_
                     simp only[Act.put,List.setIfInBounds_toArray,List.set_cons_zero,List.set_cons_succ,i64_w,i32_w]
                     rfl
                    refine pure_ (i:=7) (N:=some 37) (v:=?_) (a':=?_) #[true,true,true,true,true,true,true,true,false,false,false,false] rfl rfl (any_of HT_.out (by kernel_rfl)) (fun _ _ _ h=>h) (Or.inl ⟨by rfl,?_⟩) ?_ ?_
                    rotate_left
                    ·intro w'
                     go_simp
                     with_reducible rfl
                    rotate_left
                    ·simp only[Act.put,List.setIfInBounds_toArray,List.set_cons_zero,List.set_cons_succ,i64_w,i32_w]
                     rfl
                    refine pure_ (i:=8) (N:=some 45) (v:=?_) (a':=?_) #[true,true,true,true,true,true,true,true,true,false,false,false] rfl rfl (any_of HT_.out (by kernel_rfl)) (fun _ _ _ h=>h) (Or.inl ⟨by rfl,?_⟩) ?_ ?_
                    rotate_left
                    ·intro w'
                     go_simp
                     with_reducible rfl
                    rotate_left
                    ·simp only[Act.put,List.setIfInBounds_toArray,List.set_cons_zero,List.set_cons_succ,i64_w,i32_w]
                     rfl
                    refine pure_ (i:=9) (N:=some 46) (v:=?_) (a':=?_) #[true,true,true,true,true,true,true,true,true,true,false,false] rfl rfl (any_of HT_.out (by kernel_rfl)) (fun _ _ _ h=>h) (Or.inl ⟨by rfl,?_⟩) ?_ ?_
                    rotate_left
                    ·intro w'
                     go_simp
                     with_reducible rfl
                    rotate_left
                    ·simp only[Act.put,List.setIfInBounds_toArray,List.set_cons_zero,List.set_cons_succ,i64_w,i32_w]
                     rfl
                    refine pure_ (i:=10) (N:=some 14) (v:=?_) (a':=?_) #[true,true,true,true,true,true,true,true,true,true,true,false] rfl rfl (any_of HT_.out (by kernel_rfl)) (fun _ _ _ h=>h) (Or.inl ⟨by rfl,?_⟩) ?_ ?_
                    rotate_left
                    ·intro w'
                     go_simp
                     with_reducible rfl
                    rotate_left
                    ·simp only[Act.put,List.setIfInBounds_toArray,List.set_cons_zero,List.set_cons_succ,i64_w,i32_w]
                     rfl
                    refine pure_ (i:=11) (N:=some 15) (v:=?_) (a':=?_) #[true,true,true,true,true,true,true,true,true,true,true,true] rfl rfl (any_of HT_.out (by kernel_rfl)) (fun _ _ _ h=>h) (Or.inl ⟨by rfl,?_⟩) ?_ ?_
                    rotate_left
                    ·intro w'
                     go_simp
                     with_reducible rfl
                    rotate_left
                    ·simp only[Act.put,List.setIfInBounds_toArray,List.set_cons_zero,List.set_cons_succ,i64_w,i32_w]
                     rfl
                    refine done_ (done_of HT_.out (by kernel_rfl)) ?_
                    obtain⟨hcz72_0,hcz72_1,hcz72_2,hcz72_3,hcz72_4⟩:=cC5 BK251.out
                    obtain⟨hfz72_0,hfz72_1,hfz72_2,hfz72_3,hfz72_4⟩:=cF5 BK251.out
                    have p256:0≤(((rd_T104 l0 x26_2).f1):Int):=of_decide_eq_true (bD)
                    have q256:((rd_T104 l0 x26_2).f1) < (x8_1.length:Int):=of_decide_eq_true (bD)
                    obtain⟨ad256,e256,hx256_0⟩:=Kd.at_int (Kd.R_reads' HO_8.out).2.2 ((rd_T104 l0 x26_2).f1) p256 q256
                    obtain rfl:(⟨go8,0,none⟩:Addr)=ad256:=(by injection e256)
                    (first|simp only[add_plain] at hx256_0|simp only[add_at] at hx256_0|simp only[Addr.add,Nat.zero_add] at hx256_0|skip)
                    replace p256:=eq_true p256
                    replace q256:=eq_true q256
                    have p257:0≤(((rd_T104 l0 x26_2).f1):Int):=of_decide_eq_true (bD)
                    have q257:((rd_T104 l0 x26_2).f1) < (x8_1.length:Int):=of_decide_eq_true (bD)
                    obtain⟨ad257,e257,hx257_0⟩:=Kd.at_int (Kd.R_reads' HO_8.out).2.2 ((rd_T104 l0 x26_2).f1) p257 q257
                    obtain rfl:(⟨go8,0,none⟩:Addr)=ad257:=(by injection e257)
                    (first|simp only[add_plain] at hx257_0|simp only[add_at] at hx257_0|simp only[Addr.add,Nat.zero_add] at hx257_0|skip)
                    replace p257:=eq_true p257
                    replace q257:=eq_true q257
                    try go_wp2
                    go_roundg k2
                    case measure=>have:=HK1.out;have:=HK2.out;omega
                    case rel=>exact⟨(x10_2),(x11_2),(wrap64 (x26_2+1)),(bR),(bR),(bR),H',⟨by have:=HK1.out;have:=HK2.out;omega⟩,⟨by(try simp only[hl8_1]);(with_reducible repeat (first|apply Kd.R_alloc|apply Kd.R_drewN|apply Kd.R_drew));exact HO_8.out⟩,⟨by(try simp only[hl8_1]);(with_reducible repeat (first|apply Kd.R_alloc|apply Kd.R_drewN|apply Kd.R_drew));exact HO_9.out⟩,⟨bS GE251.out⟩⟩
                 ·rw[if_neg c52] at H
                  have c52b0:decide (t254 < (rd x8_1 ((rd_T104 l0 x26_2).f1)))=false:=decide_eq_false c52
                  clear c52
                  have H':=Aside0.mk H
                  clear H
                  have p250:0≤(x26_2:Int):=of_decide_eq_true (bD)
                  have q250:x26_2 < (l0.length:Int):=of_decide_eq_true (bD)
                  obtain⟨ad250,e250,hx250_0,hx250_1,hx250_2,hx250_3,hx250_4⟩:=at_T104 HR0.out x26_2 p250 q250
                  cases e250
                  replace hx250_0:=(HB.out.cell (World.block_lt_of_cell? w _ hx250_0)).trans hx250_0
                  replace hx250_1:=(HB.out.cell (World.block_lt_of_cell? w _ hx250_1)).trans hx250_1
                  replace hx250_2:=(HB.out.cell (World.block_lt_of_cell? w _ hx250_2)).trans hx250_2
                  replace hx250_3:=(HB.out.cell (World.block_lt_of_cell? w _ hx250_3)).trans hx250_3
                  replace hx250_4:=(HB.out.cell (World.block_lt_of_cell? w _ hx250_4)).trans hx250_4
                  replace p250:=eq_true p250
                  replace q250:=eq_true q250
                  try go_wp2_with (first|((with_reducible refine gate_dst (N:=13) rfl ?_);refine box_event ?hg (N:=13) ?hd (cs:=#[.int .i64 0,.int .i64 0,.int .i64 0,.int .i64 0,.int .i64 0]) (t:=104) ?hr ?_;(case hd=>rfl);(case hg=>rfl);(case hr=>first|(go_simp;done)|(go_simp;rfl));intro gb251 hg w73 hbox hb;have n0_:=Aside0.mk (Kd.R_below (bK HO_8.out) hb);have n1_:=Aside0.mk (Kd.R_below (bK HO_9.out) hb);have n2_:=Aside0.mk (below_step (bB) hb);have n3_:=Aside0.mk (hbox);have n4_:=Aside0.mk ((bG:w.heap.size≤gb251));have n5_:=Aside0.mk ((bG:w.heap.size≤gb251));clear HO_8 HO_9 HB;have HO_8:=n0_;have HO_9:=n1_;have HB:=n2_;have BK251:=n3_;have GW251:=n4_;have GE251:=n5_;clear n0_ n1_ n2_ n3_ n4_ n5_;clear hb hbox hg;obtain⟨hcz74_0,hcz74_1,hcz74_2,hcz74_3,hcz74_4⟩:=cC5 BK251.out;obtain⟨hfz74_0,hfz74_1,hfz74_2,hfz74_3,hfz74_4⟩:=cF5 BK251.out;have p252:0≤(((rd_T104 l0 x26_2).f0):Int):=of_decide_eq_true (bD);have q252:((rd_T104 l0 x26_2).f0) < (x8_1.length:Int):=of_decide_eq_true (bD);obtain⟨ad252,e252,hx252_0⟩:=Kd.at_int (Kd.R_reads' HO_8.out).2.2 ((rd_T104 l0 x26_2).f0) p252 q252;obtain rfl:(⟨go8,0,none⟩:Addr)=ad252:=(by injection e252);(first|simp only[add_plain] at hx252_0|simp only[add_at] at hx252_0|simp only[Addr.add,Nat.zero_add] at hx252_0|skip);have hn252_0:(⟨go8,0,none⟩:Addr).block≠gb251:=Kd.own_blk (Kd.R_ne HO_8.out BK251.out (by decide));have hn252_1:(⟨go8,0,none⟩:Addr).block≠gb251:=Kd.own_blk (Kd.R_ne HO_8.out BK251.out (by decide));have hn252_2:(⟨go8,0,none⟩:Addr).block≠gb251:=Kd.own_blk (Kd.R_ne HO_8.out BK251.out (by decide));have hn252_3:(⟨go8,0,none⟩:Addr).block≠gb251:=Kd.own_blk (Kd.R_ne HO_8.out BK251.out (by decide));have hn252_4:(⟨go8,0,none⟩:Addr).block≠gb251:=Kd.own_blk (Kd.R_ne HO_8.out BK251.out (by decide));replace hx252_0:=(cell_far (p:=⟨gb251,0,none⟩) (bA hn252_0) (.int .i64 ((rd_T104 l0 x26_2).f0))).trans hx252_0;replace hx252_0:=(cell_far (p:=⟨gb251,1,none⟩) (bA hn252_1) (.int .i64 ((rd_T104 l0 x26_2).f1))).trans hx252_0;replace hx252_0:=(cell_far (p:=⟨gb251,2,none⟩) (bA hn252_2) (.int .i64 ((rd_T104 l0 x26_2).f2))).trans hx252_0;replace hx252_0:=(cell_far (p:=⟨gb251,3,none⟩) (bA hn252_3) (.int .i64 ((rd_T104 l0 x26_2).f3))).trans hx252_0;replace hx252_0:=(cell_far (p:=⟨gb251,4,none⟩) (bA hn252_4) (.int .i64 ((rd_T104 l0 x26_2).f4))).trans hx252_0;clear hn252_0 hn252_1 hn252_2 hn252_3 hn252_4;replace p252:=eq_true p252;replace q252:=eq_true q252))
                  have n0_:Aside0 (Kd.R (Kd.int .i64) 3 (((((w73.setCell ⟨gb251,0,none⟩ (.int .i64 ((rd_T104 l0 x26_2).f0))).setCell ⟨gb251,1,none⟩ (.int .i64 ((rd_T104 l0 x26_2).f1))).setCell ⟨gb251,2,none⟩ (.int .i64 ((rd_T104 l0 x26_2).f2))).setCell ⟨gb251,3,none⟩ (.int .i64 ((rd_T104 l0 x26_2).f3))).setCell ⟨gb251,4,none⟩ (.int .i64 ((rd_T104 l0 x26_2).f4))) w.heap.size (fun k_=>some k_≠(v243:Value).ownBlock) (.slice (some ⟨go8,0,none⟩) x8_1.length co8) x8_1):=⟨by(with_reducible repeat (first|apply Kd.R_alloc|apply Kd.R_drewN|apply Kd.R_drew));exact Kd.R_mono (Kd.R_far (p:=⟨gb251,4,none⟩) (Kd.R_far (p:=⟨gb251,3,none⟩) (Kd.R_far (p:=⟨gb251,2,none⟩) (Kd.R_far (p:=⟨gb251,1,none⟩) (Kd.R_far (p:=⟨gb251,0,none⟩) (Kd.R_types HO_8.out BK251.out (by decide)) (fun _ hk=>hk.2) (.int .i64 ((rd_T104 l0 x26_2).f0))) (fun _ hk=>hk.2) (.int .i64 ((rd_T104 l0 x26_2).f1))) (fun _ hk=>hk.2) (.int .i64 ((rd_T104 l0 x26_2).f2))) (fun _ hk=>hk.2) (.int .i64 ((rd_T104 l0 x26_2).f3))) (fun _ hk=>hk.2) (.int .i64 ((rd_T104 l0 x26_2).f4))) (fun _ hk=>hk.1)⟩
                  have n1_:Aside0 (Kd.R (Kd.int .i64) 3 (((((w73.setCell ⟨gb251,0,none⟩ (.int .i64 ((rd_T104 l0 x26_2).f0))).setCell ⟨gb251,1,none⟩ (.int .i64 ((rd_T104 l0 x26_2).f1))).setCell ⟨gb251,2,none⟩ (.int .i64 ((rd_T104 l0 x26_2).f2))).setCell ⟨gb251,3,none⟩ (.int .i64 ((rd_T104 l0 x26_2).f3))).setCell ⟨gb251,4,none⟩ (.int .i64 ((rd_T104 l0 x26_2).f4))) w.heap.size (fun k_=>some k_≠(.slice (some ⟨go8,0,none⟩) x8_1.length co8:Value).ownBlock) v243 x9_1):=⟨by(with_reducible repeat (first|apply Kd.R_alloc|apply Kd.R_drewN|apply Kd.R_drew));exact Kd.R_mono (Kd.R_far (p:=⟨gb251,4,none⟩) (Kd.R_far (p:=⟨gb251,3,none⟩) (Kd.R_far (p:=⟨gb251,2,none⟩) (Kd.R_far (p:=⟨gb251,1,none⟩) (Kd.R_far (p:=⟨gb251,0,none⟩) (Kd.R_types HO_9.out BK251.out (by decide)) (fun _ hk=>hk.2) (.int .i64 ((rd_T104 l0 x26_2).f0))) (fun _ hk=>hk.2) (.int .i64 ((rd_T104 l0 x26_2).f1))) (fun _ hk=>hk.2) (.int .i64 ((rd_T104 l0 x26_2).f2))) (fun _ hk=>hk.2) (.int .i64 ((rd_T104 l0 x26_2).f3))) (fun _ hk=>hk.2) (.int .i64 ((rd_T104 l0 x26_2).f4))) (fun _ hk=>hk.1)⟩
                  have n2_:Aside0 ((((((w73.setCell ⟨gb251,0,none⟩ (.int .i64 ((rd_T104 l0 x26_2).f0))).setCell ⟨gb251,1,none⟩ (.int .i64 ((rd_T104 l0 x26_2).f1))).setCell ⟨gb251,2,none⟩ (.int .i64 ((rd_T104 l0 x26_2).f2))).setCell ⟨gb251,3,none⟩ (.int .i64 ((rd_T104 l0 x26_2).f3))).setCell ⟨gb251,4,none⟩ (.int .i64 ((rd_T104 l0 x26_2).f4))).heap[gb251]?=some (.cells #[.int .i64 ((rd_T104 l0 x26_2).f0),.int .i64 ((rd_T104 l0 x26_2).f1),.int .i64 ((rd_T104 l0 x26_2).f2),.int .i64 ((rd_T104 l0 x26_2).f3),.int .i64 ((rd_T104 l0 x26_2).f4)] 104 (0,0))):=⟨by(with_reducible repeat (first|refine blk_drewN ?_ _|refine blk_drew ?_|refine blk_alloc ?_ _));refine blk_put (cs:=#[.int .i64 ((rd_T104 l0 x26_2).f0),.int .i64 ((rd_T104 l0 x26_2).f1),.int .i64 ((rd_T104 l0 x26_2).f2),.int .i64 ((rd_T104 l0 x26_2).f3),.int .i64 0]) ?_ 4 _ rfl;(with_reducible repeat (first|refine blk_drewN ?_ _|refine blk_drew ?_|refine blk_alloc ?_ _));refine blk_put (cs:=#[.int .i64 ((rd_T104 l0 x26_2).f0),.int .i64 ((rd_T104 l0 x26_2).f1),.int .i64 ((rd_T104 l0 x26_2).f2),.int .i64 0,.int .i64 0]) ?_ 3 _ rfl;(with_reducible repeat (first|refine blk_drewN ?_ _|refine blk_drew ?_|refine blk_alloc ?_ _));refine blk_put (cs:=#[.int .i64 ((rd_T104 l0 x26_2).f0),.int .i64 ((rd_T104 l0 x26_2).f1),.int .i64 0,.int .i64 0,.int .i64 0]) ?_ 2 _ rfl;(with_reducible repeat (first|refine blk_drewN ?_ _|refine blk_drew ?_|refine blk_alloc ?_ _));refine blk_put (cs:=#[.int .i64 ((rd_T104 l0 x26_2).f0),.int .i64 0,.int .i64 0,.int .i64 0,.int .i64 0]) ?_ 1 _ rfl;(with_reducible repeat (first|refine blk_drewN ?_ _|refine blk_drew ?_|refine blk_alloc ?_ _));refine blk_put (cs:=#[.int .i64 0,.int .i64 0,.int .i64 0,.int .i64 0,.int .i64 0]) ?_ 0 _ rfl;(with_reducible repeat (first|refine blk_drewN ?_ _|refine blk_drew ?_|refine blk_alloc ?_ _));exact BK251.out⟩
                  have n3_:Aside0 (Below w.heap.size w (((((w73.setCell ⟨gb251,0,none⟩ (.int .i64 ((rd_T104 l0 x26_2).f0))).setCell ⟨gb251,1,none⟩ (.int .i64 ((rd_T104 l0 x26_2).f1))).setCell ⟨gb251,2,none⟩ (.int .i64 ((rd_T104 l0 x26_2).f2))).setCell ⟨gb251,3,none⟩ (.int .i64 ((rd_T104 l0 x26_2).f3))).setCell ⟨gb251,4,none⟩ (.int .i64 ((rd_T104 l0 x26_2).f4)))):=⟨bS GE251.out⟩
                  (try clear HO_8)
                  (try clear HO_9)
                  (try clear BK251)
                  (try clear HB)
                  generalize (((((w73.setCell ⟨gb251,0,none⟩ (.int .i64 ((rd_T104 l0 x26_2).f0))).setCell ⟨gb251,1,none⟩ (.int .i64 ((rd_T104 l0 x26_2).f1))).setCell ⟨gb251,2,none⟩ (.int .i64 ((rd_T104 l0 x26_2).f2))).setCell ⟨gb251,3,none⟩ (.int .i64 ((rd_T104 l0 x26_2).f3))).setCell ⟨gb251,4,none⟩ (.int .i64 ((rd_T104 l0 x26_2).f4)))=w75 at n0_ n1_ n2_ n3_ ⊢
                  have HO_8:=n0_
                  have HO_9:=n1_
                  have BK251:=n2_
                  have HB:=n3_
                  clear n0_ n1_ n2_ n3_
                  (try (rw[drewN_self w75];generalize hq_:World.drewN w75 _=w75;have n0_:=Aside0.mk (Kd.R_at hq_ HO_8.out);have n1_:=Aside0.mk (Kd.R_at hq_ HO_9.out);have n2_:=Aside0.mk (blk_at hq_ BK251.out);have n3_:=Aside0.mk (below_at hq_ HB.out);clear hq_ HO_8 HO_9 BK251 HB;have HO_8:=n0_;have HO_9:=n1_;have BK251:=n2_;have HB:=n3_;clear n0_ n1_ n2_ n3_))
                  have n0_:=Aside0.mk (Kd.R_drew HO_8.out)
                  have n1_:=Aside0.mk (Kd.R_drew HO_9.out)
                  have n2_:=Aside0.mk (blk_drew BK251.out)
                  have n3_:=Aside0.mk (below_drew1 HB.out)
                  clear HO_8 HO_9 BK251 HB
                  have HO_8:=n0_
                  have HO_9:=n1_
                  have BK251:=n2_
                  have HB:=n3_
                  clear n0_ n1_ n2_ n3_
                  have p253:0≤(((rd_T104 l0 x26_2).f0):Int):=of_decide_eq_true (bD)
                  have q253:((rd_T104 l0 x26_2).f0) < (x8_1.length:Int):=of_decide_eq_true (bD)
                  obtain⟨ad253,e253,hx253_0⟩:=Kd.at_int (Kd.R_reads' HO_8.out).2.2 ((rd_T104 l0 x26_2).f0) p253 q253
                  obtain rfl:(⟨go8,0,none⟩:Addr)=ad253:=(by injection e253)
                  (first|simp only[add_plain] at hx253_0|simp only[add_at] at hx253_0|simp only[Addr.add,Nat.zero_add] at hx253_0|skip)
                  replace p253:=eq_true p253
                  replace q253:=eq_true q253
                  refine start_ (n:=12) (S:=fun w'=>w'.cell? ⟨gb251,0,none⟩=some (.int .i64 ((rd_T104 l0 x26_2).f0))∧w'.cell? ⟨gb251,1,none⟩=some (.int .i64 ((rd_T104 l0 x26_2).f1))∧w'.cell? ⟨gb251,2,none⟩=some (.int .i64 ((rd_T104 l0 x26_2).f2))∧w'.cell? ⟨gb251,3,none⟩=some (.int .i64 ((rd_T104 l0 x26_2).f3))∧w'.cell? ⟨gb251,4,none⟩=some (.int .i64 ((rd_T104 l0 x26_2).f4))∧w'.cell? ⟨go8,(((rd_T104 l0 x26_2).f0)).toNat,none⟩=some (.int .i64 (rd x8_1 ((rd_T104 l0 x26_2).f0)))) (ds:=[]) #[false,false,false,false,false,false,false,false,false,false,false,false] (by kernel_rfl) rfl rfl ⟨(blk_cell BK251.out 0).trans rfl,(blk_cell BK251.out 1).trans rfl,(blk_cell BK251.out 2).trans rfl,(blk_cell BK251.out 3).trans rfl,(blk_cell BK251.out 4).trans rfl,hx253_0⟩ (fun hHeld => ?_);refine with_tabW impl_reach.tab8 impl_reach.bits8 (fun HT_ HW_ => ?_)
                  generalize w75.drew=w76 at HO_8 HO_9 BK251 HB hx253_0 hHeld ⊢
                  refine pure_ (i:=1) (N:=some 39) (v:=?_) (a':=?_) #[false,true,false,false,false,false,false,false,false,false,false,false] rfl rfl (any_of HT_.out (by kernel_rfl)) (fun _ _ _ h=>h) (Or.inl ⟨by rfl,?_⟩) ?_ ?_
                  rotate_left
                  ·intro w'
                   go_simp
                   with_reducible rfl
                  rotate_left
                  ·simp only[Act.put,List.setIfInBounds_toArray,List.set_cons_zero,List.set_cons_succ,i64_w,i32_w]
                   rfl
                  refine pure_ (i:=2) (N:=some 40) (v:=?_) (a':=?_) #[false,true,true,false,false,false,false,false,false,false,false,false] rfl rfl (any_of HT_.out (by kernel_rfl)) (fun _ _ _ h=>h) (Or.inl ⟨by rfl,?_⟩) ?_ ?_
                  rotate_left
                  ·intro w'
                   go_simp
                   with_reducible rfl
                  rotate_left
                  ·simp only[Act.put,List.setIfInBounds_toArray,List.set_cons_zero,List.set_cons_succ,i64_w,i32_w]
                   rfl
                  refine take_ (i:=0) (N:=some 38) (v:=?_) (a':=?_) #[true,true,true,false,false,false,false,false,false,false,false,false] rfl rfl (take_ofW HT_.out HW_.out (by kernel_rfl)) (fun _ _ _ h=>h) (Or.inl ⟨by rfl,?_⟩) hHeld ?_ ?_
                  rotate_left
                  ·rintro w' ⟨s0,s1,s2,s3,s4,s5⟩
                   go_simp
                   with_reducible rfl
                  rotate_left
                  ·simp only[Act.put,List.setIfInBounds_toArray,List.set_cons_zero,List.set_cons_succ,i64_w,i32_w]
                   rfl
                  refine take_ (i:=3) (N:=some 41) (v:=?_) (a':=?_) #[true,true,true,true,false,false,false,false,false,false,false,false] rfl rfl (take_ofW HT_.out HW_.out (by kernel_rfl)) (fun _ _ _ h=>h) (Or.inl ⟨by rfl,?_⟩) hHeld ?_ ?_
                  rotate_left
                  ·rintro w' ⟨s0,s1,s2,s3,s4,s5⟩
                   go_simp
                   with_reducible rfl
                  rotate_left
                  ·simp only[Act.put,List.setIfInBounds_toArray,List.set_cons_zero,List.set_cons_succ,i64_w,i32_w]
                   rfl
                  refine pure_ (i:=4) (N:=some 42) (v:=?_) (a':=?_) #[true,true,true,true,true,false,false,false,false,false,false,false] rfl rfl (any_of HT_.out (by kernel_rfl)) (fun _ _ _ h=>h) (Or.inl ⟨by rfl,?_⟩) ?_ ?_
                  rotate_left
                  ·intro w'
                   go_simp
                   with_reducible rfl
                  rotate_left
                  ·simp only[Act.put,List.setIfInBounds_toArray,List.set_cons_zero,List.set_cons_succ,i64_w,i32_w]
                   rfl
                  refine take_ (i:=5) (N:=some 43) (v:=?_) (a':=?_) #[true,true,true,true,true,true,false,false,false,false,false,false] rfl rfl (take_ofW HT_.out HW_.out (by kernel_rfl)) (fun _ _ _ h=>h) (Or.inl ⟨by rfl,?_⟩) hHeld ?_ ?_
                  rotate_left
                  ·rintro w' ⟨s0,s1,s2,s3,s4,s5⟩
                   go_simp
                   with_reducible rfl
                  rotate_left
                  ·simp only[Act.put,List.setIfInBounds_toArray,List.set_cons_zero,List.set_cons_succ,i64_w,i32_w]
                   rfl
                  refine one_ (i:=6) (N:=some 44) #[true,true,true,true,true,true,true,false,false,false,false,false] rfl rfl (one_of HT_.out (by kernel_rfl)) (by decide) (fun K hK => ?_)
                  refine goes_ Try.func122 (by kernel_rfl) rfl #[.agg #[.int .i64 ((rd_T104 l0 x26_2).f0),.int .i64 ((rd_T104 l0 x26_2).f1),.int .i64 ((rd_T104 l0 x26_2).f2),.int .i64 ((rd_T104 l0 x26_2).f3),.int .i64 ((rd_T104 l0 x26_2).f4)],.int .i64 (rd x8_1 ((rd_T104 l0 x26_2).f0))] (by rfl) rfl rfl (by(try simp only[List.map_toArray,List.map_cons,List.map_nil]);first|done|rfl|(simp only[List.length_drop,List.length_take];rfl)) ?_
                  with_reducible refine(impl_Contact_by.calls ((rd_T104 l0 x26_2).f0) ((rd_T104 l0 x26_2).f1) ((rd_T104 l0 x26_2).f2) ((rd_T104 l0 x26_2).f3) ((rd_T104 l0 x26_2).f4) (rd x8_1 ((rd_T104 l0 x26_2).f0)) t254 true _ A27.out).mono ?_
                  rintro e w77 ⟨rfl,hb⟩
                  have HS5_:=(hb.cell (World.block_lt_of_cell? _ _ (hHeld.2.2.2.2.2))).trans (hHeld.2.2.2.2.2)
                  refine⟨_,rfl,?_⟩
                  have n0_:=Aside0.mk (Kd.R_below (bK HO_8.out) hb)
                  have n1_:=Aside0.mk (Kd.R_below (bK HO_9.out) hb)
                  have n2_:=Aside0.mk (bM BK251.out hb)
                  have n3_:=Aside0.mk (below_step (bS GE251.out) hb)
                  clear HO_8 HO_9 BK251 HB
                  have HO_8:=n0_
                  have HO_9:=n1_
                  have BK251:=n2_
                  have HB:=n3_
                  clear n0_ n1_ n2_ n3_
                  (try clear hb)
                  (try clear hb2)
                  (try clear hk)
                  (try clear hi)
                  refine hK.out _ _ ⟨(blk_cell BK251.out 0).trans rfl,(blk_cell BK251.out 1).trans rfl,(blk_cell BK251.out 2).trans rfl,(blk_cell BK251.out 3).trans rfl,(blk_cell BK251.out 4).trans rfl,HS5_⟩ (fun hHeld => ?_)
                  clear hK K
                  refine norm_ (a':=?_) ?_ ?_
                  rotate_left
                  ·show Act.put _ (some 44) _=_
                   simp only[Act.put,List.setIfInBounds_toArray,List.set_cons_zero,List.set_cons_succ,i64_w,i32_w]
                   rfl
                  refine pure_ (i:=7) (N:=some 37) (v:=?_) (a':=?_) #[true,true,true,true,true,true,true,true,false,false,false,false] rfl rfl (any_of HT_.out (by kernel_rfl)) (fun _ _ _ h=>h) (Or.inl ⟨by rfl,?_⟩) ?_ ?_
                  rotate_left
                  ·intro w'
                   go_simp
                   with_reducible rfl
                  rotate_left
                  ·simp only[Act.put,List.setIfInBounds_toArray,List.set_cons_zero,List.set_cons_succ,i64_w,i32_w]
                   rfl
                  refine pure_ (i:=8) (N:=some 45) (v:=?_) (a':=?_) #[true,true,true,true,true,true,true,true,true,false,false,false] rfl rfl (any_of HT_.out (by kernel_rfl)) (fun _ _ _ h=>h) (Or.inl ⟨by rfl,?_⟩) ?_ ?_
                  rotate_left
                  ·intro w'
                   go_simp
                   with_reducible rfl
                  rotate_left
                  ·simp only[Act.put,List.setIfInBounds_toArray,List.set_cons_zero,List.set_cons_succ,i64_w,i32_w]
                   rfl
                  refine pure_ (i:=9) (N:=some 46) (v:=?_) (a':=?_) #[true,true,true,true,true,true,true,true,true,true,false,false] rfl rfl (any_of HT_.out (by kernel_rfl)) (fun _ _ _ h=>h) (Or.inl ⟨by rfl,?_⟩) ?_ ?_
                  rotate_left
                  ·intro w'
                   go_simp
                   with_reducible rfl
                  rotate_left
                  ·simp only[Act.put,List.setIfInBounds_toArray,List.set_cons_zero,List.set_cons_succ,i64_w,i32_w]
                   rfl
                  refine pure_ (i:=10) (N:=some 14) (v:=?_) (a':=?_) #[true,true,true,true,true,true,true,true,true,true,true,false] rfl rfl (any_of HT_.out (by kernel_rfl)) (fun _ _ _ h=>h) (Or.inl ⟨by rfl,?_⟩) ?_ ?_
                  rotate_left
                  ·intro w'
                   go_simp
                   with_reducible rfl
                  rotate_left
                  ·simp only[Act.put,List.setIfInBounds_toArray,List.set_cons_zero,List.set_cons_succ,i64_w,i32_w]
                   rfl
                  refine pure_ (i:=11) (N:=some 15) (v:=?_) (a':=?_) #[true,true,true,true,true,true,true,true,true,true,true,true] rfl rfl (any_of HT_.out (by kernel_rfl)) (fun _ _ _ h=>h) (Or.inl ⟨by rfl,?_⟩) ?_ ?_
                  rotate_left
                  ·intro w'
                   go_simp
                   with_reducible rfl
                  rotate_left
                  ·simp only[Act.put,List.setIfInBounds_toArray,List.set_cons_zero,List.set_cons_succ,i64_w,i32_w]
                   rfl
                  refine done_ (done_of HT_.out (by kernel_rfl)) ?_
                  obtain⟨hcz78_0,hcz78_1,hcz78_2,hcz78_3,hcz78_4⟩:=cC5 BK251.out
                  obtain⟨hfz78_0,hfz78_1,hfz78_2,hfz78_3,hfz78_4⟩:=cF5 BK251.out
                  have p256:0≤(((rd_T104 l0 x26_2).f1):Int):=of_decide_eq_true (bD)
                  have q256:((rd_T104 l0 x26_2).f1) < (x8_1.length:Int):=of_decide_eq_true (bD)
                  obtain⟨ad256,e256,hx256_0⟩:=Kd.at_int (Kd.R_reads' HO_8.out).2.2 ((rd_T104 l0 x26_2).f1) p256 q256
                  obtain rfl:(⟨go8,0,none⟩:Addr)=ad256:=(by injection e256)
                  (first|simp only[add_plain] at hx256_0|simp only[add_at] at hx256_0|simp only[Addr.add,Nat.zero_add] at hx256_0|skip)
                  replace p256:=eq_true p256
                  replace q256:=eq_true q256
                  have p257:0≤(((rd_T104 l0 x26_2).f1):Int):=of_decide_eq_true (bD)
                  have q257:((rd_T104 l0 x26_2).f1) < (x8_1.length:Int):=of_decide_eq_true (bD)
                  obtain⟨ad257,e257,hx257_0⟩:=Kd.at_int (Kd.R_reads' HO_8.out).2.2 ((rd_T104 l0 x26_2).f1) p257 q257
                  obtain rfl:(⟨go8,0,none⟩:Addr)=ad257:=(by injection e257)
                  (first|simp only[add_plain] at hx257_0|simp only[add_at] at hx257_0|simp only[Addr.add,Nat.zero_add] at hx257_0|skip)
                  replace p257:=eq_true p257
                  replace q257:=eq_true q257
                  try go_wp2
                  go_roundg k2
                  case measure=>have:=HK1.out;have:=HK2.out;omega
                  case rel=>exact⟨(x10_2),(x11_2),(wrap64 (x26_2+1)),(bR),(bR),(bR),H',⟨by have:=HK1.out;have:=HK2.out;omega⟩,⟨by(try simp only[hl8_1]);(with_reducible repeat (first|apply Kd.R_alloc|apply Kd.R_drewN|apply Kd.R_drew));exact HO_8.out⟩,⟨by(try simp only[hl8_1]);(with_reducible repeat (first|apply Kd.R_alloc|apply Kd.R_drewN|apply Kd.R_drew));exact HO_9.out⟩,⟨bS GE251.out⟩⟩
               ·rw[if_neg c30] at H
                exact absurd H (by simp)
              ·rw[if_neg c29] at H
               exact absurd H (by simp)
             ·replace c28:=Bool.eq_false_iff.mpr c28
              subst c28
              have H1:(impl_reach.l1 k2 l0 x8_1 x9_1 x10_2 x11_2 l0 (l0.length:Int) (wrap64 (x26_2+1)))=some (r1,r2):=by rw[if_neg (show ¬ (false=true) by decide)] at H;exact H
              clear H
              have H:=H1
              clear H1
              have H':=Aside0.mk H
              clear H
              have p250:0≤(x26_2:Int):=of_decide_eq_true (bD)
              have q250:x26_2 < (l0.length:Int):=of_decide_eq_true (bD)
              obtain⟨ad250,e250,hx250_0,hx250_1,hx250_2,hx250_3,hx250_4⟩:=at_T104 HR0.out x26_2 p250 q250
              cases e250
              replace hx250_0:=(HB.out.cell (World.block_lt_of_cell? w _ hx250_0)).trans hx250_0
              replace hx250_1:=(HB.out.cell (World.block_lt_of_cell? w _ hx250_1)).trans hx250_1
              replace hx250_2:=(HB.out.cell (World.block_lt_of_cell? w _ hx250_2)).trans hx250_2
              replace hx250_3:=(HB.out.cell (World.block_lt_of_cell? w _ hx250_3)).trans hx250_3
              replace hx250_4:=(HB.out.cell (World.block_lt_of_cell? w _ hx250_4)).trans hx250_4
              replace p250:=eq_true p250
              replace q250:=eq_true q250
              try go_wp2_with (first|((with_reducible refine gate_dst (N:=13) rfl ?_);refine box_event ?hg (N:=13) ?hd (cs:=#[.int .i64 0,.int .i64 0,.int .i64 0,.int .i64 0,.int .i64 0]) (t:=104) ?hr ?_;(case hd=>rfl);(case hg=>rfl);(case hr=>first|(go_simp;done)|(go_simp;rfl));intro gb251 hg w79 hbox hb;have n0_:=Aside0.mk (Kd.R_below (bK HO_8.out) hb);have n1_:=Aside0.mk (Kd.R_below (bK HO_9.out) hb);have n2_:=Aside0.mk (below_step (bB) hb);have n3_:=Aside0.mk (hbox);have n4_:=Aside0.mk ((bG:w.heap.size≤gb251));have n5_:=Aside0.mk ((bG:w.heap.size≤gb251));clear HO_8 HO_9 HB;have HO_8:=n0_;have HO_9:=n1_;have HB:=n2_;have BK251:=n3_;have GW251:=n4_;have GE251:=n5_;clear n0_ n1_ n2_ n3_ n4_ n5_;clear hb hbox hg;obtain⟨hcz80_0,hcz80_1,hcz80_2,hcz80_3,hcz80_4⟩:=cC5 BK251.out;obtain⟨hfz80_0,hfz80_1,hfz80_2,hfz80_3,hfz80_4⟩:=cF5 BK251.out;have p252:0≤(((rd_T104 l0 x26_2).f0):Int):=of_decide_eq_true (bD);have q252:((rd_T104 l0 x26_2).f0) < (x8_1.length:Int):=of_decide_eq_true (bD);obtain⟨ad252,e252,hx252_0⟩:=Kd.at_int (Kd.R_reads' HO_8.out).2.2 ((rd_T104 l0 x26_2).f0) p252 q252;obtain rfl:(⟨go8,0,none⟩:Addr)=ad252:=(by injection e252);(first|simp only[add_plain] at hx252_0|simp only[add_at] at hx252_0|simp only[Addr.add,Nat.zero_add] at hx252_0|skip);have hn252_0:(⟨go8,0,none⟩:Addr).block≠gb251:=Kd.own_blk (Kd.R_ne HO_8.out BK251.out (by decide));have hn252_1:(⟨go8,0,none⟩:Addr).block≠gb251:=Kd.own_blk (Kd.R_ne HO_8.out BK251.out (by decide));have hn252_2:(⟨go8,0,none⟩:Addr).block≠gb251:=Kd.own_blk (Kd.R_ne HO_8.out BK251.out (by decide));have hn252_3:(⟨go8,0,none⟩:Addr).block≠gb251:=Kd.own_blk (Kd.R_ne HO_8.out BK251.out (by decide));have hn252_4:(⟨go8,0,none⟩:Addr).block≠gb251:=Kd.own_blk (Kd.R_ne HO_8.out BK251.out (by decide));replace hx252_0:=(cell_far (p:=⟨gb251,0,none⟩) (bA hn252_0) (.int .i64 ((rd_T104 l0 x26_2).f0))).trans hx252_0;replace hx252_0:=(cell_far (p:=⟨gb251,1,none⟩) (bA hn252_1) (.int .i64 ((rd_T104 l0 x26_2).f1))).trans hx252_0;replace hx252_0:=(cell_far (p:=⟨gb251,2,none⟩) (bA hn252_2) (.int .i64 ((rd_T104 l0 x26_2).f2))).trans hx252_0;replace hx252_0:=(cell_far (p:=⟨gb251,3,none⟩) (bA hn252_3) (.int .i64 ((rd_T104 l0 x26_2).f3))).trans hx252_0;replace hx252_0:=(cell_far (p:=⟨gb251,4,none⟩) (bA hn252_4) (.int .i64 ((rd_T104 l0 x26_2).f4))).trans hx252_0;clear hn252_0 hn252_1 hn252_2 hn252_3 hn252_4;replace p252:=eq_true p252;replace q252:=eq_true q252))
              have n0_:Aside0 (Kd.R (Kd.int .i64) 3 (((((w79.setCell ⟨gb251,0,none⟩ (.int .i64 ((rd_T104 l0 x26_2).f0))).setCell ⟨gb251,1,none⟩ (.int .i64 ((rd_T104 l0 x26_2).f1))).setCell ⟨gb251,2,none⟩ (.int .i64 ((rd_T104 l0 x26_2).f2))).setCell ⟨gb251,3,none⟩ (.int .i64 ((rd_T104 l0 x26_2).f3))).setCell ⟨gb251,4,none⟩ (.int .i64 ((rd_T104 l0 x26_2).f4))) w.heap.size (fun k_=>some k_≠(v243:Value).ownBlock) (.slice (some ⟨go8,0,none⟩) x8_1.length co8) x8_1):=⟨by(with_reducible repeat (first|apply Kd.R_alloc|apply Kd.R_drewN|apply Kd.R_drew));exact Kd.R_mono (Kd.R_far (p:=⟨gb251,4,none⟩) (Kd.R_far (p:=⟨gb251,3,none⟩) (Kd.R_far (p:=⟨gb251,2,none⟩) (Kd.R_far (p:=⟨gb251,1,none⟩) (Kd.R_far (p:=⟨gb251,0,none⟩) (Kd.R_types HO_8.out BK251.out (by decide)) (fun _ hk=>hk.2) (.int .i64 ((rd_T104 l0 x26_2).f0))) (fun _ hk=>hk.2) (.int .i64 ((rd_T104 l0 x26_2).f1))) (fun _ hk=>hk.2) (.int .i64 ((rd_T104 l0 x26_2).f2))) (fun _ hk=>hk.2) (.int .i64 ((rd_T104 l0 x26_2).f3))) (fun _ hk=>hk.2) (.int .i64 ((rd_T104 l0 x26_2).f4))) (fun _ hk=>hk.1)⟩
              have n1_:Aside0 (Kd.R (Kd.int .i64) 3 (((((w79.setCell ⟨gb251,0,none⟩ (.int .i64 ((rd_T104 l0 x26_2).f0))).setCell ⟨gb251,1,none⟩ (.int .i64 ((rd_T104 l0 x26_2).f1))).setCell ⟨gb251,2,none⟩ (.int .i64 ((rd_T104 l0 x26_2).f2))).setCell ⟨gb251,3,none⟩ (.int .i64 ((rd_T104 l0 x26_2).f3))).setCell ⟨gb251,4,none⟩ (.int .i64 ((rd_T104 l0 x26_2).f4))) w.heap.size (fun k_=>some k_≠(.slice (some ⟨go8,0,none⟩) x8_1.length co8:Value).ownBlock) v243 x9_1):=⟨by(with_reducible repeat (first|apply Kd.R_alloc|apply Kd.R_drewN|apply Kd.R_drew));exact Kd.R_mono (Kd.R_far (p:=⟨gb251,4,none⟩) (Kd.R_far (p:=⟨gb251,3,none⟩) (Kd.R_far (p:=⟨gb251,2,none⟩) (Kd.R_far (p:=⟨gb251,1,none⟩) (Kd.R_far (p:=⟨gb251,0,none⟩) (Kd.R_types HO_9.out BK251.out (by decide)) (fun _ hk=>hk.2) (.int .i64 ((rd_T104 l0 x26_2).f0))) (fun _ hk=>hk.2) (.int .i64 ((rd_T104 l0 x26_2).f1))) (fun _ hk=>hk.2) (.int .i64 ((rd_T104 l0 x26_2).f2))) (fun _ hk=>hk.2) (.int .i64 ((rd_T104 l0 x26_2).f3))) (fun _ hk=>hk.2) (.int .i64 ((rd_T104 l0 x26_2).f4))) (fun _ hk=>hk.1)⟩
              have n2_:Aside0 ((((((w79.setCell ⟨gb251,0,none⟩ (.int .i64 ((rd_T104 l0 x26_2).f0))).setCell ⟨gb251,1,none⟩ (.int .i64 ((rd_T104 l0 x26_2).f1))).setCell ⟨gb251,2,none⟩ (.int .i64 ((rd_T104 l0 x26_2).f2))).setCell ⟨gb251,3,none⟩ (.int .i64 ((rd_T104 l0 x26_2).f3))).setCell ⟨gb251,4,none⟩ (.int .i64 ((rd_T104 l0 x26_2).f4))).heap[gb251]?=some (.cells #[.int .i64 ((rd_T104 l0 x26_2).f0),.int .i64 ((rd_T104 l0 x26_2).f1),.int .i64 ((rd_T104 l0 x26_2).f2),.int .i64 ((rd_T104 l0 x26_2).f3),.int .i64 ((rd_T104 l0 x26_2).f4)] 104 (0,0))):=⟨by(with_reducible repeat (first|refine blk_drewN ?_ _|refine blk_drew ?_|refine blk_alloc ?_ _));refine blk_put (cs:=#[.int .i64 ((rd_T104 l0 x26_2).f0),.int .i64 ((rd_T104 l0 x26_2).f1),.int .i64 ((rd_T104 l0 x26_2).f2),.int .i64 ((rd_T104 l0 x26_2).f3),.int .i64 0]) ?_ 4 _ rfl;(with_reducible repeat (first|refine blk_drewN ?_ _|refine blk_drew ?_|refine blk_alloc ?_ _));refine blk_put (cs:=#[.int .i64 ((rd_T104 l0 x26_2).f0),.int .i64 ((rd_T104 l0 x26_2).f1),.int .i64 ((rd_T104 l0 x26_2).f2),.int .i64 0,.int .i64 0]) ?_ 3 _ rfl;(with_reducible repeat (first|refine blk_drewN ?_ _|refine blk_drew ?_|refine blk_alloc ?_ _));refine blk_put (cs:=#[.int .i64 ((rd_T104 l0 x26_2).f0),.int .i64 ((rd_T104 l0 x26_2).f1),.int .i64 0,.int .i64 0,.int .i64 0]) ?_ 2 _ rfl;(with_reducible repeat (first|refine blk_drewN ?_ _|refine blk_drew ?_|refine blk_alloc ?_ _));refine blk_put (cs:=#[.int .i64 ((rd_T104 l0 x26_2).f0),.int .i64 0,.int .i64 0,.int .i64 0,.int .i64 0]) ?_ 1 _ rfl;(with_reducible repeat (first|refine blk_drewN ?_ _|refine blk_drew ?_|refine blk_alloc ?_ _));refine blk_put (cs:=#[.int .i64 0,.int .i64 0,.int .i64 0,.int .i64 0,.int .i64 0]) ?_ 0 _ rfl;(with_reducible repeat (first|refine blk_drewN ?_ _|refine blk_drew ?_|refine blk_alloc ?_ _));exact BK251.out⟩
              have n3_:Aside0 (Below w.heap.size w (((((w79.setCell ⟨gb251,0,none⟩ (.int .i64 ((rd_T104 l0 x26_2).f0))).setCell ⟨gb251,1,none⟩ (.int .i64 ((rd_T104 l0 x26_2).f1))).setCell ⟨gb251,2,none⟩ (.int .i64 ((rd_T104 l0 x26_2).f2))).setCell ⟨gb251,3,none⟩ (.int .i64 ((rd_T104 l0 x26_2).f3))).setCell ⟨gb251,4,none⟩ (.int .i64 ((rd_T104 l0 x26_2).f4)))):=⟨bS GE251.out⟩
              (try clear HO_8)
              (try clear HO_9)
              (try clear BK251)
              (try clear HB)
              generalize (((((w79.setCell ⟨gb251,0,none⟩ (.int .i64 ((rd_T104 l0 x26_2).f0))).setCell ⟨gb251,1,none⟩ (.int .i64 ((rd_T104 l0 x26_2).f1))).setCell ⟨gb251,2,none⟩ (.int .i64 ((rd_T104 l0 x26_2).f2))).setCell ⟨gb251,3,none⟩ (.int .i64 ((rd_T104 l0 x26_2).f3))).setCell ⟨gb251,4,none⟩ (.int .i64 ((rd_T104 l0 x26_2).f4)))=w81 at n0_ n1_ n2_ n3_ ⊢
              have HO_8:=n0_
              have HO_9:=n1_
              have BK251:=n2_
              have HB:=n3_
              clear n0_ n1_ n2_ n3_
              (try (rw[drewN_self w81];generalize hq_:World.drewN w81 _=w81;have n0_:=Aside0.mk (Kd.R_at hq_ HO_8.out);have n1_:=Aside0.mk (Kd.R_at hq_ HO_9.out);have n2_:=Aside0.mk (blk_at hq_ BK251.out);have n3_:=Aside0.mk (below_at hq_ HB.out);clear hq_ HO_8 HO_9 BK251 HB;have HO_8:=n0_;have HO_9:=n1_;have BK251:=n2_;have HB:=n3_;clear n0_ n1_ n2_ n3_))
              have n0_:=Aside0.mk (Kd.R_drew HO_8.out)
              have n1_:=Aside0.mk (Kd.R_drew HO_9.out)
              have n2_:=Aside0.mk (blk_drew BK251.out)
              have n3_:=Aside0.mk (below_drew1 HB.out)
              clear HO_8 HO_9 BK251 HB
              have HO_8:=n0_
              have HO_9:=n1_
              have BK251:=n2_
              have HB:=n3_
              clear n0_ n1_ n2_ n3_
              have p253:0≤(((rd_T104 l0 x26_2).f0):Int):=of_decide_eq_true (bD)
              have q253:((rd_T104 l0 x26_2).f0) < (x8_1.length:Int):=of_decide_eq_true (bD)
              obtain⟨ad253,e253,hx253_0⟩:=Kd.at_int (Kd.R_reads' HO_8.out).2.2 ((rd_T104 l0 x26_2).f0) p253 q253
              obtain rfl:(⟨go8,0,none⟩:Addr)=ad253:=(by injection e253)
              (first|simp only[add_plain] at hx253_0|simp only[add_at] at hx253_0|simp only[Addr.add,Nat.zero_add] at hx253_0|skip)
              replace p253:=eq_true p253
              replace q253:=eq_true q253
              refine start_ (n:=12) (S:=fun w'=>w'.cell? ⟨gb251,0,none⟩=some (.int .i64 ((rd_T104 l0 x26_2).f0))∧w'.cell? ⟨gb251,1,none⟩=some (.int .i64 ((rd_T104 l0 x26_2).f1))∧w'.cell? ⟨gb251,2,none⟩=some (.int .i64 ((rd_T104 l0 x26_2).f2))∧w'.cell? ⟨gb251,3,none⟩=some (.int .i64 ((rd_T104 l0 x26_2).f3))∧w'.cell? ⟨gb251,4,none⟩=some (.int .i64 ((rd_T104 l0 x26_2).f4))∧w'.cell? ⟨go8,(((rd_T104 l0 x26_2).f0)).toNat,none⟩=some (.int .i64 (rd x8_1 ((rd_T104 l0 x26_2).f0)))) (ds:=[]) #[false,false,false,false,false,false,false,false,false,false,false,false] (by kernel_rfl) rfl rfl ⟨(blk_cell BK251.out 0).trans rfl,(blk_cell BK251.out 1).trans rfl,(blk_cell BK251.out 2).trans rfl,(blk_cell BK251.out 3).trans rfl,(blk_cell BK251.out 4).trans rfl,hx253_0⟩ (fun hHeld => ?_);refine with_tabW impl_reach.tab8 impl_reach.bits8 (fun HT_ HW_ => ?_)
              generalize w81.drew=w82 at HO_8 HO_9 BK251 HB hx253_0 hHeld ⊢
              refine pure_ (i:=1) (N:=some 39) (v:=?_) (a':=?_) #[false,true,false,false,false,false,false,false,false,false,false,false] rfl rfl (any_of HT_.out (by kernel_rfl)) (fun _ _ _ h=>h) (Or.inl ⟨by rfl,?_⟩) ?_ ?_
              rotate_left
              ·intro w'
               go_simp
               with_reducible rfl
              rotate_left
              ·simp only[Act.put,List.setIfInBounds_toArray,List.set_cons_zero,List.set_cons_succ,i64_w,i32_w]
               rfl
              refine pure_ (i:=2) (N:=some 40) (v:=?_) (a':=?_) #[false,true,true,false,false,false,false,false,false,false,false,false] rfl rfl (any_of HT_.out (by kernel_rfl)) (fun _ _ _ h=>h) (Or.inl ⟨by rfl,?_⟩) ?_ ?_
              rotate_left
              ·intro w'
               go_simp
               with_reducible rfl
              rotate_left
              ·simp only[Act.put,List.setIfInBounds_toArray,List.set_cons_zero,List.set_cons_succ,i64_w,i32_w]
               rfl
              refine take_ (i:=0) (N:=some 38) (v:=?_) (a':=?_) #[true,true,true,false,false,false,false,false,false,false,false,false] rfl rfl (take_ofW HT_.out HW_.out (by kernel_rfl)) (fun _ _ _ h=>h) (Or.inl ⟨by rfl,?_⟩) hHeld ?_ ?_
              rotate_left
              ·rintro w' ⟨s0,s1,s2,s3,s4,s5⟩
               go_simp
               with_reducible rfl
              rotate_left
              ·simp only[Act.put,List.setIfInBounds_toArray,List.set_cons_zero,List.set_cons_succ,i64_w,i32_w]
               rfl
              refine take_ (i:=3) (N:=some 41) (v:=?_) (a':=?_) #[true,true,true,true,false,false,false,false,false,false,false,false] rfl rfl (take_ofW HT_.out HW_.out (by kernel_rfl)) (fun _ _ _ h=>h) (Or.inl ⟨by rfl,?_⟩) hHeld ?_ ?_
              rotate_left
              ·rintro w' ⟨s0,s1,s2,s3,s4,s5⟩
               go_simp
               with_reducible rfl
              rotate_left
              ·simp only[Act.put,List.setIfInBounds_toArray,List.set_cons_zero,List.set_cons_succ,i64_w,i32_w]
               rfl
              refine pure_ (i:=4) (N:=some 42) (v:=?_) (a':=?_) #[true,true,true,true,true,false,false,false,false,false,false,false] rfl rfl (any_of HT_.out (by kernel_rfl)) (fun _ _ _ h=>h) (Or.inl ⟨by rfl,?_⟩) ?_ ?_
              rotate_left
              ·intro w'
               go_simp
               with_reducible rfl
              rotate_left
              ·simp only[Act.put,List.setIfInBounds_toArray,List.set_cons_zero,List.set_cons_succ,i64_w,i32_w]
               rfl
              refine take_ (i:=5) (N:=some 43) (v:=?_) (a':=?_) #[true,true,true,true,true,true,false,false,false,false,false,false] rfl rfl (take_ofW HT_.out HW_.out (by kernel_rfl)) (fun _ _ _ h=>h) (Or.inl ⟨by rfl,?_⟩) hHeld ?_ ?_
              rotate_left
              ·rintro w' ⟨s0,s1,s2,s3,s4,s5⟩
               go_simp
               with_reducible rfl
              rotate_left
              ·simp only[Act.put,List.setIfInBounds_toArray,List.set_cons_zero,List.set_cons_succ,i64_w,i32_w]
               rfl
              refine one_ (i:=6) (N:=some 44) #[true,true,true,true,true,true,true,false,false,false,false,false] rfl rfl (one_of HT_.out (by kernel_rfl)) (by decide) (fun K hK => ?_)
              refine goes_ Try.func122 (by kernel_rfl) rfl #[.agg #[.int .i64 ((rd_T104 l0 x26_2).f0),.int .i64 ((rd_T104 l0 x26_2).f1),.int .i64 ((rd_T104 l0 x26_2).f2),.int .i64 ((rd_T104 l0 x26_2).f3),.int .i64 ((rd_T104 l0 x26_2).f4)],.int .i64 (rd x8_1 ((rd_T104 l0 x26_2).f0))] (by rfl) rfl rfl (by(try simp only[List.map_toArray,List.map_cons,List.map_nil]);first|done|rfl|(simp only[List.length_drop,List.length_take];rfl)) ?_
              with_reducible refine(impl_Contact_by.calls ((rd_T104 l0 x26_2).f0) ((rd_T104 l0 x26_2).f1) ((rd_T104 l0 x26_2).f2) ((rd_T104 l0 x26_2).f3) ((rd_T104 l0 x26_2).f4) (rd x8_1 ((rd_T104 l0 x26_2).f0)) t254 false _ A27.out).mono ?_
              rintro e w83 ⟨rfl,hb⟩
              have HS5_:=(hb.cell (World.block_lt_of_cell? _ _ (hHeld.2.2.2.2.2))).trans (hHeld.2.2.2.2.2)
              refine⟨_,rfl,?_⟩
              have n0_:=Aside0.mk (Kd.R_below (bK HO_8.out) hb)
              have n1_:=Aside0.mk (Kd.R_below (bK HO_9.out) hb)
              have n2_:=Aside0.mk (bM BK251.out hb)
              have n3_:=Aside0.mk (below_step (bS GE251.out) hb)
              clear HO_8 HO_9 BK251 HB
              have HO_8:=n0_
              have HO_9:=n1_
              have BK251:=n2_
              have HB:=n3_
              clear n0_ n1_ n2_ n3_
              (try clear hb)
              (try clear hb2)
              (try clear hk)
              (try clear hi)
              refine hK.out _ _ ⟨(blk_cell BK251.out 0).trans rfl,(blk_cell BK251.out 1).trans rfl,(blk_cell BK251.out 2).trans rfl,(blk_cell BK251.out 3).trans rfl,(blk_cell BK251.out 4).trans rfl,HS5_⟩ (fun hHeld => ?_)
              clear hK K
              refine norm_ (a':=?_) ?_ ?_
              rotate_left
              ·show Act.put _ (some 44) _=_
               simp only[Act.put,List.setIfInBounds_toArray,List.set_cons_zero,List.set_cons_succ,i64_w,i32_w]
               rfl
              refine pure_ (i:=7) (N:=some 37) (v:=?_) (a':=?_) #[true,true,true,true,true,true,true,true,false,false,false,false] rfl rfl (any_of HT_.out (by kernel_rfl)) (fun _ _ _ h=>h) (Or.inl ⟨by rfl,?_⟩) ?_ ?_
              rotate_left
              ·intro w'
               go_simp
               with_reducible rfl
              rotate_left
              ·simp only[Act.put,List.setIfInBounds_toArray,List.set_cons_zero,List.set_cons_succ,i64_w,i32_w]
               rfl
              refine pure_ (i:=8) (N:=some 45) (v:=?_) (a':=?_) #[true,true,true,true,true,true,true,true,true,false,false,false] rfl rfl (any_of HT_.out (by kernel_rfl)) (fun _ _ _ h=>h) (Or.inl ⟨by rfl,?_⟩) ?_ ?_
              rotate_left
              ·intro w'
               go_simp
               with_reducible rfl
              rotate_left
              ·simp only[Act.put,List.setIfInBounds_toArray,List.set_cons_zero,List.set_cons_succ,i64_w,i32_w]
               rfl
              refine pure_ (i:=9) (N:=some 46) (v:=?_) (a':=?_) #[true,true,true,true,true,true,true,true,true,true,false,false] rfl rfl (any_of HT_.out (by kernel_rfl)) (fun _ _ _ h=>h) (Or.inl ⟨by rfl,?_⟩) ?_ ?_
              rotate_left
              ·intro w'
               go_simp
               with_reducible rfl
              rotate_left
              ·simp only[Act.put,List.setIfInBounds_toArray,List.set_cons_zero,List.set_cons_succ,i64_w,i32_w]
               rfl
              refine pure_ (i:=10) (N:=some 14) (v:=?_) (a':=?_) #[true,true,true,true,true,true,true,true,true,true,true,false] rfl rfl (any_of HT_.out (by kernel_rfl)) (fun _ _ _ h=>h) (Or.inl ⟨by rfl,?_⟩) ?_ ?_
              rotate_left
              ·intro w'
               go_simp
               with_reducible rfl
              rotate_left
              ·simp only[Act.put,List.setIfInBounds_toArray,List.set_cons_zero,List.set_cons_succ,i64_w,i32_w]
               rfl
              refine pure_ (i:=11) (N:=some 15) (v:=?_) (a':=?_) #[true,true,true,true,true,true,true,true,true,true,true,true] rfl rfl (any_of HT_.out (by kernel_rfl)) (fun _ _ _ h=>h) (Or.inl ⟨by rfl,?_⟩) ?_ ?_
              rotate_left
              ·intro w'
               go_simp
               with_reducible rfl
              rotate_left
              ·simp only[Act.put,List.setIfInBounds_toArray,List.set_cons_zero,List.set_cons_succ,i64_w,i32_w]
               rfl
              refine done_ (done_of HT_.out (by kernel_rfl)) ?_
              try go_wp2
              go_roundg k2
              case measure=>have:=HK1.out;have:=HK2.out;omega
              case rel=>exact⟨(x10_2),(x11_2),(wrap64 (x26_2+1)),(bR),(bR),(bR),H',⟨by have:=HK1.out;have:=HK2.out;omega⟩,⟨by(try simp only[hl8_1]);(with_reducible repeat (first|apply Kd.R_alloc|apply Kd.R_drewN|apply Kd.R_drew));exact HO_8.out⟩,⟨by(try simp only[hl8_1]);(with_reducible repeat (first|apply Kd.R_alloc|apply Kd.R_drewN|apply Kd.R_drew));exact HO_9.out⟩,⟨bS GE251.out⟩⟩
           ·rw[if_neg c23] at H
            exact absurd H (by simp)
          ·rw[if_neg c22] at H
           exact absurd H (by simp)
         ·rw[if_neg c21] at H
          exact absurd H (by simp)
        ·rw[if_neg c20] at H
         exact absurd H (by simp)
       ·rw[if_neg c19] at H
        have c19b0:decide (x26_2 < (l0.length:Int))=false:=decide_eq_false c19
        clear c19
        by_cases c84:x10_2 < 0
        ·rw[if_pos c84] at H
         have c84b0:decide (x10_2 < 0)=true:=decide_eq_true c84
         clear c84
         simp only[Option.some.injEq,Prod.mk.injEq] at H
         obtain⟨rfl,rfl⟩:=H
         go_wp2
         go_ret2
         exact⟨_,_,by first|rfl|(simp[errW_none,errW_some]<;>rfl)|(simp[*,errW_none,errW_some]<;>rfl),by(with_reducible repeat (first|apply Kd.R_alloc|apply Kd.R_drewN|apply Kd.R_drew));exact HO_8.out,by(with_reducible repeat (first|apply Kd.R_alloc|apply Kd.R_drewN|apply Kd.R_drew));exact HO_9.out,bB⟩
        ·rw[if_neg c84] at H
         have c84b0:decide (x10_2 < 0)=false:=decide_eq_false c84
         clear c84
         by_cases c85:0≤x10_2
         ·rw[if_pos c85] at H
          have c85b0:decide (0≤x10_2)=true:=decide_eq_true c85
          clear c85
          by_cases c86:x10_2 < (l0.length:Int)
          ·rw[if_pos c86] at H
           have c86b0:decide (x10_2 < (l0.length:Int))=true:=decide_eq_true c86
           clear c86
           by_cases c87:0≤((rd_T104 l0 x10_2).f1)
           ·rw[if_pos c87] at H
            have c87b0:decide (0≤((rd_T104 l0 x10_2).f1))=true:=decide_eq_true c87
            clear c87
            by_cases c88:((rd_T104 l0 x10_2).f1) < (x8_1.length:Int)
            ·rw[if_pos c88] at H
             have c88b0:decide (((rd_T104 l0 x10_2).f1) < (x8_1.length:Int))=true:=decide_eq_true c88
             clear c88
             obtain⟨y248,hy248⟩ : ∃ y_:List Int,y_=(x8_1.set (((rd_T104 l0 x10_2).f1):Int).toNat x11_2):=⟨_,rfl⟩
             replace H:(if ((rd_T104 l0 x10_2).f1) < (x9_1.length:Int) then (impl_reach.l0 k2 l0 y248 (x9_1.set (((rd_T104 l0 x10_2).f1):Int).toNat x10_2)) else (none))=some (r1,r2):=by first|(rw[hy248];with_reducible exact H)|(have H2_:=(Option.bind_some _ _).symm.trans H;rw[hy248];with_reducible exact H2_)|(have H2_:=(Option.bind_some _ _).symm.trans H;with_reducible exact H2_)|with_reducible exact H|(rw[hy248];exact H)|exact H
             have Ny248:=Aside0.mk hy248
             clear hy248
             by_cases c90:((rd_T104 l0 x10_2).f1) < (x9_1.length:Int)
             ·rw[if_pos c90] at H
              have c90b0:decide (((rd_T104 l0 x10_2).f1) < (x9_1.length:Int))=true:=decide_eq_true c90
              clear c90
              obtain⟨y249,hy249⟩ : ∃ y_:List Int,y_=(x9_1.set (((rd_T104 l0 x10_2).f1):Int).toNat x10_2):=⟨_,rfl⟩
              replace H:(impl_reach.l0 k2 l0 y248 y249)=some (r1,r2):=by first|(rw[hy249];with_reducible exact H)|(have H2_:=(Option.bind_some _ _).symm.trans H;rw[hy249];with_reducible exact H2_)|(have H2_:=(Option.bind_some _ _).symm.trans H;with_reducible exact H2_)|with_reducible exact H|(rw[hy249];exact H)|exact H
              have Ny249:=Aside0.mk hy249
              clear hy249
              have H':=Aside0.mk H
              clear H
              try go_wp2
              (try (rw[drewN_self wr];generalize hq_:World.drewN wr _=wr;have n0_:=Aside0.mk (Kd.R_at hq_ HO_8.out);have n1_:=Aside0.mk (Kd.R_at hq_ HO_9.out);have n2_:=Aside0.mk (below_at hq_ HB.out);clear hq_ HO_8 HO_9 HB;have HO_8:=n0_;have HO_9:=n1_;have HB:=n2_;clear n0_ n1_ n2_))
              have n0_:=Aside0.mk (Kd.R_drew HO_8.out)
              have n1_:=Aside0.mk (Kd.R_drew HO_9.out)
              have n2_:=Aside0.mk (below_drew1 HB.out)
              clear HO_8 HO_9 HB
              have HO_8:=n0_
              have HO_9:=n1_
              have HB:=n2_
              clear n0_ n1_ n2_
              have p246:0≤(x10_2:Int):=of_decide_eq_true (bD)
              have q246:x10_2 < (l0.length:Int):=of_decide_eq_true (bD)
              obtain⟨ad246,e246,hx246_0,hx246_1,hx246_2,hx246_3,hx246_4⟩:=at_T104 HR0.out x10_2 p246 q246
              have hw246_4:=hx246_4
              have hw246_3:=hx246_3
              have hw246_2:=hx246_2
              have hw246_1:=hx246_1
              have hw246_0:=hx246_0
              cases e246
              replace hx246_0:=(HB.out.cell (World.block_lt_of_cell? w _ hx246_0)).trans hx246_0
              replace hx246_1:=(HB.out.cell (World.block_lt_of_cell? w _ hx246_1)).trans hx246_1
              replace hx246_2:=(HB.out.cell (World.block_lt_of_cell? w _ hx246_2)).trans hx246_2
              replace hx246_3:=(HB.out.cell (World.block_lt_of_cell? w _ hx246_3)).trans hx246_3
              replace hx246_4:=(HB.out.cell (World.block_lt_of_cell? w _ hx246_4)).trans hx246_4
              replace p246:=eq_true p246
              replace q246:=eq_true q246
              have p247:0≤(x10_2:Int):=of_decide_eq_true (bD)
              have q247:x10_2 < (l0.length:Int):=of_decide_eq_true (bD)
              obtain⟨ad247,e247,hx247_0,hx247_1,hx247_2,hx247_3,hx247_4⟩:=at_T104 HR0.out x10_2 p247 q247
              have hw247_4:=hx247_4
              have hw247_3:=hx247_3
              have hw247_2:=hx247_2
              have hw247_1:=hx247_1
              have hw247_0:=hx247_0
              obtain rfl:ad246=ad247:=(by injection e247)
              replace hx247_0:=(HB.out.cell (World.block_lt_of_cell? w _ hx247_0)).trans hx247_0
              replace hx247_1:=(HB.out.cell (World.block_lt_of_cell? w _ hx247_1)).trans hx247_1
              replace hx247_2:=(HB.out.cell (World.block_lt_of_cell? w _ hx247_2)).trans hx247_2
              replace hx247_3:=(HB.out.cell (World.block_lt_of_cell? w _ hx247_3)).trans hx247_3
              replace hx247_4:=(HB.out.cell (World.block_lt_of_cell? w _ hx247_4)).trans hx247_4
              replace p247:=eq_true p247
              replace q247:=eq_true q247
              have p89:0≤(((rd_T104 l0 x10_2).f1):Int):=of_decide_eq_true (bD)
              have q89:(((rd_T104 l0 x10_2).f1):Int) < ((x8_1.length:Int):Int):=of_decide_eq_true (bD)
              obtain⟨hx89_0,hf89_0⟩:=Kd.R_celln 0 HO_8.out (((rd_T104 l0 x10_2).f1):Int) p89 q89
              replace p89:=eq_true p89
              replace q89:=eq_true q89
              have HP93:=Kd.R_putn HO_8.out (((rd_T104 l0 x10_2).f1):Int) x11_2
              rw[← Ny248.out] at HP93
              have HQ93:=Aside0.mk HP93
              clear HP93
              have p91:0≤(((rd_T104 l0 x10_2).f1):Int):=of_decide_eq_true (bD)
              have q91:(((rd_T104 l0 x10_2).f1):Int) < ((x9_1.length:Int):Int):=of_decide_eq_true (bD)
              obtain⟨go91,co91,eo91,gb91,gl91,cl91,HG91⟩:=Kd.R_form HO_9.out (by omega)
              (first|cases eo91|(injection eo91 with ea_ en_ ec_;(first|subst ea_|(injection ea_ with ea_;subst ea_));subst ec_;clear en_))
              have GB91:=Aside0.mk gb91
              have GG91:=Aside0.mk HG91
              clear gb91 gl91 HG91
              obtain⟨hx91_0,hf91_0⟩:=Kd.R_celln 0 (Kd.R_far (p:=⟨go8,(((rd_T104 l0 x10_2).f1):Int).toNat,none⟩) (Kd.R_mono HO_9.out (fun k_ hk=>(⟨hk,fun e_=>hk (by rw[e_];rfl)⟩:_∧k_≠go8))) (fun _ hk=>hk.2) (.int .i64 x11_2)) (((rd_T104 l0 x10_2).f1):Int) p91 q91
              replace p91:=eq_true p91
              replace q91:=eq_true q91
              have HP94:=Kd.R_putn (Kd.R_far (p:=⟨go8,(((rd_T104 l0 x10_2).f1):Int).toNat,none⟩) (Kd.R_mono HO_9.out (fun k_ hk=>(⟨hk,fun e_=>hk (by rw[e_];rfl)⟩:_∧k_≠go8))) (fun _ hk=>hk.2) (.int .i64 x11_2)) (((rd_T104 l0 x10_2).f1):Int) x10_2
              rw[← Ny249.out] at HP94
              have HQ94:=Aside0.mk HP94
              clear HP94
              refine start_ (n:=18) (S:=fun w'=>w'.cell? (ad246.add ((x10_2).toNat * 5))=some (.int .i64 ((rd_T104 l0 x10_2).f0))∧w'.cell? ⟨(ad246.add ((x10_2).toNat * 5)).block,(ad246.add ((x10_2).toNat * 5)).off+1,none⟩=some (.int .i64 ((rd_T104 l0 x10_2).f1))∧w'.cell? ⟨(ad246.add ((x10_2).toNat * 5)).block,(ad246.add ((x10_2).toNat * 5)).off+2,none⟩=some (.int .i64 ((rd_T104 l0 x10_2).f2))∧w'.cell? ⟨(ad246.add ((x10_2).toNat * 5)).block,(ad246.add ((x10_2).toNat * 5)).off+3,none⟩=some (.int .i64 ((rd_T104 l0 x10_2).f3))∧w'.cell? ⟨(ad246.add ((x10_2).toNat * 5)).block,(ad246.add ((x10_2).toNat * 5)).off+4,none⟩=some (.int .i64 ((rd_T104 l0 x10_2).f4))∧w'.cell? (ad246.add ((x10_2).toNat * 5))=some (.int .i64 ((rd_T104 l0 x10_2).f0))∧w'.cell? ⟨(ad246.add ((x10_2).toNat * 5)).block,(ad246.add ((x10_2).toNat * 5)).off+1,none⟩=some (.int .i64 ((rd_T104 l0 x10_2).f1))∧w'.cell? ⟨(ad246.add ((x10_2).toNat * 5)).block,(ad246.add ((x10_2).toNat * 5)).off+2,none⟩=some (.int .i64 ((rd_T104 l0 x10_2).f2))∧w'.cell? ⟨(ad246.add ((x10_2).toNat * 5)).block,(ad246.add ((x10_2).toNat * 5)).off+3,none⟩=some (.int .i64 ((rd_T104 l0 x10_2).f3))∧w'.cell? ⟨(ad246.add ((x10_2).toNat * 5)).block,(ad246.add ((x10_2).toNat * 5)).off+4,none⟩=some (.int .i64 ((rd_T104 l0 x10_2).f4))) (ds:=[15,17]) #[false,false,false,false,false,false,false,false,false,false,false,false,false,false,false,false,false,false] (by kernel_rfl) rfl rfl ⟨((HB.out.cell (World.block_lt_of_cell? w _ hw246_0)).trans hw246_0),((HB.out.cell (World.block_lt_of_cell? w _ hw246_1)).trans hw246_1),((HB.out.cell (World.block_lt_of_cell? w _ hw246_2)).trans hw246_2),((HB.out.cell (World.block_lt_of_cell? w _ hw246_3)).trans hw246_3),((HB.out.cell (World.block_lt_of_cell? w _ hw246_4)).trans hw246_4),((HB.out.cell (World.block_lt_of_cell? w _ hw247_0)).trans hw247_0),((HB.out.cell (World.block_lt_of_cell? w _ hw247_1)).trans hw247_1),((HB.out.cell (World.block_lt_of_cell? w _ hw247_2)).trans hw247_2),((HB.out.cell (World.block_lt_of_cell? w _ hw247_3)).trans hw247_3),((HB.out.cell (World.block_lt_of_cell? w _ hw247_4)).trans hw247_4)⟩ (fun hHeld => ?_);refine with_tabW impl_reach.tab14 impl_reach.bits14 (fun HT_ HW_ => ?_)
              generalize wr.drew=w92 at HO_8 HO_9 HB GG91 HQ93 HQ94 hf89_0 hf91_0 hx246_0 hx246_1 hx246_2 hx246_3 hx246_4 hx247_0 hx247_1 hx247_2 hx247_3 hx247_4 hx89_0 hx91_0 hHeld ⊢
              refine pure_ (i:=0) (N:=some 81) (v:=?_) (a':=?_) #[true,false,false,false,false,false,false,false,false,false,false,false,false,false,false,false,false,false] rfl rfl (any_of HT_.out (by kernel_rfl)) (fun _ _ _ h=>h) (Or.inl ⟨by rfl,?_⟩) ?_ ?_
              rotate_left
              ·intro w'
               go_simp
               with_reducible rfl
              rotate_left
              ·simp only[Act.put,List.setIfInBounds_toArray,List.set_cons_zero,List.set_cons_succ,i64_w,i32_w]
               rfl
              refine pure_ (i:=1) (N:=some 82) (v:=?_) (a':=?_) #[true,true,false,false,false,false,false,false,false,false,false,false,false,false,false,false,false,false] rfl rfl (any_of HT_.out (by kernel_rfl)) (fun _ _ _ h=>h) (Or.inl ⟨by rfl,?_⟩) ?_ ?_
              rotate_left
              ·intro w'
               go_simp
               with_reducible rfl
              rotate_left
              ·simp only[Act.put,List.setIfInBounds_toArray,List.set_cons_zero,List.set_cons_succ,i64_w,i32_w]
               rfl
              refine pure_ (i:=2) (N:=some 83) (v:=?_) (a':=?_) #[true,true,true,false,false,false,false,false,false,false,false,false,false,false,false,false,false,false] rfl rfl (any_of HT_.out (by kernel_rfl)) (fun _ _ _ h=>h) (Or.inl ⟨by rfl,?_⟩) ?_ ?_
              rotate_left
              ·intro w'
               go_simp
               with_reducible rfl
              rotate_left
              ·simp only[Act.put,List.setIfInBounds_toArray,List.set_cons_zero,List.set_cons_succ,i64_w,i32_w]
               rfl
              refine pure_ (i:=3) (N:=some 84) (v:=?_) (a':=?_) #[true,true,true,true,false,false,false,false,false,false,false,false,false,false,false,false,false,false] rfl rfl (any_of HT_.out (by kernel_rfl)) (fun _ _ _ h=>h) (Or.inl ⟨by rfl,?_⟩) ?_ ?_
              rotate_left
              ·intro w'
               go_simp
               with_reducible rfl
              rotate_left
              ·simp only[Act.put,List.setIfInBounds_toArray,List.set_cons_zero,List.set_cons_succ,i64_w,i32_w]
               rfl
              refine pure_ (i:=4) (N:=some 85) (v:=?_) (a':=?_) #[true,true,true,true,true,false,false,false,false,false,false,false,false,false,false,false,false,false] rfl rfl (any_of HT_.out (by kernel_rfl)) (fun _ _ _ h=>h) (Or.inl ⟨by rfl,?_⟩) ?_ ?_
              rotate_left
              ·intro w'
               go_simp
               with_reducible rfl
              rotate_left
              ·simp only[Act.put,List.setIfInBounds_toArray,List.set_cons_zero,List.set_cons_succ,i64_w,i32_w]
               rfl
              refine pure_ (i:=6) (N:=some 87) (v:=?_) (a':=?_) #[true,true,true,true,true,false,true,false,false,false,false,false,false,false,false,false,false,false] rfl rfl (any_of HT_.out (by kernel_rfl)) (fun _ _ _ h=>h) (Or.inl ⟨by rfl,?_⟩) ?_ ?_
              rotate_left
              ·intro w'
               go_simp
               with_reducible rfl
              rotate_left
              ·simp only[Act.put,List.setIfInBounds_toArray,List.set_cons_zero,List.set_cons_succ,i64_w,i32_w]
               rfl
              refine pure_ (i:=7) (N:=some 88) (v:=?_) (a':=?_) #[true,true,true,true,true,false,true,true,false,false,false,false,false,false,false,false,false,false] rfl rfl (any_of HT_.out (by kernel_rfl)) (fun _ _ _ h=>h) (Or.inl ⟨by rfl,?_⟩) ?_ ?_
              rotate_left
              ·intro w'
               go_simp
               with_reducible rfl
              rotate_left
              ·simp only[Act.put,List.setIfInBounds_toArray,List.set_cons_zero,List.set_cons_succ,i64_w,i32_w]
               rfl
              refine pure_ (i:=8) (N:=some 89) (v:=?_) (a':=?_) #[true,true,true,true,true,false,true,true,true,false,false,false,false,false,false,false,false,false] rfl rfl (any_of HT_.out (by kernel_rfl)) (fun _ _ _ h=>h) (Or.inl ⟨by rfl,?_⟩) ?_ ?_
              rotate_left
              ·intro w'
               go_simp
               with_reducible rfl
              rotate_left
              ·simp only[Act.put,List.setIfInBounds_toArray,List.set_cons_zero,List.set_cons_succ,i64_w,i32_w]
               rfl
              refine pure_ (i:=9) (N:=some 90) (v:=?_) (a':=?_) #[true,true,true,true,true,false,true,true,true,true,false,false,false,false,false,false,false,false] rfl rfl (any_of HT_.out (by kernel_rfl)) (fun _ _ _ h=>h) (Or.inl ⟨by rfl,?_⟩) ?_ ?_
              rotate_left
              ·intro w'
               go_simp
               with_reducible rfl
              rotate_left
              ·simp only[Act.put,List.setIfInBounds_toArray,List.set_cons_zero,List.set_cons_succ,i64_w,i32_w]
               rfl
              refine pure_ (i:=10) (N:=some 91) (v:=?_) (a':=?_) #[true,true,true,true,true,false,true,true,true,true,true,false,false,false,false,false,false,false] rfl rfl (any_of HT_.out (by kernel_rfl)) (fun _ _ _ h=>h) (Or.inl ⟨by rfl,?_⟩) ?_ ?_
              rotate_left
              ·intro w'
               go_simp
               with_reducible rfl
              rotate_left
              ·simp only[Act.put,List.setIfInBounds_toArray,List.set_cons_zero,List.set_cons_succ,i64_w,i32_w]
               rfl
              refine pure_ (i:=12) (N:=some 93) (v:=?_) (a':=?_) #[true,true,true,true,true,false,true,true,true,true,true,false,true,false,false,false,false,false] rfl rfl (any_of HT_.out (by kernel_rfl)) (fun _ _ _ h=>h) (Or.inl ⟨by rfl,?_⟩) ?_ ?_
              rotate_left
              ·intro w'
               go_simp
               with_reducible rfl
              rotate_left
              ·simp only[Act.put,List.setIfInBounds_toArray,List.set_cons_zero,List.set_cons_succ,i64_w,i32_w]
               rfl
              refine pure_ (i:=13) (N:=some 94) (v:=?_) (a':=?_) #[true,true,true,true,true,false,true,true,true,true,true,false,true,true,false,false,false,false] rfl rfl (any_of HT_.out (by kernel_rfl)) (fun _ _ _ h=>h) (Or.inl ⟨by rfl,?_⟩) ?_ ?_
              rotate_left
              ·intro w'
               go_simp
               with_reducible rfl
              rotate_left
              ·simp only[Act.put,List.setIfInBounds_toArray,List.set_cons_zero,List.set_cons_succ,i64_w,i32_w]
               rfl
              refine take_ (i:=5) (N:=some 86) (v:=?_) (a':=?_) #[true,true,true,true,true,true,true,true,true,true,true,false,true,true,false,false,false,false] rfl rfl (take_ofW HT_.out HW_.out (by kernel_rfl)) (fun _ _ _ h=>h) (Or.inl ⟨by rfl,?_⟩) hHeld ?_ ?_
              rotate_left
              ·rintro w' ⟨s0,s1,s2,s3,s4,s5,s6,s7,s8,s9⟩
               go_simp
               with_reducible rfl
              rotate_left
              ·simp only[Act.put,List.setIfInBounds_toArray,List.set_cons_zero,List.set_cons_succ,i64_w,i32_w]
               rfl
              refine take_ (i:=11) (N:=some 92) (v:=?_) (a':=?_) #[true,true,true,true,true,true,true,true,true,true,true,true,true,true,false,false,false,false] rfl rfl (take_ofW HT_.out HW_.out (by kernel_rfl)) (fun _ _ _ h=>h) (Or.inl ⟨by rfl,?_⟩) hHeld ?_ ?_
              rotate_left
              ·rintro w' ⟨s0,s1,s2,s3,s4,s5,s6,s7,s8,s9⟩
               go_simp
               with_reducible rfl
              rotate_left
              ·simp only[Act.put,List.setIfInBounds_toArray,List.set_cons_zero,List.set_cons_succ,i64_w,i32_w]
               rfl
              refine pure_ (i:=14) (N:=some 95) (v:=?_) (a':=?_) #[true,true,true,true,true,true,true,true,true,true,true,true,true,true,true,false,false,false] rfl rfl (any_of HT_.out (by kernel_rfl)) (fun _ _ _ h=>h) (Or.inl ⟨by rfl,?_⟩) ?_ ?_
              rotate_left
              ·intro w'
               go_simp
               with_reducible rfl
              rotate_left
              ·simp only[Act.put,List.setIfInBounds_toArray,List.set_cons_zero,List.set_cons_succ,i64_w,i32_w]
               rfl
              refine last_ (i:=15) (N:=none) #[true,true,true,true,true,true,true,true,true,true,true,true,true,true,true,true,false,false] rfl rfl (one_of HT_.out (by kernel_rfl)) (by decide) (fun K hK => ?_)
              refine skip_ (w1:=?_) (by rfl) rfl ?_ ?_
              rotate_left
              ·go_simp
               rfl
              refine hK.out _ _ ?_
              clear hK K
              refine pure_ (i:=16) (N:=some 96) (v:=?_) (a':=?_) #[true,true,true,true,true,true,true,true,true,true,true,true,true,true,true,true,true,false] rfl rfl (any_of HT_.out (by kernel_rfl)) (fun _ _ _ h=>h) (Or.inl ⟨by rfl,?_⟩) ?_ ?_
              rotate_left
              ·intro w'
               go_simp
               with_reducible rfl
              rotate_left
              ·simp only[Act.put,List.setIfInBounds_toArray,List.set_cons_zero,List.set_cons_succ,i64_w,i32_w]
               rfl
              refine last_ (i:=17) (N:=none) #[true,true,true,true,true,true,true,true,true,true,true,true,true,true,true,true,true,true] rfl rfl (one_of HT_.out (by kernel_rfl)) (by decide) (fun K hK => ?_)
              refine skip_ (w1:=?_) (by rfl) rfl ?_ ?_
              rotate_left
              ·go_simp
               rfl
              refine hK.out _ _ ?_
              clear hK K
              refine done_ (done_of HT_.out (by kernel_rfl)) ?_
              try go_wp2
              (try simp only[← hl8_1])
              go_roundg k2
              case measure=>have:=HK1.out;have:=HK2.out;omega
              case rel=>exact⟨(y248),(y249),H',⟨by have:=HK1.out;have:=HK2.out;omega⟩,⟨by(try simp only[hl8_1]);(with_reducible repeat (first|apply Kd.R_alloc|apply Kd.R_drewN|apply Kd.R_drew));exact Kd.R_mono (Kd.R_far (p:=⟨go91,(((rd_T104 l0 x10_2).f1):Int).toNat,none⟩) (Kd.R_mono HQ93.out (fun k_ hk=>(⟨hk,fun e_=>hk (by rw[e_];rfl)⟩:_∧k_≠go91))) (fun _ hk=>hk.2) (.int .i64 x10_2)) (fun _ hk=>hk.1)⟩,⟨by(try simp only[hl8_1]);(with_reducible repeat (first|apply Kd.R_alloc|apply Kd.R_drewN|apply Kd.R_drew));exact Kd.R_mono HQ94.out (fun _ hk=>hk.1)⟩,⟨bS2 GB8.out GB91.out⟩⟩
             ·rw[if_neg c90] at H
              exact absurd H (by simp)
            ·rw[if_neg c88] at H
             exact absurd H (by simp)
           ·rw[if_neg c87] at H
            exact absurd H (by simp)
          ·rw[if_neg c86] at H
           exact absurd H (by simp)
         ·rw[if_neg c85] at H
          exact absurd H (by simp)
  ·rw[if_neg c7] at H
   exact absurd H (by simp)
 ·rw[if_neg c6] at H
  exact absurd H (by simp)

end Go.Proofs.Yteneeohaoplpbaa.XFnExactReachAll
