-- Written by this session's own program (wip/xprint.py) out of the translation; Lean checks it.
import Derived.Test.YthghcoepkknkeaaXFnFairx0
import Derived.Test.YthghcoepkknkeaaXFnFairx8
import Derived.Test.YthghcoepkknkeaaXFnFairx9
namespace Go.Proofs.Ythghcoepkknkeaa.XFnFair
open Go.RowKit Go.Proofs.YthghcoepkknkeaaW.PrintWords Go.Proofs.YthghcoepkknkeaaW.PrintLast Go.Proofs.YthghcoepkknkeaaW.PrintMore
open Go.Proofs.YthghcoepkknkeaaW.PrintWords.Aside0 renaming mk → am
attribute [local go_sem] max2_int min2_int max_two min_two max_three min_three max_four min_four   -- for this text's walks alone
set_option linter.unusedVariables false
set_option linter.unusedSimpArgs false

/-! ### impl_NextRound: function 6 -/
mutual
def impl_NextRound.l0:Nat→List Int→Int→Int→Int→List (S34)→Int→Option (Int × (List (S34)) × Int × List Int × Bool)
 | 0,_,_,_,_,_,_=>none
 | k+1,x6,x18,x19,x333000,x333001,x333002=>if x19 < x18 then (if 0≤x19 then (if x19 < (x333001.length:Int) then (if (((rd_T34 x333001 x19).f0).length:Int)=0 then (impl_NextRound.l0 k x6 x18 (wrap64 (x19+1)) x333000 x333001 x333002) else (impl_NextRound.l1 k x6 x19 x18 x19 x333000 (x333001.set (x19:Int).toNat (⟨(rd_T34 x333001 x19).f0,wrap64 (((rd_T34 x333001 x19).f1)+x333000),(rd_T34 x333001 x19).f2⟩:S34)) x333002)) else (none)) else (none)) else ((impl_GoodTurns.f k x333000 x333001 (wrap64 (x333002+1))).bind fun t362=>(if t362=true then ((impl_Turns_copied.f x333000 x333001 (wrap64 (x333002+1))).bind fun bt363=>(some (bt363.1,bt363.2.1,bt363.2.2,x6,true))) else (some (0,([]:List (S34)),0,([]:List Int),false))))
def impl_NextRound.l1:Nat→List Int→Int→Int→Int→Int→List (S34)→Int→Option (Int × (List (S34)) × Int × List Int × Bool)
 | 0,_,_,_,_,_,_,_=>none
 | k+1,x6,x7,x18,x19,x333000,x333001,x333002=>if 0≤x19 then (if x19 < (x333001.length:Int) then (if (((rd_T34 x333001 x19).f0).length:Int) > 0 then (if 0 < (((rd_T34 x333001 x19).f0).length:Int) then (if (rd ((rd_T34 x333001 x19).f0) 0)≤((rd_T34 x333001 x19).f1) then ((some (x333001.set (x19:Int).toNat (⟨(rd_T34 x333001 x19).f0,wrap64 (((rd_T34 x333001 x19).f1) - (rd ((rd_T34 x333001 x19).f0) 0)),(rd_T34 x333001 x19).f2⟩:S34):List (S34))).bind fun y343=>(if 0 < (((rd_T34 y343 x19).f0).length:Int) then ((some (y343.set (x19:Int).toNat (⟨(rd_T34 y343 x19).f0,(rd_T34 y343 x19).f1,wrap64 (((rd_T34 y343 x19).f2)+(rd ((rd_T34 y343 x19).f0) 0))⟩:S34):List (S34))).bind fun y347=>(if 1≤(((rd_T34 y347 x19).f0).length:Int) then (if x6.length < 17592186044416 then (impl_NextRound.l1 k (x6++[x7]) x7 x18 x19 x333000 (y347.set (x19:Int).toNat (⟨(((rd_T34 y347 x19).f0).drop 1),(rd_T34 y347 x19).f1,(rd_T34 y347 x19).f2⟩:S34)) x333002) else (none)) else (none))) else (none))) else (if (((rd_T34 x333001 x19).f0).length:Int)=0 then (impl_NextRound.l0 k x6 x18 (wrap64 (x19+1)) x333000 (x333001.set (x19:Int).toNat (⟨(rd_T34 x333001 x19).f0,0,(rd_T34 x333001 x19).f2⟩:S34)) x333002) else (impl_NextRound.l0 k x6 x18 (wrap64 (x19+1)) x333000 x333001 x333002))) else (none)) else (if (((rd_T34 x333001 x19).f0).length:Int)=0 then (impl_NextRound.l0 k x6 x18 (wrap64 (x19+1)) x333000 (x333001.set (x19:Int).toNat (⟨(rd_T34 x333001 x19).f0,0,(rd_T34 x333001 x19).f2⟩:S34)) x333002) else (impl_NextRound.l0 k x6 x18 (wrap64 (x19+1)) x333000 x333001 x333002))) else (none)) else (none)
end
def impl_NextRound.f (k:Nat) (a0_0:Int) (l0_1:List (S34)) (a0_2:Int):Option (Int × (List (S34)) × Int × List Int × Bool):=(impl_GoodTurns.f k a0_0 l0_1 a0_2).bind fun t323=>(if t323=true then ((impl_Turns_copied.f a0_0 l0_1 a0_2).bind fun bt324=>(impl_NextRound.l0 k (([]:List Int)) (bt324.2.1.length:Int) 0 bt324.1 bt324.2.1 bt324.2.2)) else (some (0,([]:List (S34)),0,([]:List Int),false)))
theorem impl_NextRound.mono_l : ∀ k,(∀ y0 y1 y2 y3 y4 y5,LeO (impl_NextRound.l0 k y0 y1 y2 y3 y4 y5) (impl_NextRound.l0 (k+1) y0 y1 y2 y3 y4 y5))∧(∀ y0 y1 y2 y3 y4 y5 y6,LeO (impl_NextRound.l1 k y0 y1 y2 y3 y4 y5 y6) (impl_NextRound.l1 (k+1) y0 y1 y2 y3 y4 y5 y6))
 | 0=>⟨fun _ _ _ _ _ _ r h=>by simp[impl_NextRound.l0] at h,fun _ _ _ _ _ _ _ r h=>by simp[impl_NextRound.l1] at h⟩
 | k+1=>by
  obtain⟨ih0,ih1⟩:=impl_NextRound.mono_l k
  refine⟨?_,?_⟩
  ·intro y0 y1 y2 y3 y4 y5
   unfold impl_NextRound.l0
   repeat' first
   | (with_reducible exact ih0 _ _ _ _ _ _)
   | (with_reducible exact ih1 _ _ _ _ _ _ _)
   | (with_reducible exact impl_GoodTurns.mono _ _ _ _)
   | (with_reducible exact LeO.refl _)
   | (with_reducible exact LeO.none _)
   | (with_reducible refine LeO.ite ?_ ?_)
   | (with_reducible refine LeO.bind ?_ (fun _ => ?_))
  ·intro y0 y1 y2 y3 y4 y5 y6
   unfold impl_NextRound.l1
   repeat' first
   | (with_reducible exact ih0 _ _ _ _ _ _)
   | (with_reducible exact ih1 _ _ _ _ _ _ _)
   | (with_reducible exact impl_GoodTurns.mono _ _ _ _)
   | (with_reducible exact LeO.refl _)
   | (with_reducible exact LeO.none _)
   | (with_reducible refine LeO.ite ?_ ?_)
   | (with_reducible refine LeO.bind ?_ (fun _ => ?_))
theorem impl_NextRound.mono : ∀ a0 a1 a2 k,LeO (impl_NextRound.f k a0 a1 a2) (impl_NextRound.f (k+1) a0 a1 a2):=by
 intro a0 a1 a2 k
 obtain⟨ih0,ih1⟩:=impl_NextRound.mono_l k
 unfold impl_NextRound.f
 repeat' first
  | (with_reducible exact ih0 _ _ _ _ _ _)
  | (with_reducible exact ih1 _ _ _ _ _ _ _)
  | (with_reducible exact impl_GoodTurns.mono _ _ _ _)
  | (with_reducible exact LeO.refl _)
  | (with_reducible exact LeO.none _)
  | (with_reducible refine LeO.ite ?_ ?_)
  | (with_reducible refine LeO.bind ?_ (fun _ => ?_))
def impl_NextRound.T9:Bool × List (List Nat × List Nat):=(true,[([],[]),([0],[0]),([1],[1]),([2],[2]),([],[]),([4],[4]),([3,5],[3,5]),([0,0,1,2,3,4,5,6],[0]),([7,0,1,2,3,4,5,6],[7]),([8,6,0,1,2,3,4,5,6],[6,8])])
def impl_NextRound.B9:List Nat:=[0,1,3,7,0,16,63,127,255,511]
theorem impl_NextRound.tab9:rtab .any (opsOf Try.f6 9)=impl_NextRound.T9:=by kernel_rfl
theorem impl_NextRound.bits9:waitsOk impl_NextRound.T9.2 impl_NextRound.B9=true:=by kernel_rfl
def impl_NextRound.T10:Bool × List (List Nat × List Nat):=(true,[([],[]),([0],[0]),([1],[1]),([2],[2]),([3],[3]),([4],[4]),([5],[5]),([6],[6]),([7,6],[6,7]),([8,6],[6,8]),([9,6],[6,9]),([10,6],[6,10]),([11,6],[6,11]),([6],[6]),([13,6],[6,13]),([14,6],[6,14]),([15,6],[6,15]),([12,16,6],[6,12,16]),([6,17],[6,17])])
def impl_NextRound.B10:List Nat:=[0,1,3,7,15,31,63,127,255,511,1023,2047,4095,127,8319,24703,57471,131071,262143]
theorem impl_NextRound.tab10:rtab .any (opsOf Try.f6 10)=impl_NextRound.T10:=by kernel_rfl
theorem impl_NextRound.bits10:waitsOk impl_NextRound.T10.2 impl_NextRound.B10=true:=by kernel_rfl
def impl_NextRound.T11:Bool × List (List Nat × List Nat):=(true,[([],[]),([0],[0]),([1],[1]),([2],[2]),([],[]),([4],[4]),([5],[5]),([6],[6]),([7],[7]),([8],[8]),([3,9],[3,9]),([0,0,1,2,3,4,5,6,7,8,9,10],[0]),([11,0,1,2,3,4,5,6,7,8,9,10],[11]),([12,10,0,1,2,3,4,5,6,7,8,9,10],[10,12])])
def impl_NextRound.B11:List Nat:=[0,1,3,7,0,16,48,112,240,496,1023,2047,4095,8191]
theorem impl_NextRound.tab11:rtab .any (opsOf Try.f6 11)=impl_NextRound.T11:=by kernel_rfl
theorem impl_NextRound.bits11:waitsOk impl_NextRound.T11.2 impl_NextRound.B11=true:=by kernel_rfl
def impl_NextRound.T12:Bool × List (List Nat × List Nat):=(true,[([],[]),([0],[0]),([1],[1]),([2],[2]),([],[]),([4],[4]),([5],[5]),([6],[6]),([7],[7]),([8],[8]),([3,9],[3,9]),([0,0,1,2,3,4,5,6,7,8,9,10],[0]),([11,0,1,2,3,4,5,6,7,8,9,10],[11]),([12,10,0,1,2,3,4,5,6,7,8,9,10],[10,12])])
def impl_NextRound.B12:List Nat:=[0,1,3,7,0,16,48,112,240,496,1023,2047,4095,8191]
theorem impl_NextRound.tab12:rtab .any (opsOf Try.f6 12)=impl_NextRound.T12:=by kernel_rfl
theorem impl_NextRound.bits12:waitsOk impl_NextRound.T12.2 impl_NextRound.B12=true:=by kernel_rfl
set_option maxHeartbeats 8000000 in
set_option maxRecDepth 100000 in
theorem impl_NextRound.calls (k:Nat) (a0_0:Int) (A0_1:Option Addr) (c0_1:Nat) (l0_1:List (S34)) (a0_2:Int) (r1:Int) (r2:List (S34)) (r3:Int) (r4:List Int) (r5:Bool) (w:World) (hr0_1:Kd.C k34 w A0_1 l0_1.length l0_1) (hc0_1:l0_1.length≤c0_1) (h:impl_NextRound.f k a0_0 l0_1 a0_2=some (r1,r2,r3,r4,r5)) :
  Calls Try.prog 6 #[.agg #[.int .i64 a0_0,.slice A0_1 l0_1.length c0_1,.int .i64 a0_2]] w fun e w' => ∃ v1_ v3_:Value,e=.returned (.tuple #[.agg #[.int .i64 r1,v1_,.int .i64 r3],v3_,.bool r5])∧Kd.S k34 34 w' w.heap.size (fun k_=>some k_≠(v3_:Value).ownBlock) v1_ r2∧Kd.R (Kd.int .i64) 3 w' w.heap.size (fun _=>True) v3_ r4∧Below w.heap.size w w':=by
 have hu25:=Try.underlying25
 have HR0_1:=am hr0_1
 have HC0_1:=am hc0_1
 clear hr0_1 hc0_1
 have HB:=am (Below.refl w.heap.size w)
 have H:((impl_GoodTurns.f k a0_0 l0_1 a0_2).bind fun t323=>(if t323=true then ((impl_Turns_copied.f a0_0 l0_1 a0_2).bind fun bt324=>(impl_NextRound.l0 k (([]:List Int)) (bt324.2.1.length:Int) 0 bt324.1 bt324.2.1 bt324.2.2)) else (some (0,([]:List (S34)),0,([]:List Int),false))))=some (r1,r2,r3,r4,r5):=h
 clear h
 replace H:=bI_ H
 obtain⟨t323,A20,H⟩:=H
 replace H:(if t323=true then ((impl_Turns_copied.f a0_0 l0_1 a0_2).bind fun bt324=>(impl_NextRound.l0 k (([]:List Int)) (bt324.2.1.length:Int) 0 bt324.1 bt324.2.1 bt324.2.2)) else (some (0,([]:List (S34)),0,([]:List Int),false)))=some (r1,r2,r3,r4,r5):=H
 have A2:=am A20
 clear A20
 by_cases c3:t323=true
 ·subst c3
  have H1:((impl_Turns_copied.f a0_0 l0_1 a0_2).bind fun bt324=>(impl_NextRound.l0 k (([]:List Int)) (bt324.2.1.length:Int) 0 bt324.1 bt324.2.1 bt324.2.2))=some (r1,r2,r3,r4,r5):=by rw[if_pos rfl] at H;exact H
  clear H
  have H:=H1
  clear H1
  replace H:=bI_ H
  obtain⟨⟨t324,t325,t328⟩,A40,H⟩:=H
  replace H:(impl_NextRound.l0 k (([]:List Int)) (t325.length:Int) 0 t324 t325 t328)=some (r1,r2,r3,r4,r5):=H
  have A4:=am A40
  clear A40
  obtain⟨y329,hy329⟩ : ∃ y_:List Int,y_=(([]:List Int)):=⟨_,rfl⟩
  replace H:(impl_NextRound.l0 k y329 (t325.length:Int) 0 t324 t325 t328)=some (r1,r2,r3,r4,r5):=by first|(rw[hy329];with_reducible exact H)|(have H2_:=(Option.bind_some _ _).symm.trans H;rw[hy329];with_reducible exact H2_)|(have H2_:=(Option.bind_some _ _).symm.trans H;with_reducible exact H2_)|with_reducible exact H|(rw[hy329];exact H)|exact H
  have Ny329:=am hy329
  clear hy329
  have H':=am H
  clear H
  go_enter Try.func6,Try.ntmps6
  go_wp2_with (first|((with_reducible refine gate_dst (N:=1) rfl ?_);refine box_event ?hg (N:=1) ?hd (cs:=#[.int .i64 a0_0,.slice A0_1 l0_1.length c0_1,.int .i64 a0_2]) (t:=25) ?hr ?_;(case hd=>rfl);(case hg=>rfl);(case hr=>first|(go_simp;done)|(go_simp;rfl));intro gb321 hg w5 hbox hb;have n0_:=am (below_step (bB) hb);have n1_:=am (hbox);have n2_:=am ((bG:w.heap.size≤gb321));have n3_:=am ((bG:w.heap.size≤gb321));clear HB;have HB:=n0_;have BK321:=n1_;have GW321:=n2_;have GE321:=n3_;clear n0_ n1_ n2_ n3_;clear hb hbox hg)|((with_reducible refine gate_dst (N:=2) rfl ?_);refine box_event ?hg (N:=2) ?hd (cs:=#[.int .i64 0,.slice none 0 0,.int .i64 0]) (t:=25) ?hr ?_;(case hd=>rfl);(case hg=>rfl);(case hr=>first|(go_simp;done)|(go_simp;rfl));intro gb322 hg w6 hbox hb;have n0_:=am (bM BK321.out hb);have n1_:=am (below_step (bS GE321.out) hb);have n2_:=am (hbox);have n3_:=am ((by rw[hg];exact(below_size (bS GE321.out)):w.heap.size≤gb322));have n4_:=am ((by rw[hg];exact(below_size (bS GE321.out)):w.heap.size≤gb322));have n5_:=am ((bN BK321.out hg:gb321≠gb322));have n6_:=am ((bO BK321.out hg:gb322≠gb321));clear BK321 HB;have BK321:=n0_;have HB:=n1_;have BK322:=n2_;have GW322:=n3_;have GE322:=n4_;have NB321_322:=n5_;have NB322_321:=n6_;clear n0_ n1_ n2_ n3_ n4_ n5_ n6_;clear hb hbox hg;have hnb7:=NB321_322.out;have hnc7:=NB322_321.out;obtain⟨hcz8_0,hcz8_1,hcz8_2⟩:=cC3 BK321.out;obtain⟨hfz8_0,hfz8_1,hfz8_2⟩:=cF3 BK321.out)|((with_reducible refine gate_callee (f:=10) rfl ?_);refine goesA (some 10) rfl rfl Try.func10 #[.agg #[.int .i64 a0_0,.slice A0_1 l0_1.length c0_1,.int .i64 a0_2]] rfl ?_;(with_reducible refine(impl_GoodTurns.calls k a0_0 _ _ l0_1 a0_2 true _ ?side1 ?side2 A2.out).mono ?_);(case side1=>exact bC HR0_1.out);(case side2=>exact HC0_1.out);rintro e w9 ⟨rfl,hb⟩;refine⟨_,rfl,?_⟩;have n0_:=am (bM BK321.out hb);have n1_:=am (bM BK322.out hb);have n2_:=am (below_step (bS2 GE321.out GE322.out) hb);clear BK321 BK322 HB;have BK321:=n0_;have BK322:=n1_;have HB:=n2_;clear n0_ n1_ n2_;(try clear hb);(try clear hb2);(try clear hk);(try clear hi);obtain⟨hcz10_0,hcz10_1,hcz10_2⟩:=cC3 BK321.out;obtain⟨hfz10_0,hfz10_1,hfz10_2⟩:=cF3 BK321.out)|((with_reducible refine gate_callee (f:=20) rfl ?_);refine goesA (some 14) rfl rfl Try.func20 #[.agg #[.int .i64 a0_0,.slice A0_1 l0_1.length c0_1,.int .i64 a0_2]] rfl ?_;(with_reducible refine(impl_Turns_copied.calls a0_0 _ _ l0_1 a0_2 t324 t325 t328 _ ?side1 ?side2 A4.out).mono ?_);(case side1=>exact bC HR0_1.out);(case side2=>exact HC0_1.out);rintro e w11 ⟨v326,rfl,ho0,hb⟩;refine⟨_,rfl,?_⟩;have n0_:=am (Kd.N_lower (Kd.N_mono (ok':=fun k_=>(w.heap.size≤k_)∧k_≠gb321∧k_≠gb322) (Kd.S_N (Kd.S_bound ho0)) (fun k_ hk_=>⟨(Nat.le_trans (below_size (bS2 GE321.out GE322.out)) hk_.2.1),(Kd.freshB (g:=gb321) (o:=.cells #[.int .i64 a0_0,.slice A0_1 l0_1.length c0_1,.int .i64 a0_2] 25 (0,0)) (bL BK321.out) k_ hk_.2.1),(Kd.freshB (g:=gb322) (o:=.cells #[.int .i64 0,.slice none 0 0,.int .i64 0] 25 (0,0)) (bL BK322.out) k_ hk_.2.1)⟩)) (below_size (bS2 GE321.out GE322.out)));have n1_:=am (bM BK321.out hb);have n2_:=am (bM BK322.out hb);have n3_:=am (below_step (bS2 GE321.out GE322.out) hb);clear BK321 BK322 HB;have HO327:=n0_;have BK321:=n1_;have BK322:=n2_;have HB:=n3_;clear n0_ n1_ n2_ n3_;(try clear hb);(try clear hb2);(try clear hk);(try clear hi);(try clear ho0))|((with_reducible refine gate_dst (N:=15) rfl ?_);refine Kd.R_lit (Kd.int .i64) _ 3 ?hg (N:=15) ?hd (xs:=([]:List Int)) (inner:=[]) (ok:=fun _=>True) (okp:=fun _=>True) ?hr ?hp (fun _ hk=>hk) trivial (Below.refl _ _) (Nat.le_refl _) (by simp) ?_;(case hd=>rfl);(case hg=>rfl);(case hr=>first|(go_simp;done)|(go_simp;rfl));(case hp=>exact(Reps.none _ _));intro v330 w12 ho13 hb hg_ hnew_;clear hg_ hnew_;(first|rw[← Ny329.out] at ho13|(simp only[Int.reduceToNat] at ho13;rw[← Ny329.out] at ho13));have n0_:=am (Kd.N_elder' (by(with_reducible repeat (first|apply Kd.N_alloc|apply Kd.N_drewN|apply Kd.N_drew));exact HO327.out) (Kd.R_base ho13) hb);have n1_:=am (Kd.R_lower (Kd.R_newM (M:=fun k_=>(w.heap.size≤k_)) ho13 (below_size (bS2 GE321.out GE322.out)) (fun k_ h_=>h_)) (below_size (bS2 GE321.out GE322.out)));have n2_:=am (bM BK321.out hb);have n3_:=am (bM BK322.out hb);have n4_:=am (below_step (bS2 GE321.out GE322.out) hb);clear HO327 BK321 BK322 HB;have HO327:=n0_;have HO331:=n1_;have BK321:=n2_;have BK322:=n3_;have HB:=n4_;clear n0_ n1_ n2_ n3_ n4_;clear hb ho13)|((with_reducible refine gate_dst (N:=5) rfl ?_);refine box_event ?hg (N:=5) ?hd (cs:=#[.int .i64 0,.slice none 0 0,.int .i64 0]) (t:=25) ?hr ?_;(case hd=>rfl);(case hg=>rfl);(case hr=>first|(go_simp;done)|(go_simp;rfl));intro gb332 hg w14 hbox hb;have n0_:=am (Kd.N_below (Kd.N_elderB (by(with_reducible repeat (first|apply Kd.N_alloc|apply Kd.N_drewN|apply Kd.N_drew));exact HO327.out) gb332 (Nat.le_of_eq hg.symm)) hb);have n1_:=am (Kd.R_below (bK HO331.out) hb);have n2_:=am (bM BK321.out hb);have n3_:=am (bM BK322.out hb);have n4_:=am (below_step (bS2 GE321.out GE322.out) hb);have n5_:=am (hbox);have n6_:=am ((by rw[hg];exact(below_size (bS2 GE321.out GE322.out)):w.heap.size≤gb332));have n7_:=am ((by rw[hg];exact(below_size (bS2 GE321.out GE322.out)):w.heap.size≤gb332));have n8_:=am ((bN BK321.out hg:gb321≠gb332));have n9_:=am ((bO BK321.out hg:gb332≠gb321));have n10_:=am ((bN BK322.out hg:gb322≠gb332));have n11_:=am ((bO BK322.out hg:gb332≠gb322));clear HO327 HO331 BK321 BK322 HB;have HO327:=n0_;have HO331:=n1_;have BK321:=n2_;have BK322:=n3_;have HB:=n4_;have BK332:=n5_;have GW332:=n6_;have GE332:=n7_;have NB321_332:=n8_;have NB332_321:=n9_;have NB322_332:=n10_;have NB332_322:=n11_;clear n0_ n1_ n2_ n3_ n4_ n5_ n6_ n7_ n8_ n9_ n10_ n11_;clear hb hbox hg;have hnb15:=NB332_321.out;have hnc15:=NB321_332.out;have hnb16:=NB332_322.out;have hnc16:=NB322_332.out;obtain⟨hcz17_0,hcz17_1,hcz17_2⟩:=cC3 BK332.out;obtain⟨hfz17_0,hfz17_1,hfz17_2⟩:=cF3 BK332.out;obtain⟨Ao18,co18,eo18⟩:=Kd.N_slice HO327.out;subst eo18))
  go_loopg [6,19] k (fun kq v6 v19 w' => ∃ (x6_1:List Int) (x19_1:Int) (x333001_1:List (S34)),v19=.int .i64 x19_1∧Aside0 (impl_NextRound.l0 kq x6_1 (t325.length:Int) x19_1 t324 x333001_1 t328=some (r1,r2,r3,r4,r5))∧Aside0 (kq≤k)∧Aside0 (Kd.R (Kd.int .i64) 3 w' w.heap.size (fun k_=>(w.heap.size≤k_)) v6 x6_1)∧Aside0 (Kd.N k34 34 w' w.heap.size (fun k_=>(w.heap.size≤k_)∧some k_≠(v6:Value).ownBlock∧k_≠gb321∧k_≠gb322∧k_≠gb332) (.slice Ao18 t325.length co18) x333001_1)∧Aside0 (w'.heap[gb321]?=some (.cells #[.int .i64 a0_0,(.slice A0_1 l0_1.length c0_1),.int .i64 a0_2] 25 (0,0)))∧Aside0 (w'.heap[gb322]?=some (.cells #[.int .i64 0,(.slice none 0 0),.int .i64 0] 25 (0,0)))∧Aside0 (w'.heap[gb332]?=some (.cells #[.int .i64 t324,(.slice Ao18 t325.length co18),.int .i64 t328] 25 (0,0)))∧Aside0 (Below w.heap.size w w'))
  case atStart=>exact⟨(y329),(0),(t325),(bR),H',⟨Nat.le_refl _⟩,⟨by(with_reducible repeat (first|apply Kd.R_alloc|apply Kd.R_drewN|apply Kd.R_drew));exact Kd.R_mono (Kd.R_far (p:=⟨gb332,2,none⟩) (Kd.R_far (p:=⟨gb332,1,none⟩) (Kd.R_far (p:=⟨gb332,0,none⟩) (Kd.R_types HO331.out BK332.out (by decide)) (fun _ hk=>hk.2) (.int .i64 t324)) (fun _ hk=>hk.2) (.slice Ao18 t325.length co18)) (fun _ hk=>hk.2) (.int .i64 t328)) (fun _ hk=>hk.1.1)⟩,⟨by(with_reducible repeat (first|apply Kd.N_alloc|apply Kd.N_drewN|apply Kd.N_drew));exact Kd.N_mono (Kd.N_far (p:=⟨gb332,2,none⟩) (Kd.N_far (p:=⟨gb332,1,none⟩) (Kd.N_far (p:=⟨gb332,0,none⟩) (Kd.N_mono HO327.out (fun k_ hk=>(⟨hk,hk.2⟩:_∧k_≠gb332))) (fun _ hk=>hk.2) (.int .i64 t324)) (fun _ hk=>hk.2) (.slice Ao18 t325.length co18)) (fun _ hk=>hk.2) (.int .i64 t328)) (fun _ hk=>⟨hk.1.1.1.1,⟨hk.1.1.2,⟨hk.1.1.1.2.1,⟨hk.1.1.1.2.2,hk.1.2⟩⟩⟩⟩)⟩,⟨by(with_reducible repeat (first|refine blk_drewN ?_ _|refine blk_drew ?_|refine blk_alloc ?_ _));refine blk_far ?_ NB321_332.out _;(with_reducible repeat (first|refine blk_drewN ?_ _|refine blk_drew ?_|refine blk_alloc ?_ _));refine blk_far ?_ NB321_332.out _;(with_reducible repeat (first|refine blk_drewN ?_ _|refine blk_drew ?_|refine blk_alloc ?_ _));refine blk_far ?_ NB321_332.out _;(with_reducible repeat (first|refine blk_drewN ?_ _|refine blk_drew ?_|refine blk_alloc ?_ _));exact BK321.out⟩,⟨by(with_reducible repeat (first|refine blk_drewN ?_ _|refine blk_drew ?_|refine blk_alloc ?_ _));refine blk_far ?_ NB322_332.out _;(with_reducible repeat (first|refine blk_drewN ?_ _|refine blk_drew ?_|refine blk_alloc ?_ _));refine blk_far ?_ NB322_332.out _;(with_reducible repeat (first|refine blk_drewN ?_ _|refine blk_drew ?_|refine blk_alloc ?_ _));refine blk_far ?_ NB322_332.out _;(with_reducible repeat (first|refine blk_drewN ?_ _|refine blk_drew ?_|refine blk_alloc ?_ _));exact BK322.out⟩,⟨by(with_reducible repeat (first|refine blk_drewN ?_ _|refine blk_drew ?_|refine blk_alloc ?_ _));apply bU3;(with_reducible repeat (first|refine blk_drewN ?_ _|refine blk_drew ?_|refine blk_alloc ?_ _));exact BK332.out⟩,⟨bS3 GE321.out GE322.out GE332.out⟩⟩
  case round =>
   clear H'
   try clear c1
   try clear c2
   try clear p2
   try clear c3
   try clear c6
   try clear c7
   try clear c10
   try clear c15
   try clear c16
   try clear hcz10_0 hcz10_1 hcz10_2
   try clear hcz17_0 hcz17_1 hcz17_2
   try clear hcz8_0 hcz8_1 hcz8_2
   try clear hfz10_0 hfz10_1 hfz10_2
   try clear hfz17_0 hfz17_1 hfz17_2
   try clear hfz8_0 hfz8_1 hfz8_2
   obtain⟨x6_1,x19_1,x333001_1,rfl,HA,HK1,HO_6,HO_333001,BK321,BK322,BK332,HB⟩:=hrel
   have hl333001_1:=(Kd.N_reads' HO_333001.out).1
   rw[hl333001_1] at HO_333001
   (try simp only[hl333001_1])
   (try simp only[hl333001_1] at BK321)
   (try simp only[hl333001_1] at BK322)
   (try simp only[hl333001_1] at BK332)
   (try simp only[hl333001_1] at HO_6)
   cases gk with
   | zero=>exact absurd HA.out (by simp[impl_NextRound.l0])
   | succ k1 =>
    have H:=HA.out
    clear HA
    simp only[impl_NextRound.l0] at H
    by_cases c19:x19_1 < (t325.length:Int)
    ·rw[if_pos c19] at H
     have c19b0:decide (x19_1 < (t325.length:Int))=true:=decide_eq_true c19
     have c19z_:=c19b0
     (try simp only[hl333001_1] at c19z_)
     clear c19
     by_cases c20:0≤x19_1
     ·rw[if_pos c20] at H
      have c20b0:decide (0≤x19_1)=true:=decide_eq_true c20
      clear c20
      by_cases c21:x19_1 < (x333001_1.length:Int)
      ·rw[if_pos c21] at H
       have c21b0:decide (x19_1 < (x333001_1.length:Int))=true:=decide_eq_true c21
       clear c21
       by_cases c23:(((rd_T34 x333001_1 x19_1).f0).length:Int)=0
       ·rw[if_pos c23] at H
        have c23b0:((((rd_T34 x333001_1 x19_1).f0).length:Int) == 0)=true:=beq_iff_eq.mpr c23
        have c23b1:((((rd_T34 x333001_1 x19_1).f0).length:Int) != 0)=false:=bne_eq_false_iff_eq.mpr c23
        clear c23
        have H':=am H
        clear H
        have hnb24:=NB332_321.out
        have hnc24:=NB321_332.out
        have hnb25:=NB332_322.out
        have hnc25:=NB322_332.out
        obtain⟨hcz26_0,hcz26_1,hcz26_2⟩:=cC3 BK332.out
        obtain⟨hfz26_0,hfz26_1,hfz26_2⟩:=cF3 BK332.out
        have p22:0≤(x19_1:Int):=bD_
        have q22:(x19_1:Int) < ((x333001_1.length:Int):Int):=bD_
        obtain⟨go22,co22,eo22,gb22,gl22,cl22,HG22⟩:=Kd.N_form HO_333001.out (by omega)
        (first|cases eo22|(injection eo22 with ea_ en_ ec_;(first|subst ea_|(injection ea_ with ea_;subst ea_));subst ec_;clear en_))
        have GB22:=am gb22
        have GG22:=am HG22
        clear gb22 gl22 HG22
        obtain⟨ce22,hcl22,hM22,hcc22,hfr22⟩:=Kd.N_elem HO_333001.out z34 (x19_1:Int) p22 q22
        obtain⟨ua22_0,uc22_0,rfl,ul22_0,ge22_0⟩:=k34_openF hM22
        have hx22_0:wr.cell? ⟨go22,(x19_1:Int).toNat * 3,none⟩=some (.slice ua22_0 ((rd_T34 x333001_1 x19_1).f0).length uc22_0):=hcc22 0 _ rfl
        have hx22_1:wr.cell? ⟨go22,(x19_1:Int).toNat * 3+1,none⟩=some (.int .i64 ((rd_T34 x333001_1 x19_1).f1)):=hcc22 1 _ rfl
        have hx22_2:wr.cell? ⟨go22,(x19_1:Int).toNat * 3+2,none⟩=some (.int .i64 ((rd_T34 x333001_1 x19_1).f2)):=hcc22 2 _ rfl
        have hf22_0:wr.frozen? ⟨go22,(x19_1:Int).toNat * 3,none⟩=false:=hfr22 0
        have hf22_1:wr.frozen? ⟨go22,(x19_1:Int).toNat * 3+1,none⟩=false:=hfr22 1
        have hf22_2:wr.frozen? ⟨go22,(x19_1:Int).toNat * 3+2,none⟩=false:=hfr22 2
        clear hcl22 hcc22 hfr22 hM22
        replace p22:=eq_true p22
        replace q22:=eq_true q22
        have p333:0≤(x19_1:Int):=bD_
        have q333:x19_1 < (x333001_1.length:Int):=bD_
        obtain⟨ad333,A333_0,c333_0,e333,hx333_0,hx333_1,hx333_2,hl333_0,hi333_0⟩:=at_T34 (Kd.N_reads' HO_333001.out).2.2 x19_1 p333 q333
        obtain rfl:(⟨go22,0,none⟩:Addr)=ad333:=(by injection e333)
        obtain⟨ce333,hce333,hMe333,hcc333⟩:=Kd.N_get HO_333001.out z34 x19_1 p333 (by first|exact q333|exact bD_|(have e_:=(Kd.N_reads' HO_333001.out).1;omega))
        obtain⟨ua333_0,uc333_0,rfl,ul333_0,ge333_0⟩:=k34_openF hMe333
        have hv333_0:=hcc333 0 _ rfl
        rw[Nat.add_zero] at hv333_0
        replace hv333_0:=Option.some.inj (hv333_0.symm.trans hx333_0)
        injection hv333_0 with hva_ hvn_ hvc_
        rw[hva_] at ge333_0
        rw[hvc_] at ul333_0
        have HL333_0:=am (show Kd.V (Kd.int .i64) 3 _ w.heap.size _ _ ((rd_T34 x333001_1 x19_1).f0) from Kd.V_mk ul333_0 ge333_0)
        clear hva_ hvn_ hvc_ ge333_0 ul333_0 hcc333 hce333
        (first|simp only[add_plain] at hx333_0|simp only[add_at] at hx333_0|simp only[Addr.add,Nat.zero_add] at hx333_0|skip)
        (first|simp only[add_plain] at hx333_1|simp only[add_at] at hx333_1|simp only[Addr.add,Nat.zero_add] at hx333_1|skip)
        (first|simp only[add_plain] at hx333_2|simp only[add_at] at hx333_2|simp only[Addr.add,Nat.zero_add] at hx333_2|skip)
        have HR333_0:=am hi333_0
        have HC333_0:=am hl333_0
        clear hi333_0 hl333_0
        replace p333:=eq_true p333
        replace q333:=eq_true q333
        go_wp2
        (try simp only[← hl333001_1])
        go_roundg k1
        case measure=>have:=HK1.out;omega
        case rel=>exact⟨(x6_1),(wrap64 (x19_1+1)),(x333001_1),(bR),H',⟨by have:=HK1.out;omega⟩,⟨by(try simp only[hl333001_1]);(with_reducible repeat (first|apply Kd.R_alloc|apply Kd.R_drewN|apply Kd.R_drew));exact HO_6.out⟩,⟨by(try simp only[hl333001_1]);(with_reducible repeat (first|apply Kd.N_alloc|apply Kd.N_drewN|apply Kd.N_drew));exact HO_333001.out⟩,⟨by(try simp only[hl333001_1]);(with_reducible repeat (first|refine blk_drewN ?_ _|refine blk_drew ?_|refine blk_alloc ?_ _));exact BK321.out⟩,⟨by(try simp only[hl333001_1]);(with_reducible repeat (first|refine blk_drewN ?_ _|refine blk_drew ?_|refine blk_alloc ?_ _));exact BK322.out⟩,⟨by(try simp only[hl333001_1]);(with_reducible repeat (first|refine blk_drewN ?_ _|refine blk_drew ?_|refine blk_alloc ?_ _));exact BK332.out⟩,⟨bS3 GE321.out GE322.out GE332.out⟩⟩
       ·rw[if_neg c23] at H
        have c23b0:((((rd_T34 x333001_1 x19_1).f0).length:Int) == 0)=false:=beq_eq_false_iff_ne.mpr c23
        have c23b1:((((rd_T34 x333001_1 x19_1).f0).length:Int) != 0)=true:=bne_iff_ne.mpr c23
        have c23b2 : ¬ (((rd_T34 x333001_1 x19_1).f0)=[]):=fun h_=>c23 (by rw[h_];rfl)
        obtain⟨y335,hy335⟩ : ∃ y_:List (S34),y_=(x333001_1.set (x19_1:Int).toNat (⟨(rd_T34 x333001_1 x19_1).f0,wrap64 (((rd_T34 x333001_1 x19_1).f1)+t324),(rd_T34 x333001_1 x19_1).f2⟩:S34)):=⟨_,rfl⟩
        replace H:(impl_NextRound.l1 k1 x6_1 x19_1 (t325.length:Int) x19_1 t324 y335 t328)=some (r1,r2,r3,r4,r5):=by first|(rw[hy335];with_reducible exact H)|(have H2_:=(Option.bind_some _ _).symm.trans H;rw[hy335];with_reducible exact H2_)|(have H2_:=(Option.bind_some _ _).symm.trans H;with_reducible exact H2_)|with_reducible exact H|(rw[hy335];exact H)|exact H
        have Ny335:=am hy335
        clear hy335
        have H':=am H
        clear H
        have hnb28:=NB332_321.out
        have hnc28:=NB321_332.out
        have hnb29:=NB332_322.out
        have hnc29:=NB322_332.out
        obtain⟨hcz30_0,hcz30_1,hcz30_2⟩:=cC3 BK332.out
        obtain⟨hfz30_0,hfz30_1,hfz30_2⟩:=cF3 BK332.out
        have p22:0≤(x19_1:Int):=bD_
        have q22:(x19_1:Int) < ((x333001_1.length:Int):Int):=bD_
        obtain⟨go22,co22,eo22,gb22,gl22,cl22,HG22⟩:=Kd.N_form HO_333001.out (by omega)
        (first|cases eo22|(injection eo22 with ea_ en_ ec_;(first|subst ea_|(injection ea_ with ea_;subst ea_));subst ec_;clear en_))
        have GB22:=am gb22
        have GG22:=am HG22
        clear gb22 gl22 HG22
        obtain⟨ce22,hcl22,hM22,hcc22,hfr22⟩:=Kd.N_elem HO_333001.out z34 (x19_1:Int) p22 q22
        obtain⟨ua22_0,uc22_0,rfl,ul22_0,ge22_0⟩:=k34_openF hM22
        have hx22_0:wr.cell? ⟨go22,(x19_1:Int).toNat * 3,none⟩=some (.slice ua22_0 ((rd_T34 x333001_1 x19_1).f0).length uc22_0):=hcc22 0 _ rfl
        have hx22_1:wr.cell? ⟨go22,(x19_1:Int).toNat * 3+1,none⟩=some (.int .i64 ((rd_T34 x333001_1 x19_1).f1)):=hcc22 1 _ rfl
        have hx22_2:wr.cell? ⟨go22,(x19_1:Int).toNat * 3+2,none⟩=some (.int .i64 ((rd_T34 x333001_1 x19_1).f2)):=hcc22 2 _ rfl
        have hf22_0:wr.frozen? ⟨go22,(x19_1:Int).toNat * 3,none⟩=false:=hfr22 0
        have hf22_1:wr.frozen? ⟨go22,(x19_1:Int).toNat * 3+1,none⟩=false:=hfr22 1
        have hf22_2:wr.frozen? ⟨go22,(x19_1:Int).toNat * 3+2,none⟩=false:=hfr22 2
        clear hcl22 hcc22 hfr22 hM22
        replace p22:=eq_true p22
        replace q22:=eq_true q22
        have p333:0≤(x19_1:Int):=bD_
        have q333:x19_1 < (x333001_1.length:Int):=bD_
        obtain⟨ad333,A333_0,c333_0,e333,hx333_0,hx333_1,hx333_2,hl333_0,hi333_0⟩:=at_T34 (Kd.N_reads' HO_333001.out).2.2 x19_1 p333 q333
        obtain rfl:(⟨go22,0,none⟩:Addr)=ad333:=(by injection e333)
        obtain⟨ce333,hce333,hMe333,hcc333⟩:=Kd.N_get HO_333001.out z34 x19_1 p333 (by first|exact q333|exact bD_|(have e_:=(Kd.N_reads' HO_333001.out).1;omega))
        obtain⟨ua333_0,uc333_0,rfl,ul333_0,ge333_0⟩:=k34_openF hMe333
        have hv333_0:=hcc333 0 _ rfl
        rw[Nat.add_zero] at hv333_0
        replace hv333_0:=Option.some.inj (hv333_0.symm.trans hx333_0)
        injection hv333_0 with hva_ hvn_ hvc_
        rw[hva_] at ge333_0
        rw[hvc_] at ul333_0
        have HL333_0:=am (show Kd.V (Kd.int .i64) 3 _ w.heap.size _ _ ((rd_T34 x333001_1 x19_1).f0) from Kd.V_mk ul333_0 ge333_0)
        clear hva_ hvn_ hvc_ ge333_0 ul333_0 hcc333 hce333
        (first|simp only[add_plain] at hx333_0|simp only[add_at] at hx333_0|simp only[Addr.add,Nat.zero_add] at hx333_0|skip)
        (first|simp only[add_plain] at hx333_1|simp only[add_at] at hx333_1|simp only[Addr.add,Nat.zero_add] at hx333_1|skip)
        (first|simp only[add_plain] at hx333_2|simp only[add_at] at hx333_2|simp only[Addr.add,Nat.zero_add] at hx333_2|skip)
        have HR333_0:=am hi333_0
        have HC333_0:=am hl333_0
        clear hi333_0 hl333_0
        replace p333:=eq_true p333
        replace q333:=eq_true q333
        try go_wp2
        (try (rw[drewN_self wr];generalize hq_:World.drewN wr _=wr;have n0_:=am (Kd.R_at hq_ HO_6.out);have n1_:=am (Kd.N_at hq_ HO_333001.out);have n2_:=am (Kd.V_at hq_ HL333_0.out);have n3_:=am (blk_at hq_ BK321.out);have n4_:=am (blk_at hq_ BK322.out);have n5_:=am (blk_at hq_ BK332.out);have n6_:=am (Kd.C_at hq_ HR333_0.out);have n7_:=am (below_at hq_ HB.out);clear hq_ HO_6 HO_333001 HL333_0 BK321 BK322 BK332 HR333_0 HB;have HO_6:=n0_;have HO_333001:=n1_;have HL333_0:=n2_;have BK321:=n3_;have BK322:=n4_;have BK332:=n5_;have HR333_0:=n6_;have HB:=n7_;clear n0_ n1_ n2_ n3_ n4_ n5_ n6_ n7_))
        have n0_:=am (Kd.R_drew HO_6.out)
        have n1_:=am (Kd.N_drew HO_333001.out)
        have n2_:=am (Kd.V_drew HL333_0.out)
        have n3_:=am (blk_drew BK321.out)
        have n4_:=am (blk_drew BK322.out)
        have n5_:=am (blk_drew BK332.out)
        have n6_:=am (Kd.C_drew HR333_0.out)
        have n7_:=am (below_drew1 HB.out)
        clear HO_6 HO_333001 HL333_0 BK321 BK322 BK332 HR333_0 HB
        have HO_6:=n0_
        have HO_333001:=n1_
        have HL333_0:=n2_
        have BK321:=n3_
        have BK322:=n4_
        have BK332:=n5_
        have HR333_0:=n6_
        have HB:=n7_
        clear n0_ n1_ n2_ n3_ n4_ n5_ n6_ n7_
        have p334:0≤(x19_1:Int):=bD_
        have q334:x19_1 < (x333001_1.length:Int):=bD_
        obtain⟨ad334,A334_0,c334_0,e334,hx334_0,hx334_1,hx334_2,hl334_0,hi334_0⟩:=at_T34 (Kd.N_reads' HO_333001.out).2.2 x19_1 p334 q334
        obtain rfl:(⟨go22,0,none⟩:Addr)=ad334:=(by injection e334)
        obtain⟨ce334,hce334,hMe334,hcc334⟩:=Kd.N_get HO_333001.out z34 x19_1 p334 (by first|exact q334|exact bD_|(have e_:=(Kd.N_reads' HO_333001.out).1;omega))
        obtain⟨ua334_0,uc334_0,rfl,ul334_0,ge334_0⟩:=k34_openF hMe334
        have hv334_0:=hcc334 0 _ rfl
        rw[Nat.add_zero] at hv334_0
        replace hv334_0:=Option.some.inj (hv334_0.symm.trans hx334_0)
        injection hv334_0 with hva_ hvn_ hvc_
        rw[hva_] at ge334_0
        rw[hvc_] at ul334_0
        have HL334_0:=am (show Kd.V (Kd.int .i64) 3 _ w.heap.size _ _ ((rd_T34 x333001_1 x19_1).f0) from Kd.V_mk ul334_0 ge334_0)
        clear hva_ hvn_ hvc_ ge334_0 ul334_0 hcc334 hce334
        (first|simp only[add_plain] at hx334_0|simp only[add_at] at hx334_0|simp only[Addr.add,Nat.zero_add] at hx334_0|skip)
        (first|simp only[add_plain] at hx334_1|simp only[add_at] at hx334_1|simp only[Addr.add,Nat.zero_add] at hx334_1|skip)
        (first|simp only[add_plain] at hx334_2|simp only[add_at] at hx334_2|simp only[Addr.add,Nat.zero_add] at hx334_2|skip)
        have HR334_0:=am hi334_0
        have HC334_0:=am hl334_0
        clear hi334_0 hl334_0
        replace p334:=eq_true p334
        replace q334:=eq_true q334
        have p27:0≤(x19_1:Int):=bD_
        have q27:(x19_1:Int) < ((x333001_1.length:Int):Int):=bD_
        obtain⟨ce27,hcl27,hM27,hcc27,hfr27⟩:=Kd.N_elem HO_333001.out z34 (x19_1:Int) p27 q27
        obtain⟨ua27_0,uc27_0,rfl,ul27_0,ge27_0⟩:=k34_openF hM27
        have hx27_0:World.cell? _ ⟨go22,(x19_1:Int).toNat * 3,none⟩=some (.slice ua27_0 ((rd_T34 x333001_1 x19_1).f0).length uc27_0):=hcc27 0 _ rfl
        have hx27_1:World.cell? _ ⟨go22,(x19_1:Int).toNat * 3+1,none⟩=some (.int .i64 ((rd_T34 x333001_1 x19_1).f1)):=hcc27 1 _ rfl
        have hx27_2:World.cell? _ ⟨go22,(x19_1:Int).toNat * 3+2,none⟩=some (.int .i64 ((rd_T34 x333001_1 x19_1).f2)):=hcc27 2 _ rfl
        have hf27_0:World.frozen? _ ⟨go22,(x19_1:Int).toNat * 3,none⟩=false:=hfr27 0
        have hf27_1:World.frozen? _ ⟨go22,(x19_1:Int).toNat * 3+1,none⟩=false:=hfr27 1
        have hf27_2:World.frozen? _ ⟨go22,(x19_1:Int).toNat * 3+2,none⟩=false:=hfr27 2
        clear hcl27 hcc27 hfr27 hM27
        replace p27:=eq_true p27
        replace q27:=eq_true q27
        have HX32:=am (show Kd.N k34 34 _ w.heap.size (fun k_=>(w.heap.size≤k_)∧some k_≠(u6:Value).ownBlock∧k_≠gb321∧k_≠gb322∧k_≠gb332) (.slice (some ⟨go22,0,none⟩) x333001_1.length co18) x333001_1 from (Kd.N_mono (HO_333001.out) (fun k_ hk=>⟨hk.1,⟨hk.2.1,⟨hk.2.2.1,⟨hk.2.2.2.1,hk.2.2.2.2⟩⟩⟩⟩)))
        obtain⟨ce32,hcl32,hM32,hcc32,hfr32⟩:=Kd.N_elem HX32.out z34 (x19_1:Int) (bD_) (by have h_:(x19_1:Int) < ((x333001_1.length:Int):Int):=bD_;first|exact h_|(have e_:=(Kd.N_reads' HO_333001.out).1;omega)|simpa using h_)
        obtain⟨ua32_0,uc32_0,rfl,ul32_0,ge32_0⟩:=k34_openF hM32
        have HP32:=(Kd.N_seg HX32.out (x19_1:Int) (bD_) (by have h_:(x19_1:Int) < ((x333001_1.length:Int):Int):=bD_;first|exact h_|(have e_:=(Kd.N_reads' HO_333001.out).1;omega)|simpa using h_) (seg:=[.int .i64 (wrap64 (((rd_T34 x333001_1 x19_1).f1)+t324))]) (j:=1) hcl32 hcc32 (show 2≤3 from by decide) (x':=(⟨(rd_T34 x333001_1 x19_1).f0,wrap64 (((rd_T34 x333001_1 x19_1).f1)+t324),(rd_T34 x333001_1 x19_1).f2⟩:S34)) (k34_mkF _ _ (⟨(rd_T34 x333001_1 x19_1).f0,wrap64 (((rd_T34 x333001_1 x19_1).f1)+t324),(rd_T34 x333001_1 x19_1).f2⟩:S34) ul32_0 ge32_0) (fun _ hk=>hk)).1
        rw[← Ny335.out] at HP32
        have HQ32:=am HP32
        clear hcl32 hcc32 hfr32 hM32 HP32
        refine start_ (n:=10) (S:=fun w'=>w'.cell? ⟨gb332,0,none⟩=some (.int .i64 t324)∧w'.cell? ⟨gb332,1,none⟩=some (.slice (some ⟨go22,0,none⟩) x333001_1.length co18)∧w'.cell? ⟨gb332,2,none⟩=some (.int .i64 t328)∧w'.cell? ⟨go22,(x19_1).toNat * 3,none⟩=some (.slice A334_0 ((rd_T34 x333001_1 x19_1).f0).length c334_0)∧w'.cell? ⟨go22,(x19_1).toNat * 3+1,none⟩=some (.int .i64 ((rd_T34 x333001_1 x19_1).f1))∧w'.cell? ⟨go22,(x19_1).toNat * 3+2,none⟩=some (.int .i64 ((rd_T34 x333001_1 x19_1).f2))) (ds:=[9]) #[false,false,false,false,false,false,false,false,false,false] (by kernel_rfl) rfl rfl ⟨(blk_cell BK332.out 0).trans rfl,(blk_cell BK332.out 1).trans rfl,(blk_cell BK332.out 2).trans rfl,hx334_0,hx334_1,hx334_2⟩ (fun hHeld => ?_);refine with_tabW impl_NextRound.tab9 impl_NextRound.bits9 (fun HT_ HW_ => ?_)
        generalize wr.drew=w31 at HO_6 HO_333001 HL333_0 BK321 BK322 BK332 HR333_0 HB HL334_0 HQ32 HR334_0 hf27_0 hf27_1 hf27_2 hx27_0 hx27_1 hx27_2 hx334_0 hx334_1 hx334_2 hHeld ⊢
        refine pS HT_ 0 32 ?_;refine pS HT_ 1 33 ?_;refine pS HT_ 2 34 ?_;refine pS HT_ 4 36 ?_;refine tS HT_ HW_ hHeld 3 35 ?_;refine tS HT_ HW_ hHeld 5 37 ?_;refine pS HT_ 6 38 ?_;refine pS HT_ 7 39 ?_;refine pS HT_ 8 40 ?_
        refine last_ (i:=9) (N:=none) #[true,true,true,true,true,true,true,true,true,true] rfl rfl (one_of HT_.out (by kernel_rfl)) (by decide) (fun K hK => ?_)
        refine skip_ (w1:=?_) (by rfl) rfl ?_ ?_
        rotate_left
        ·go_simp
         rfl
        refine hK.out _ _ ?_
        clear hK K
        refine done_ (done_of HT_.out (by kernel_rfl)) ?_
        try go_wp2
        go_loopg [6] k1 (fun kq v6 w' => ∃ (x6_2:List Int) (x333001_2:List (S34)),Aside0 (impl_NextRound.l1 kq x6_2 x19_1 (t325.length:Int) x19_1 t324 x333001_2 t328=some (r1,r2,r3,r4,r5))∧Aside0 (kq≤k1)∧Aside0 (Kd.R (Kd.int .i64) 3 w' w.heap.size (fun k_=>(w.heap.size≤k_)) v6 x6_2)∧Aside0 (Kd.N k34 34 w' w.heap.size (fun k_=>(w.heap.size≤k_)∧some k_≠(v6:Value).ownBlock∧k_≠gb321∧k_≠gb322∧k_≠gb332) (.slice (some ⟨go22,0,none⟩) x333001_1.length co18) x333001_2)∧Aside0 (w'.heap[gb321]?=some (.cells #[.int .i64 a0_0,(.slice A0_1 l0_1.length c0_1),.int .i64 a0_2] 25 (0,0)))∧Aside0 (w'.heap[gb322]?=some (.cells #[.int .i64 0,(.slice none 0 0),.int .i64 0] 25 (0,0)))∧Aside0 (w'.heap[gb332]?=some (.cells #[.int .i64 t324,(.slice (some ⟨go22,0,none⟩) x333001_1.length co18),.int .i64 t328] 25 (0,0)))∧Aside0 (Below w.heap.size w w'))
        case atStart=>exact⟨(x6_1),(y335),H',⟨Nat.le_refl _⟩,⟨by(try simp only[hl333001_1]);(with_reducible repeat (first|apply Kd.R_alloc|apply Kd.R_drewN|apply Kd.R_drew));exact Kd.R_mono (Kd.R_far (p:=⟨go22,(x19_1:Int).toNat * 3+1,none⟩) (Kd.R_types HO_6.out (by first|exact GG22.out|exact(Kd.N_typed HO_333001.out _ rfl).choose_spec) (by decide)) (fun _ hk=>hk.2) (.int .i64 (wrap64 (((rd_T34 x333001_1 x19_1).f1)+t324)))) (fun _ hk=>hk.1)⟩,⟨by(try simp only[hl333001_1]);(with_reducible repeat (first|apply Kd.N_alloc|apply Kd.N_drewN|apply Kd.N_drew));exact HQ32.out⟩,⟨by(try simp only[hl333001_1]);(with_reducible repeat (first|refine blk_drewN ?_ _|refine blk_drew ?_|refine blk_alloc ?_ _));refine blk_far ?_ (by have h_:=Kd.N_away HO_333001.out (fun _ hk=>hk.2.2.1);intro e_;exact h_ (by rw[e_];rfl)) _;(with_reducible repeat (first|refine blk_drewN ?_ _|refine blk_drew ?_|refine blk_alloc ?_ _));exact BK321.out⟩,⟨by(try simp only[hl333001_1]);(with_reducible repeat (first|refine blk_drewN ?_ _|refine blk_drew ?_|refine blk_alloc ?_ _));refine blk_far ?_ (by have h_:=Kd.N_away HO_333001.out (fun _ hk=>hk.2.2.2.1);intro e_;exact h_ (by rw[e_];rfl)) _;(with_reducible repeat (first|refine blk_drewN ?_ _|refine blk_drew ?_|refine blk_alloc ?_ _));exact BK322.out⟩,⟨by(try simp only[hl333001_1]);(with_reducible repeat (first|refine blk_drewN ?_ _|refine blk_drew ?_|refine blk_alloc ?_ _));refine blk_far ?_ (by have h_:=Kd.N_away HO_333001.out (fun _ hk=>hk.2.2.2.2);intro e_;exact h_ (by rw[e_];rfl)) _;(with_reducible repeat (first|refine blk_drewN ?_ _|refine blk_drew ?_|refine blk_alloc ?_ _));exact BK332.out⟩,⟨bS4 GB22.out GE321.out GE322.out GE332.out⟩⟩
        case round =>
         clear H'
         try clear c1
         try clear c2
         try clear p2
         try clear q2
         try clear hx2
         try clear hf2
         try clear c3
         try clear p3
         try clear q3
         try clear hx3
         try clear c6
         try clear p6
         try clear c7
         try clear c10
         try clear c15
         try clear c16
         try clear c19
         try clear c19b0
         try clear c20
         try clear c20b0
         try clear c21
         try clear c21b0
         try clear c22
         try clear p22
         try clear q22
         try clear hx22
         try clear hf22
         try clear c23
         try clear c23b0
         try clear c23b1
         try clear c23b2
         try clear c24
         try clear c25
         try clear c27
         try clear p27
         try clear q27
         try clear hx27
         try clear hf27
         try clear c28
         try clear c29
         try clear c32
         try clear hcz10_0 hcz10_1 hcz10_2
         try clear hcz17_0 hcz17_1 hcz17_2
         try clear hcz26_0 hcz26_1 hcz26_2
         try clear hcz30_0 hcz30_1 hcz30_2
         try clear hcz8_0 hcz8_1 hcz8_2
         try clear hfz10_0 hfz10_1 hfz10_2
         try clear hfz17_0 hfz17_1 hfz17_2
         try clear hfz26_0 hfz26_1 hfz26_2
         try clear hfz30_0 hfz30_1 hfz30_2
         try clear hfz8_0 hfz8_1 hfz8_2
         try clear hx22_0
         try clear hx22_1
         try clear hx22_2
         try clear hx27_0
         try clear hx27_1
         try clear hx27_2
         try clear hx333_0
         try clear hx333_1
         try clear hx333_2
         try clear hx334_0
         try clear hx334_1
         try clear hx334_2
         try clear p2
         try clear p22
         try clear p27
         try clear p333
         try clear p334
         try clear q22
         try clear q27
         try clear q333
         try clear q334
         obtain⟨x6_2,x333001_2,HA,HK2,HO_6,HO_333001,BK321,BK322,BK332,HB⟩:=hrel
         have hl333001_2:=(Kd.N_reads' HO_333001.out).1
         rw[hl333001_2] at HO_333001
         (try simp only[hl333001_2])
         (try simp only[hl333001_2] at BK321)
         (try simp only[hl333001_2] at BK322)
         (try simp only[hl333001_2] at BK332)
         (try simp only[hl333001_2] at HO_6)
         cases gk with
         | zero=>exact absurd HA.out (by simp[impl_NextRound.l1])
         | succ k2 =>
          have H:=HA.out
          clear HA
          simp only[impl_NextRound.l1] at H
          by_cases c33:0≤x19_1
          ·rw[if_pos c33] at H
           have c33b0:decide (0≤x19_1)=true:=decide_eq_true c33
           clear c33
           by_cases c34:x19_1 < (x333001_2.length:Int)
           ·rw[if_pos c34] at H
            have c34b0:decide (x19_1 < (x333001_2.length:Int))=true:=decide_eq_true c34
            clear c34
            by_cases c35:(((rd_T34 x333001_2 x19_1).f0).length:Int) > 0
            ·rw[if_pos c35] at H
             have c35b0:decide (0 < (((rd_T34 x333001_2 x19_1).f0).length:Int))=true:=decide_eq_true c35
             have c35b1:decide (0 < ((rd_T34 x333001_2 x19_1).f0).length)=true:=decide_eq_true (by omega)
             clear c35
             by_cases c36:0 < (((rd_T34 x333001_2 x19_1).f0).length:Int)
             ·rw[if_pos c36] at H
              have c36b0:decide (0 < (((rd_T34 x333001_2 x19_1).f0).length:Int))=true:=decide_eq_true c36
              have c36b1:decide (0 < ((rd_T34 x333001_2 x19_1).f0).length)=true:=decide_eq_true (by omega)
              clear c36
              by_cases c37:(rd ((rd_T34 x333001_2 x19_1).f0) 0)≤((rd_T34 x333001_2 x19_1).f1)
              ·rw[if_pos c37] at H
               have c37b0:decide ((rd ((rd_T34 x333001_2 x19_1).f0) 0)≤((rd_T34 x333001_2 x19_1).f1))=true:=decide_eq_true c37
               clear c37
               obtain⟨y343,hy343⟩ : ∃ y_:List (S34),y_=(x333001_2.set (x19_1:Int).toNat (⟨(rd_T34 x333001_2 x19_1).f0,wrap64 (((rd_T34 x333001_2 x19_1).f1) - (rd ((rd_T34 x333001_2 x19_1).f0) 0)),(rd_T34 x333001_2 x19_1).f2⟩:S34)):=⟨_,rfl⟩
               replace H:(if 0 < (((rd_T34 y343 x19_1).f0).length:Int) then ((some (y343.set (x19_1:Int).toNat (⟨(rd_T34 y343 x19_1).f0,(rd_T34 y343 x19_1).f1,wrap64 (((rd_T34 y343 x19_1).f2)+(rd ((rd_T34 y343 x19_1).f0) 0))⟩:S34):List (S34))).bind fun y347=>(if 1≤(((rd_T34 y347 x19_1).f0).length:Int) then (if x6_2.length < 17592186044416 then (impl_NextRound.l1 k2 (x6_2++[x19_1]) x19_1 (t325.length:Int) x19_1 t324 (y347.set (x19_1:Int).toNat (⟨(((rd_T34 y347 x19_1).f0).drop 1),(rd_T34 y347 x19_1).f1,(rd_T34 y347 x19_1).f2⟩:S34)) t328) else (none)) else (none))) else (none))=some (r1,r2,r3,r4,r5):=by first|(rw[hy343];with_reducible exact H)|(have H2_:=(Option.bind_some _ _).symm.trans H;rw[hy343];with_reducible exact H2_)|(have H2_:=(Option.bind_some _ _).symm.trans H;with_reducible exact H2_)|with_reducible exact H|(rw[hy343];exact H)|exact H
               have Ny343:=am hy343
               clear hy343
               by_cases c39:0 < (((rd_T34 y343 x19_1).f0).length:Int)
               ·rw[if_pos c39] at H
                have c39b0:decide (0 < (((rd_T34 y343 x19_1).f0).length:Int))=true:=decide_eq_true c39
                have c39b1:decide (0 < ((rd_T34 y343 x19_1).f0).length)=true:=decide_eq_true (by omega)
                clear c39
                obtain⟨y347,hy347⟩ : ∃ y_:List (S34),y_=(y343.set (x19_1:Int).toNat (⟨(rd_T34 y343 x19_1).f0,(rd_T34 y343 x19_1).f1,wrap64 (((rd_T34 y343 x19_1).f2)+(rd ((rd_T34 y343 x19_1).f0) 0))⟩:S34)):=⟨_,rfl⟩
                replace H:(if 1≤(((rd_T34 y347 x19_1).f0).length:Int) then (if x6_2.length < 17592186044416 then (impl_NextRound.l1 k2 (x6_2++[x19_1]) x19_1 (t325.length:Int) x19_1 t324 (y347.set (x19_1:Int).toNat (⟨(((rd_T34 y347 x19_1).f0).drop 1),(rd_T34 y347 x19_1).f1,(rd_T34 y347 x19_1).f2⟩:S34)) t328) else (none)) else (none))=some (r1,r2,r3,r4,r5):=by first|(rw[hy347];with_reducible exact H)|(have H2_:=(Option.bind_some _ _).symm.trans H;rw[hy347];with_reducible exact H2_)|(have H2_:=(Option.bind_some _ _).symm.trans H;with_reducible exact H2_)|with_reducible exact H|(rw[hy347];exact H)|exact H
                have Ny347:=am hy347
                clear hy347
                by_cases c41:1≤(((rd_T34 y347 x19_1).f0).length:Int)
                ·rw[if_pos c41] at H
                 have c41b0:=eq_true c41
                 have c41b1:decide (1≤(((rd_T34 y347 x19_1).f0).length:Int))=true:=decide_eq_true c41
                 clear c41
                 obtain⟨y349,hy349⟩ : ∃ y_:List Int,y_=(((rd_T34 y347 x19_1).f0).drop 1):=⟨_,rfl⟩
                 replace H:(if x6_2.length < 17592186044416 then (impl_NextRound.l1 k2 (x6_2++[x19_1]) x19_1 (t325.length:Int) x19_1 t324 (y347.set (x19_1:Int).toNat (⟨y349,(rd_T34 y347 x19_1).f1,(rd_T34 y347 x19_1).f2⟩:S34)) t328) else (none))=some (r1,r2,r3,r4,r5):=by first|(rw[hy349];with_reducible exact H)|(have H2_:=(Option.bind_some _ _).symm.trans H;rw[hy349];with_reducible exact H2_)|(have H2_:=(Option.bind_some _ _).symm.trans H;with_reducible exact H2_)|with_reducible exact H|(rw[hy349];exact H)|exact H
                 have Ny349:=am hy349
                 clear hy349
                 obtain⟨y354,hy354⟩ : ∃ y_:List (S34),y_=(y347.set (x19_1:Int).toNat (⟨y349,(rd_T34 y347 x19_1).f1,(rd_T34 y347 x19_1).f2⟩:S34)):=⟨_,rfl⟩
                 replace H:(if x6_2.length < 17592186044416 then (impl_NextRound.l1 k2 (x6_2++[x19_1]) x19_1 (t325.length:Int) x19_1 t324 y354 t328) else (none))=some (r1,r2,r3,r4,r5):=by first|(rw[hy354];with_reducible exact H)|(have H2_:=(Option.bind_some _ _).symm.trans H;rw[hy354];with_reducible exact H2_)|(have H2_:=(Option.bind_some _ _).symm.trans H;with_reducible exact H2_)|with_reducible exact H|(rw[hy354];exact H)|exact H
                 have Ny354:=am hy354
                 clear hy354
                 by_cases c43:x6_2.length < 17592186044416
                 ·rw[if_pos c43] at H
                  have LMc43:=am c43
                  clear c43
                  obtain⟨y355,hy355⟩ : ∃ y_:List Int,y_=(x6_2++[x19_1]):=⟨_,rfl⟩
                  replace H:(impl_NextRound.l1 k2 y355 x19_1 (t325.length:Int) x19_1 t324 y354 t328)=some (r1,r2,r3,r4,r5):=by first|(rw[hy355];with_reducible exact H)|(have H2_:=(Option.bind_some _ _).symm.trans H;rw[hy355];with_reducible exact H2_)|(have H2_:=(Option.bind_some _ _).symm.trans H;with_reducible exact H2_)|with_reducible exact H|(rw[hy355];exact H)|exact H
                  have Ny355:=am hy355
                  clear hy355
                  have H':=am H
                  clear H
                  try go_wp2
                  (try (rw[drewN_self wr];generalize hq_:World.drewN wr _=wr;have n0_:=am (Kd.R_at hq_ HO_6.out);have n1_:=am (Kd.N_at hq_ HO_333001.out);have n2_:=am (blk_at hq_ BK321.out);have n3_:=am (blk_at hq_ BK322.out);have n4_:=am (blk_at hq_ BK332.out);have n5_:=am (below_at hq_ HB.out);clear hq_ HO_6 HO_333001 BK321 BK322 BK332 HB;have HO_6:=n0_;have HO_333001:=n1_;have BK321:=n2_;have BK322:=n3_;have BK332:=n4_;have HB:=n5_;clear n0_ n1_ n2_ n3_ n4_ n5_))
                  have n0_:=am (Kd.R_drew HO_6.out)
                  have n1_:=am (Kd.N_drew HO_333001.out)
                  have n2_:=am (blk_drew BK321.out)
                  have n3_:=am (blk_drew BK322.out)
                  have n4_:=am (blk_drew BK332.out)
                  have n5_:=am (below_drew1 HB.out)
                  clear HO_6 HO_333001 BK321 BK322 BK332 HB
                  have HO_6:=n0_
                  have HO_333001:=n1_
                  have BK321:=n2_
                  have BK322:=n3_
                  have BK332:=n4_
                  have HB:=n5_
                  clear n0_ n1_ n2_ n3_ n4_ n5_
                  have p336:0≤(x19_1:Int):=bD_
                  have q336:x19_1 < (x333001_2.length:Int):=bD_
                  obtain⟨ad336,A336_0,c336_0,e336,hx336_0,hx336_1,hx336_2,hl336_0,hi336_0⟩:=at_T34 (Kd.N_reads' HO_333001.out).2.2 x19_1 p336 q336
                  obtain rfl:(⟨go22,0,none⟩:Addr)=ad336:=(by injection e336)
                  obtain⟨ce336,hce336,hMe336,hcc336⟩:=Kd.N_get HO_333001.out z34 x19_1 p336 (by first|exact q336|exact bD_|(have e_:=(Kd.N_reads' HO_333001.out).1;omega))
                  obtain⟨ua336_0,uc336_0,rfl,ul336_0,ge336_0⟩:=k34_openF hMe336
                  have hv336_0:=hcc336 0 _ rfl
                  rw[Nat.add_zero] at hv336_0
                  replace hv336_0:=Option.some.inj (hv336_0.symm.trans hx336_0)
                  injection hv336_0 with hva_ hvn_ hvc_
                  rw[hva_] at ge336_0
                  rw[hvc_] at ul336_0
                  have HL336_0:=am (show Kd.V (Kd.int .i64) 3 _ w.heap.size _ _ ((rd_T34 x333001_2 x19_1).f0) from Kd.V_mk ul336_0 ge336_0)
                  clear hva_ hvn_ hvc_ ge336_0 ul336_0 hcc336 hce336
                  (first|simp only[add_plain] at hx336_0|simp only[add_at] at hx336_0|simp only[Addr.add,Nat.zero_add] at hx336_0|skip)
                  (first|simp only[add_plain] at hx336_1|simp only[add_at] at hx336_1|simp only[Addr.add,Nat.zero_add] at hx336_1|skip)
                  (first|simp only[add_plain] at hx336_2|simp only[add_at] at hx336_2|simp only[Addr.add,Nat.zero_add] at hx336_2|skip)
                  have HR336_0:=am hi336_0
                  have HC336_0:=am hl336_0
                  clear hi336_0 hl336_0
                  replace p336:=eq_true p336
                  replace q336:=eq_true q336
                  have p337:0≤(x19_1:Int):=bD_
                  have q337:x19_1 < (x333001_2.length:Int):=bD_
                  obtain⟨ad337,A337_0,c337_0,e337,hx337_0,hx337_1,hx337_2,hl337_0,hi337_0⟩:=at_T34 (Kd.N_reads' HO_333001.out).2.2 x19_1 p337 q337
                  obtain rfl:(⟨go22,0,none⟩:Addr)=ad337:=(by injection e337)
                  obtain⟨ce337,hce337,hMe337,hcc337⟩:=Kd.N_get HO_333001.out z34 x19_1 p337 (by first|exact q337|exact bD_|(have e_:=(Kd.N_reads' HO_333001.out).1;omega))
                  obtain⟨ua337_0,uc337_0,rfl,ul337_0,ge337_0⟩:=k34_openF hMe337
                  have hv337_0:=hcc337 0 _ rfl
                  rw[Nat.add_zero] at hv337_0
                  replace hv337_0:=Option.some.inj (hv337_0.symm.trans hx337_0)
                  injection hv337_0 with hva_ hvn_ hvc_
                  rw[hva_] at ge337_0
                  rw[hvc_] at ul337_0
                  have HL337_0:=am (show Kd.V (Kd.int .i64) 3 _ w.heap.size _ _ ((rd_T34 x333001_2 x19_1).f0) from Kd.V_mk ul337_0 ge337_0)
                  clear hva_ hvn_ hvc_ ge337_0 ul337_0 hcc337 hce337
                  (first|simp only[add_plain] at hx337_0|simp only[add_at] at hx337_0|simp only[Addr.add,Nat.zero_add] at hx337_0|skip)
                  (first|simp only[add_plain] at hx337_1|simp only[add_at] at hx337_1|simp only[Addr.add,Nat.zero_add] at hx337_1|skip)
                  (first|simp only[add_plain] at hx337_2|simp only[add_at] at hx337_2|simp only[Addr.add,Nat.zero_add] at hx337_2|skip)
                  have HR337_0:=am hi337_0
                  have HC337_0:=am hl337_0
                  clear hi337_0 hl337_0
                  replace p337:=eq_true p337
                  replace q337:=eq_true q337
                  have ea_:=Option.some.inj (hx336_0.symm.trans hx337_0)
                  injection ea_ with ea_ en_ ec_
                  subst ea_
                  subst ec_
                  clear en_
                  have p338:0≤(0:Int):=(by omega)
                  have q338:0 < (((rd_T34 x333001_2 x19_1).f0).length:Int):=bD_
                  obtain⟨ad338,e338,hx338_0⟩:=Kd.at_int (by repeat (first|(with_reducible exact HR337_0.out)|(with_reducible refine Kd.C_alloc ?_ _)|(with_reducible refine Kd.C_drewN ?_ _)|(with_reducible refine Kd.C_drew ?_)|exact HR337_0.out)) 0 p338 q338
                  cases e338
                  have qi338:(0 < ((rd_T34 x333001_2 x19_1).f0).length)=True:=eq_true (by omega)
                  (try rw[show((0:Int)).toNat=0 from rfl] at hx338_0)
                  (try rw[Addr.add_zero'] at hx338_0)
                  replace p338:=eq_true p338
                  replace q338:=eq_true q338
                  have p339:0≤(x19_1:Int):=bD_
                  have q339:x19_1 < (x333001_2.length:Int):=bD_
                  obtain⟨ad339,A339_0,c339_0,e339,hx339_0,hx339_1,hx339_2,hl339_0,hi339_0⟩:=at_T34 (Kd.N_reads' HO_333001.out).2.2 x19_1 p339 q339
                  obtain rfl:(⟨go22,0,none⟩:Addr)=ad339:=(by injection e339)
                  obtain⟨ce339,hce339,hMe339,hcc339⟩:=Kd.N_get HO_333001.out z34 x19_1 p339 (by first|exact q339|exact bD_|(have e_:=(Kd.N_reads' HO_333001.out).1;omega))
                  obtain⟨ua339_0,uc339_0,rfl,ul339_0,ge339_0⟩:=k34_openF hMe339
                  have hv339_0:=hcc339 0 _ rfl
                  rw[Nat.add_zero] at hv339_0
                  replace hv339_0:=Option.some.inj (hv339_0.symm.trans hx339_0)
                  injection hv339_0 with hva_ hvn_ hvc_
                  rw[hva_] at ge339_0
                  rw[hvc_] at ul339_0
                  have HL339_0:=am (show Kd.V (Kd.int .i64) 3 _ w.heap.size _ _ ((rd_T34 x333001_2 x19_1).f0) from Kd.V_mk ul339_0 ge339_0)
                  clear hva_ hvn_ hvc_ ge339_0 ul339_0 hcc339 hce339
                  (first|simp only[add_plain] at hx339_0|simp only[add_at] at hx339_0|simp only[Addr.add,Nat.zero_add] at hx339_0|skip)
                  (first|simp only[add_plain] at hx339_1|simp only[add_at] at hx339_1|simp only[Addr.add,Nat.zero_add] at hx339_1|skip)
                  (first|simp only[add_plain] at hx339_2|simp only[add_at] at hx339_2|simp only[Addr.add,Nat.zero_add] at hx339_2|skip)
                  have HR339_0:=am hi339_0
                  have HC339_0:=am hl339_0
                  clear hi339_0 hl339_0
                  replace p339:=eq_true p339
                  replace q339:=eq_true q339
                  have ea_:=Option.some.inj (hx336_0.symm.trans hx339_0)
                  injection ea_ with ea_ en_ ec_
                  subst ea_
                  subst ec_
                  clear en_
                  refine start_ (n:=19) (S:=fun w'=>w'.cell? ⟨go22,(x19_1).toNat * 3,none⟩=some (.slice (some ad338) ((rd_T34 x333001_2 x19_1).f0).length c336_0)∧w'.cell? ⟨go22,(x19_1).toNat * 3+1,none⟩=some (.int .i64 ((rd_T34 x333001_2 x19_1).f1))∧w'.cell? ⟨go22,(x19_1).toNat * 3+2,none⟩=some (.int .i64 ((rd_T34 x333001_2 x19_1).f2))∧w'.cell? ⟨go22,(x19_1).toNat * 3,none⟩=some (.slice (some ad338) ((rd_T34 x333001_2 x19_1).f0).length c336_0)∧w'.cell? ⟨go22,(x19_1).toNat * 3+1,none⟩=some (.int .i64 ((rd_T34 x333001_2 x19_1).f1))∧w'.cell? ⟨go22,(x19_1).toNat * 3+2,none⟩=some (.int .i64 ((rd_T34 x333001_2 x19_1).f2))∧w'.cell? ad338=some (.int .i64 (rd ((rd_T34 x333001_2 x19_1).f0) 0))∧w'.cell? ⟨go22,(x19_1).toNat * 3,none⟩=some (.slice (some ad338) ((rd_T34 x333001_2 x19_1).f0).length c336_0)∧w'.cell? ⟨go22,(x19_1).toNat * 3+1,none⟩=some (.int .i64 ((rd_T34 x333001_2 x19_1).f1))∧w'.cell? ⟨go22,(x19_1).toNat * 3+2,none⟩=some (.int .i64 ((rd_T34 x333001_2 x19_1).f2))) (ds:=[]) #[false,false,false,false,false,false,false,false,false,false,false,false,false,false,false,false,false,false,false] (by kernel_rfl) rfl rfl ⟨hx336_0,hx336_1,hx336_2,hx337_0,hx337_1,hx337_2,hx338_0,hx339_0,hx339_1,hx339_2⟩ (fun hHeld => ?_);refine with_tabW impl_NextRound.tab10 impl_NextRound.bits10 (fun HT_ HW_ => ?_)
                  generalize wr.drew=w44 at HO_6 HO_333001 BK321 BK322 BK332 HB HL336_0 HL337_0 HL339_0 HR336_0 HR337_0 HR339_0 hx336_0 hx336_1 hx336_2 hx337_0 hx337_1 hx337_2 hx338_0 hx339_0 hx339_1 hx339_2 hHeld ⊢
                  refine pS HT_ 0 41 ?_;refine pS HT_ 1 42 ?_;refine pS HT_ 2 43 ?_;refine tS HT_ HW_ hHeld 3 44 ?_;refine pS HT_ 4 45 ?_;refine pS HT_ 5 46 ?_;refine pS HT_ 6 47 ?_;refine pS HT_ 7 48 ?_;refine pS HT_ 8 49 ?_;refine pS HT_ 9 50 ?_;refine pS HT_ 13 54 ?_;refine pS HT_ 14 55 ?_;refine pS HT_ 15 56 ?_;refine tS HT_ HW_ hHeld 10 51 ?_;refine pS HT_ 11 52 ?_;refine tS HT_ HW_ hHeld 12 53 ?_;refine tS HT_ HW_ hHeld 16 57 ?_;refine pS HT_ 17 58 ?_;refine pS HT_ 18 59 ?_
                  refine done_ (done_of HT_.out (by kernel_rfl)) ?_
                  try go_wp2
                  (try (rw[drewN_self w44];generalize hq_:World.drewN w44 _=w44;have n0_:=am (Kd.R_at hq_ HO_6.out);have n1_:=am (Kd.N_at hq_ HO_333001.out);have n2_:=am (Kd.V_at hq_ HL336_0.out);have n3_:=am (Kd.V_at hq_ HL337_0.out);have n4_:=am (Kd.V_at hq_ HL339_0.out);have n5_:=am (blk_at hq_ BK321.out);have n6_:=am (blk_at hq_ BK322.out);have n7_:=am (blk_at hq_ BK332.out);have n8_:=am (Kd.C_at hq_ HR336_0.out);have n9_:=am (Kd.C_at hq_ HR337_0.out);have n10_:=am (Kd.C_at hq_ HR339_0.out);have n11_:=am (below_at hq_ HB.out);clear hq_ HO_6 HO_333001 HL336_0 HL337_0 HL339_0 BK321 BK322 BK332 HR336_0 HR337_0 HR339_0 HB;have HO_6:=n0_;have HO_333001:=n1_;have HL336_0:=n2_;have HL337_0:=n3_;have HL339_0:=n4_;have BK321:=n5_;have BK322:=n6_;have BK332:=n7_;have HR336_0:=n8_;have HR337_0:=n9_;have HR339_0:=n10_;have HB:=n11_;clear n0_ n1_ n2_ n3_ n4_ n5_ n6_ n7_ n8_ n9_ n10_ n11_))
                  have n0_:=am (Kd.R_drew HO_6.out)
                  have n1_:=am (Kd.N_drew HO_333001.out)
                  have n2_:=am (Kd.V_drew HL336_0.out)
                  have n3_:=am (Kd.V_drew HL337_0.out)
                  have n4_:=am (Kd.V_drew HL339_0.out)
                  have n5_:=am (blk_drew BK321.out)
                  have n6_:=am (blk_drew BK322.out)
                  have n7_:=am (blk_drew BK332.out)
                  have n8_:=am (Kd.C_drew HR336_0.out)
                  have n9_:=am (Kd.C_drew HR337_0.out)
                  have n10_:=am (Kd.C_drew HR339_0.out)
                  have n11_:=am (below_drew1 HB.out)
                  clear HO_6 HO_333001 HL336_0 HL337_0 HL339_0 BK321 BK322 BK332 HR336_0 HR337_0 HR339_0 HB
                  have HO_6:=n0_
                  have HO_333001:=n1_
                  have HL336_0:=n2_
                  have HL337_0:=n3_
                  have HL339_0:=n4_
                  have BK321:=n5_
                  have BK322:=n6_
                  have BK332:=n7_
                  have HR336_0:=n8_
                  have HR337_0:=n9_
                  have HR339_0:=n10_
                  have HB:=n11_
                  clear n0_ n1_ n2_ n3_ n4_ n5_ n6_ n7_ n8_ n9_ n10_ n11_
                  have p340:0≤(x19_1:Int):=bD_
                  have q340:x19_1 < (x333001_2.length:Int):=bD_
                  obtain⟨ad340,A340_0,c340_0,e340,hx340_0,hx340_1,hx340_2,hl340_0,hi340_0⟩:=at_T34 (Kd.N_reads' HO_333001.out).2.2 x19_1 p340 q340
                  obtain rfl:(⟨go22,0,none⟩:Addr)=ad340:=(by injection e340)
                  obtain⟨ce340,hce340,hMe340,hcc340⟩:=Kd.N_get HO_333001.out z34 x19_1 p340 (by first|exact q340|exact bD_|(have e_:=(Kd.N_reads' HO_333001.out).1;omega))
                  obtain⟨ua340_0,uc340_0,rfl,ul340_0,ge340_0⟩:=k34_openF hMe340
                  have hv340_0:=hcc340 0 _ rfl
                  rw[Nat.add_zero] at hv340_0
                  replace hv340_0:=Option.some.inj (hv340_0.symm.trans hx340_0)
                  injection hv340_0 with hva_ hvn_ hvc_
                  rw[hva_] at ge340_0
                  rw[hvc_] at ul340_0
                  have HL340_0:=am (show Kd.V (Kd.int .i64) 3 _ w.heap.size _ _ ((rd_T34 x333001_2 x19_1).f0) from Kd.V_mk ul340_0 ge340_0)
                  clear hva_ hvn_ hvc_ ge340_0 ul340_0 hcc340 hce340
                  (first|simp only[add_plain] at hx340_0|simp only[add_at] at hx340_0|simp only[Addr.add,Nat.zero_add] at hx340_0|skip)
                  (first|simp only[add_plain] at hx340_1|simp only[add_at] at hx340_1|simp only[Addr.add,Nat.zero_add] at hx340_1|skip)
                  (first|simp only[add_plain] at hx340_2|simp only[add_at] at hx340_2|simp only[Addr.add,Nat.zero_add] at hx340_2|skip)
                  have HR340_0:=am hi340_0
                  have HC340_0:=am hl340_0
                  clear hi340_0 hl340_0
                  replace p340:=eq_true p340
                  replace q340:=eq_true q340
                  have p341:0≤(x19_1:Int):=bD_
                  have q341:x19_1 < (x333001_2.length:Int):=bD_
                  obtain⟨ad341,A341_0,c341_0,e341,hx341_0,hx341_1,hx341_2,hl341_0,hi341_0⟩:=at_T34 (Kd.N_reads' HO_333001.out).2.2 x19_1 p341 q341
                  obtain rfl:(⟨go22,0,none⟩:Addr)=ad341:=(by injection e341)
                  obtain⟨ce341,hce341,hMe341,hcc341⟩:=Kd.N_get HO_333001.out z34 x19_1 p341 (by first|exact q341|exact bD_|(have e_:=(Kd.N_reads' HO_333001.out).1;omega))
                  obtain⟨ua341_0,uc341_0,rfl,ul341_0,ge341_0⟩:=k34_openF hMe341
                  have hv341_0:=hcc341 0 _ rfl
                  rw[Nat.add_zero] at hv341_0
                  replace hv341_0:=Option.some.inj (hv341_0.symm.trans hx341_0)
                  injection hv341_0 with hva_ hvn_ hvc_
                  rw[hva_] at ge341_0
                  rw[hvc_] at ul341_0
                  have HL341_0:=am (show Kd.V (Kd.int .i64) 3 _ w.heap.size _ _ ((rd_T34 x333001_2 x19_1).f0) from Kd.V_mk ul341_0 ge341_0)
                  clear hva_ hvn_ hvc_ ge341_0 ul341_0 hcc341 hce341
                  (first|simp only[add_plain] at hx341_0|simp only[add_at] at hx341_0|simp only[Addr.add,Nat.zero_add] at hx341_0|skip)
                  (first|simp only[add_plain] at hx341_1|simp only[add_at] at hx341_1|simp only[Addr.add,Nat.zero_add] at hx341_1|skip)
                  (first|simp only[add_plain] at hx341_2|simp only[add_at] at hx341_2|simp only[Addr.add,Nat.zero_add] at hx341_2|skip)
                  have HR341_0:=am hi341_0
                  have HC341_0:=am hl341_0
                  clear hi341_0 hl341_0
                  replace p341:=eq_true p341
                  replace q341:=eq_true q341
                  have ea_:=Option.some.inj (hx340_0.symm.trans hx341_0)
                  injection ea_ with ea_ en_ ec_
                  subst ea_
                  subst ec_
                  clear en_
                  have p342:0≤(0:Int):=(by omega)
                  have q342:0 < (((rd_T34 x333001_2 x19_1).f0).length:Int):=bD_
                  obtain⟨ad342,e342,hx342_0⟩:=Kd.at_int (by repeat (first|(with_reducible exact HR341_0.out)|(with_reducible refine Kd.C_alloc ?_ _)|(with_reducible refine Kd.C_drewN ?_ _)|(with_reducible refine Kd.C_drew ?_)|exact HR341_0.out)) 0 p342 q342
                  cases e342
                  have qi342:(0 < ((rd_T34 x333001_2 x19_1).f0).length)=True:=eq_true (by omega)
                  (try rw[show((0:Int)).toNat=0 from rfl] at hx342_0)
                  (try rw[Addr.add_zero'] at hx342_0)
                  replace p342:=eq_true p342
                  replace q342:=eq_true q342
                  have p38:0≤(x19_1:Int):=bD_
                  have q38:(x19_1:Int) < ((x333001_2.length:Int):Int):=bD_
                  obtain⟨ce38,hcl38,hM38,hcc38,hfr38⟩:=Kd.N_elem HO_333001.out z34 (x19_1:Int) p38 q38
                  obtain⟨ua38_0,uc38_0,rfl,ul38_0,ge38_0⟩:=k34_openF hM38
                  have hx38_0:World.cell? _ ⟨go22,(x19_1:Int).toNat * 3,none⟩=some (.slice ua38_0 ((rd_T34 x333001_2 x19_1).f0).length uc38_0):=hcc38 0 _ rfl
                  have hx38_1:World.cell? _ ⟨go22,(x19_1:Int).toNat * 3+1,none⟩=some (.int .i64 ((rd_T34 x333001_2 x19_1).f1)):=hcc38 1 _ rfl
                  have hx38_2:World.cell? _ ⟨go22,(x19_1:Int).toNat * 3+2,none⟩=some (.int .i64 ((rd_T34 x333001_2 x19_1).f2)):=hcc38 2 _ rfl
                  have hf38_0:World.frozen? _ ⟨go22,(x19_1:Int).toNat * 3,none⟩=false:=hfr38 0
                  have hf38_1:World.frozen? _ ⟨go22,(x19_1:Int).toNat * 3+1,none⟩=false:=hfr38 1
                  have hf38_2:World.frozen? _ ⟨go22,(x19_1:Int).toNat * 3+2,none⟩=false:=hfr38 2
                  clear hcl38 hcc38 hfr38 hM38
                  replace p38:=eq_true p38
                  replace q38:=eq_true q38
                  have HX46:=am (show Kd.N k34 34 _ w.heap.size (fun k_=>(w.heap.size≤k_)∧some k_≠(u6:Value).ownBlock∧k_≠gb321∧k_≠gb322∧k_≠gb332) (.slice (some ⟨go22,0,none⟩) x333001_2.length co18) x333001_2 from (Kd.N_mono (HO_333001.out) (fun k_ hk=>⟨hk.1,⟨hk.2.1,⟨hk.2.2.1,⟨hk.2.2.2.1,hk.2.2.2.2⟩⟩⟩⟩)))
                  obtain⟨ce46,hcl46,hM46,hcc46,hfr46⟩:=Kd.N_elem HX46.out z34 (x19_1:Int) (bD_) (by have h_:(x19_1:Int) < ((x333001_2.length:Int):Int):=bD_;first|exact h_|(have e_:=(Kd.N_reads' HO_333001.out).1;omega)|simpa using h_)
                  obtain⟨ua46_0,uc46_0,rfl,ul46_0,ge46_0⟩:=k34_openF hM46
                  have HP46:=(Kd.N_seg HX46.out (x19_1:Int) (bD_) (by have h_:(x19_1:Int) < ((x333001_2.length:Int):Int):=bD_;first|exact h_|(have e_:=(Kd.N_reads' HO_333001.out).1;omega)|simpa using h_) (seg:=[.int .i64 (wrap64 (((rd_T34 x333001_2 x19_1).f1) - (rd ((rd_T34 x333001_2 x19_1).f0) 0)))]) (j:=1) hcl46 hcc46 (show 2≤3 from by decide) (x':=(⟨(rd_T34 x333001_2 x19_1).f0,wrap64 (((rd_T34 x333001_2 x19_1).f1) - (rd ((rd_T34 x333001_2 x19_1).f0) 0)),(rd_T34 x333001_2 x19_1).f2⟩:S34)) (k34_mkF _ _ (⟨(rd_T34 x333001_2 x19_1).f0,wrap64 (((rd_T34 x333001_2 x19_1).f1) - (rd ((rd_T34 x333001_2 x19_1).f0) 0)),(rd_T34 x333001_2 x19_1).f2⟩:S34) ul46_0 ge46_0) (fun _ hk=>hk)).1
                  rw[← Ny343.out] at HP46
                  have HQ46:=am HP46
                  clear hcl46 hcc46 hfr46 hM46 HP46
                  refine start_ (n:=14) (S:=fun w'=>w'.cell? ⟨go22,(x19_1).toNat * 3,none⟩=some (.slice (some ad342) ((rd_T34 x333001_2 x19_1).f0).length c340_0)∧w'.cell? ⟨go22,(x19_1).toNat * 3+1,none⟩=some (.int .i64 ((rd_T34 x333001_2 x19_1).f1))∧w'.cell? ⟨go22,(x19_1).toNat * 3+2,none⟩=some (.int .i64 ((rd_T34 x333001_2 x19_1).f2))∧w'.cell? ⟨go22,(x19_1).toNat * 3,none⟩=some (.slice (some ad342) ((rd_T34 x333001_2 x19_1).f0).length c340_0)∧w'.cell? ⟨go22,(x19_1).toNat * 3+1,none⟩=some (.int .i64 ((rd_T34 x333001_2 x19_1).f1))∧w'.cell? ⟨go22,(x19_1).toNat * 3+2,none⟩=some (.int .i64 ((rd_T34 x333001_2 x19_1).f2))∧w'.cell? ad342=some (.int .i64 (rd ((rd_T34 x333001_2 x19_1).f0) 0))) (ds:=[13]) #[false,false,false,false,false,false,false,false,false,false,false,false,false,false] (by kernel_rfl) rfl rfl ⟨hx340_0,hx340_1,hx340_2,hx341_0,hx341_1,hx341_2,hx342_0⟩ (fun hHeld => ?_);refine with_tabW impl_NextRound.tab11 impl_NextRound.bits11 (fun HT_ HW_ => ?_)
                  generalize w44.drew=w45 at HO_6 HO_333001 HL336_0 HL337_0 HL339_0 BK321 BK322 BK332 HR336_0 HR337_0 HR339_0 HB HL340_0 HL341_0 HQ46 HR340_0 HR341_0 hf38_0 hf38_1 hf38_2 hx340_0 hx340_1 hx340_2 hx341_0 hx341_1 hx341_2 hx342_0 hx38_0 hx38_1 hx38_2 hHeld ⊢
                  refine pS HT_ 0 60 ?_;refine pS HT_ 1 61 ?_;refine pS HT_ 2 62 ?_;refine pS HT_ 4 64 ?_;refine pS HT_ 5 65 ?_;refine pS HT_ 6 66 ?_;refine tS HT_ HW_ hHeld 3 63 ?_;refine tS HT_ HW_ hHeld 7 67 ?_;refine pS HT_ 8 68 ?_;refine tS HT_ HW_ hHeld 9 69 ?_;refine pS HT_ 10 70 ?_;refine pS HT_ 11 71 ?_;refine pS HT_ 12 72 ?_
                  refine last_ (i:=13) (N:=none) #[true,true,true,true,true,true,true,true,true,true,true,true,true,true] rfl rfl (one_of HT_.out (by kernel_rfl)) (by decide) (fun K hK => ?_)
                  refine skip_ (w1:=?_) (by rfl) rfl ?_ ?_
                  rotate_left
                  ·go_simp
                   rfl
                  refine hK.out _ _ ?_
                  clear hK K
                  refine done_ (done_of HT_.out (by kernel_rfl)) ?_
                  try go_wp2
                  have n0_:Aside0 (Kd.R (Kd.int .i64) 3 (w45.setCell ⟨go22,(x19_1:Int).toNat * 3+1,none⟩ (.int .i64 (wrap64 (((rd_T34 x333001_2 x19_1).f1) - (rd ((rd_T34 x333001_2 x19_1).f0) 0))))) w.heap.size (fun k_=>(w.heap.size≤k_)) u6 x6_2):=⟨by(with_reducible repeat (first|apply Kd.R_alloc|apply Kd.R_drewN|apply Kd.R_drew));exact Kd.R_mono (Kd.R_far (p:=⟨go22,(x19_1:Int).toNat * 3+1,none⟩) (Kd.R_types HO_6.out (by first|exact GG22.out|exact(Kd.N_typed HO_333001.out _ rfl).choose_spec) (by decide)) (fun _ hk=>hk.2) (.int .i64 (wrap64 (((rd_T34 x333001_2 x19_1).f1) - (rd ((rd_T34 x333001_2 x19_1).f0) 0))))) (fun _ hk=>hk.1)⟩
                  have n1_:Aside0 (Kd.N k34 34 (w45.setCell ⟨go22,(x19_1:Int).toNat * 3+1,none⟩ (.int .i64 (wrap64 (((rd_T34 x333001_2 x19_1).f1) - (rd ((rd_T34 x333001_2 x19_1).f0) 0))))) w.heap.size (fun k_=>(w.heap.size≤k_)∧some k_≠(u6:Value).ownBlock∧k_≠gb321∧k_≠gb322∧k_≠gb332) (.slice (some ⟨go22,0,none⟩) x333001_2.length co18) y343):=⟨by(with_reducible repeat (first|apply Kd.N_alloc|apply Kd.N_drewN|apply Kd.N_drew));exact HQ46.out⟩
                  have n2_:Aside0 (Kd.V (Kd.int .i64) 3 (w45.setCell ⟨go22,(x19_1:Int).toNat * 3+1,none⟩ (.int .i64 (wrap64 (((rd_T34 x333001_2 x19_1).f1) - (rd ((rd_T34 x333001_2 x19_1).f0) 0))))) w.heap.size (fun k_=>(w.heap.size≤k_)∧some k_≠(u6:Value).ownBlock∧some k_≠(.slice (some ⟨go22,0,none⟩) x333001_2.length co18:Value).ownBlock∧k_≠gb321∧k_≠gb322∧k_≠gb332) (.slice (some ad338) ((rd_T34 x333001_2 x19_1).f0).length c336_0) ((rd_T34 x333001_2 x19_1).f0)):=⟨by(with_reducible repeat (first|apply Kd.V_alloc|apply Kd.V_drewN|apply Kd.V_drew));exact Kd.V_mono (Kd.V_far (p:=⟨go22,(x19_1:Int).toNat * 3+1,none⟩) (Kd.V_mono HL336_0.out (fun k_ hk=>(⟨hk,fun e_=>hk.2 (by rw[e_];rfl)⟩:_∧k_≠go22))) (fun _ hk=>hk.2) (.int .i64 (wrap64 (((rd_T34 x333001_2 x19_1).f1) - (rd ((rd_T34 x333001_2 x19_1).f0) 0))))) (fun _ hk=>⟨hk.1.1.1,⟨hk.1.1.2.1,⟨hk.1.2,⟨hk.1.1.2.2.1,⟨hk.1.1.2.2.2.1,hk.1.1.2.2.2.2⟩⟩⟩⟩⟩)⟩
                  have n3_:Aside0 (Kd.V (Kd.int .i64) 3 (w45.setCell ⟨go22,(x19_1:Int).toNat * 3+1,none⟩ (.int .i64 (wrap64 (((rd_T34 x333001_2 x19_1).f1) - (rd ((rd_T34 x333001_2 x19_1).f0) 0))))) w.heap.size (fun k_=>(w.heap.size≤k_)∧some k_≠(u6:Value).ownBlock∧some k_≠(.slice (some ⟨go22,0,none⟩) x333001_2.length co18:Value).ownBlock∧k_≠gb321∧k_≠gb322∧k_≠gb332) (.slice (some ad338) ((rd_T34 x333001_2 x19_1).f0).length c336_0) ((rd_T34 x333001_2 x19_1).f0)):=⟨by(with_reducible repeat (first|apply Kd.V_alloc|apply Kd.V_drewN|apply Kd.V_drew));exact Kd.V_mono (Kd.V_far (p:=⟨go22,(x19_1:Int).toNat * 3+1,none⟩) (Kd.V_mono HL337_0.out (fun k_ hk=>(⟨hk,fun e_=>hk.2 (by rw[e_];rfl)⟩:_∧k_≠go22))) (fun _ hk=>hk.2) (.int .i64 (wrap64 (((rd_T34 x333001_2 x19_1).f1) - (rd ((rd_T34 x333001_2 x19_1).f0) 0))))) (fun _ hk=>⟨hk.1.1.1,⟨hk.1.1.2.1,⟨hk.1.2,⟨hk.1.1.2.2.1,⟨hk.1.1.2.2.2.1,hk.1.1.2.2.2.2⟩⟩⟩⟩⟩)⟩
                  have n4_:Aside0 (Kd.V (Kd.int .i64) 3 (w45.setCell ⟨go22,(x19_1:Int).toNat * 3+1,none⟩ (.int .i64 (wrap64 (((rd_T34 x333001_2 x19_1).f1) - (rd ((rd_T34 x333001_2 x19_1).f0) 0))))) w.heap.size (fun k_=>(w.heap.size≤k_)∧some k_≠(u6:Value).ownBlock∧some k_≠(.slice (some ⟨go22,0,none⟩) x333001_2.length co18:Value).ownBlock∧k_≠gb321∧k_≠gb322∧k_≠gb332) (.slice (some ad338) ((rd_T34 x333001_2 x19_1).f0).length c336_0) ((rd_T34 x333001_2 x19_1).f0)):=⟨by(with_reducible repeat (first|apply Kd.V_alloc|apply Kd.V_drewN|apply Kd.V_drew));exact Kd.V_mono (Kd.V_far (p:=⟨go22,(x19_1:Int).toNat * 3+1,none⟩) (Kd.V_mono HL339_0.out (fun k_ hk=>(⟨hk,fun e_=>hk.2 (by rw[e_];rfl)⟩:_∧k_≠go22))) (fun _ hk=>hk.2) (.int .i64 (wrap64 (((rd_T34 x333001_2 x19_1).f1) - (rd ((rd_T34 x333001_2 x19_1).f0) 0))))) (fun _ hk=>⟨hk.1.1.1,⟨hk.1.1.2.1,⟨hk.1.2,⟨hk.1.1.2.2.1,⟨hk.1.1.2.2.2.1,hk.1.1.2.2.2.2⟩⟩⟩⟩⟩)⟩
                  have n5_:Aside0 (Kd.V (Kd.int .i64) 3 (w45.setCell ⟨go22,(x19_1:Int).toNat * 3+1,none⟩ (.int .i64 (wrap64 (((rd_T34 x333001_2 x19_1).f1) - (rd ((rd_T34 x333001_2 x19_1).f0) 0))))) w.heap.size (fun k_=>(w.heap.size≤k_)∧some k_≠(u6:Value).ownBlock∧some k_≠(.slice (some ⟨go22,0,none⟩) x333001_2.length co18:Value).ownBlock∧k_≠gb321∧k_≠gb322∧k_≠gb332) (.slice (some ad342) ((rd_T34 x333001_2 x19_1).f0).length c340_0) ((rd_T34 x333001_2 x19_1).f0)):=⟨by(with_reducible repeat (first|apply Kd.V_alloc|apply Kd.V_drewN|apply Kd.V_drew));exact Kd.V_mono (Kd.V_far (p:=⟨go22,(x19_1:Int).toNat * 3+1,none⟩) (Kd.V_mono HL340_0.out (fun k_ hk=>(⟨hk,fun e_=>hk.2 (by rw[e_];rfl)⟩:_∧k_≠go22))) (fun _ hk=>hk.2) (.int .i64 (wrap64 (((rd_T34 x333001_2 x19_1).f1) - (rd ((rd_T34 x333001_2 x19_1).f0) 0))))) (fun _ hk=>⟨hk.1.1.1,⟨hk.1.1.2.1,⟨hk.1.2,⟨hk.1.1.2.2.1,⟨hk.1.1.2.2.2.1,hk.1.1.2.2.2.2⟩⟩⟩⟩⟩)⟩
                  have n6_:Aside0 (Kd.V (Kd.int .i64) 3 (w45.setCell ⟨go22,(x19_1:Int).toNat * 3+1,none⟩ (.int .i64 (wrap64 (((rd_T34 x333001_2 x19_1).f1) - (rd ((rd_T34 x333001_2 x19_1).f0) 0))))) w.heap.size (fun k_=>(w.heap.size≤k_)∧some k_≠(u6:Value).ownBlock∧some k_≠(.slice (some ⟨go22,0,none⟩) x333001_2.length co18:Value).ownBlock∧k_≠gb321∧k_≠gb322∧k_≠gb332) (.slice (some ad342) ((rd_T34 x333001_2 x19_1).f0).length c340_0) ((rd_T34 x333001_2 x19_1).f0)):=⟨by(with_reducible repeat (first|apply Kd.V_alloc|apply Kd.V_drewN|apply Kd.V_drew));exact Kd.V_mono (Kd.V_far (p:=⟨go22,(x19_1:Int).toNat * 3+1,none⟩) (Kd.V_mono HL341_0.out (fun k_ hk=>(⟨hk,fun e_=>hk.2 (by rw[e_];rfl)⟩:_∧k_≠go22))) (fun _ hk=>hk.2) (.int .i64 (wrap64 (((rd_T34 x333001_2 x19_1).f1) - (rd ((rd_T34 x333001_2 x19_1).f0) 0))))) (fun _ hk=>⟨hk.1.1.1,⟨hk.1.1.2.1,⟨hk.1.2,⟨hk.1.1.2.2.1,⟨hk.1.1.2.2.2.1,hk.1.1.2.2.2.2⟩⟩⟩⟩⟩)⟩
                  have n7_:Aside0 ((w45.setCell ⟨go22,(x19_1:Int).toNat * 3+1,none⟩ (.int .i64 (wrap64 (((rd_T34 x333001_2 x19_1).f1) - (rd ((rd_T34 x333001_2 x19_1).f0) 0))))).heap[gb321]?=some (.cells #[.int .i64 a0_0,.slice A0_1 l0_1.length c0_1,.int .i64 a0_2] 25 (0,0))):=⟨by(with_reducible repeat (first|refine blk_drewN ?_ _|refine blk_drew ?_|refine blk_alloc ?_ _));refine blk_far ?_ (by have h_:=Kd.N_away HO_333001.out (fun _ hk=>hk.2.2.1);intro e_;exact h_ (by rw[e_];rfl)) _;(with_reducible repeat (first|refine blk_drewN ?_ _|refine blk_drew ?_|refine blk_alloc ?_ _));exact BK321.out⟩
                  have n8_:Aside0 ((w45.setCell ⟨go22,(x19_1:Int).toNat * 3+1,none⟩ (.int .i64 (wrap64 (((rd_T34 x333001_2 x19_1).f1) - (rd ((rd_T34 x333001_2 x19_1).f0) 0))))).heap[gb322]?=some (.cells #[.int .i64 0,.slice none 0 0,.int .i64 0] 25 (0,0))):=⟨by(with_reducible repeat (first|refine blk_drewN ?_ _|refine blk_drew ?_|refine blk_alloc ?_ _));refine blk_far ?_ (by have h_:=Kd.N_away HO_333001.out (fun _ hk=>hk.2.2.2.1);intro e_;exact h_ (by rw[e_];rfl)) _;(with_reducible repeat (first|refine blk_drewN ?_ _|refine blk_drew ?_|refine blk_alloc ?_ _));exact BK322.out⟩
                  have n9_:Aside0 ((w45.setCell ⟨go22,(x19_1:Int).toNat * 3+1,none⟩ (.int .i64 (wrap64 (((rd_T34 x333001_2 x19_1).f1) - (rd ((rd_T34 x333001_2 x19_1).f0) 0))))).heap[gb332]?=some (.cells #[.int .i64 t324,.slice (some ⟨go22,0,none⟩) x333001_2.length co18,.int .i64 t328] 25 (0,0))):=⟨by(with_reducible repeat (first|refine blk_drewN ?_ _|refine blk_drew ?_|refine blk_alloc ?_ _));refine blk_far ?_ (by have h_:=Kd.N_away HO_333001.out (fun _ hk=>hk.2.2.2.2);intro e_;exact h_ (by rw[e_];rfl)) _;(with_reducible repeat (first|refine blk_drewN ?_ _|refine blk_drew ?_|refine blk_alloc ?_ _));exact BK332.out⟩
                  have n10_:Aside0 (Below w.heap.size w (w45.setCell ⟨go22,(x19_1:Int).toNat * 3+1,none⟩ (.int .i64 (wrap64 (((rd_T34 x333001_2 x19_1).f1) - (rd ((rd_T34 x333001_2 x19_1).f0) 0)))))):=⟨bS4 GB22.out GE321.out GE322.out GE332.out⟩
                  (try clear HO_6)
                  (try clear HO_333001)
                  (try clear HL336_0)
                  (try clear HL337_0)
                  (try clear HL339_0)
                  (try clear HL340_0)
                  (try clear HL341_0)
                  (try clear BK321)
                  (try clear BK322)
                  (try clear BK332)
                  (try clear HB)
                  generalize (w45.setCell ⟨go22,(x19_1:Int).toNat * 3+1,none⟩ (.int .i64 (wrap64 (((rd_T34 x333001_2 x19_1).f1) - (rd ((rd_T34 x333001_2 x19_1).f0) 0)))))=w47 at n0_ n1_ n2_ n3_ n4_ n5_ n6_ n7_ n8_ n9_ n10_ ⊢
                  have HO_6:=n0_
                  have HO_333001:=n1_
                  have HL336_0:=n2_
                  have HL337_0:=n3_
                  have HL339_0:=n4_
                  have HL340_0:=n5_
                  have HL341_0:=n6_
                  have BK321:=n7_
                  have BK322:=n8_
                  have BK332:=n9_
                  have HB:=n10_
                  clear n0_ n1_ n2_ n3_ n4_ n5_ n6_ n7_ n8_ n9_ n10_
                  (try (rw[drewN_self w47];generalize hq_:World.drewN w47 _=w47;have n0_:=am (Kd.R_at hq_ HO_6.out);have n1_:=am (Kd.N_at hq_ HO_333001.out);have n2_:=am (Kd.V_at hq_ HL336_0.out);have n3_:=am (Kd.V_at hq_ HL337_0.out);have n4_:=am (Kd.V_at hq_ HL339_0.out);have n5_:=am (Kd.V_at hq_ HL340_0.out);have n6_:=am (Kd.V_at hq_ HL341_0.out);have n7_:=am (blk_at hq_ BK321.out);have n8_:=am (blk_at hq_ BK322.out);have n9_:=am (blk_at hq_ BK332.out);have n10_:=am (below_at hq_ HB.out);clear hq_ HO_6 HO_333001 HL336_0 HL337_0 HL339_0 HL340_0 HL341_0 BK321 BK322 BK332 HB;have HO_6:=n0_;have HO_333001:=n1_;have HL336_0:=n2_;have HL337_0:=n3_;have HL339_0:=n4_;have HL340_0:=n5_;have HL341_0:=n6_;have BK321:=n7_;have BK322:=n8_;have BK332:=n9_;have HB:=n10_;clear n0_ n1_ n2_ n3_ n4_ n5_ n6_ n7_ n8_ n9_ n10_))
                  have n0_:=am (Kd.R_drew HO_6.out)
                  have n1_:=am (Kd.N_drew HO_333001.out)
                  have n2_:=am (Kd.V_drew HL336_0.out)
                  have n3_:=am (Kd.V_drew HL337_0.out)
                  have n4_:=am (Kd.V_drew HL339_0.out)
                  have n5_:=am (Kd.V_drew HL340_0.out)
                  have n6_:=am (Kd.V_drew HL341_0.out)
                  have n7_:=am (blk_drew BK321.out)
                  have n8_:=am (blk_drew BK322.out)
                  have n9_:=am (blk_drew BK332.out)
                  have n10_:=am (below_drew1 HB.out)
                  clear HO_6 HO_333001 HL336_0 HL337_0 HL339_0 HL340_0 HL341_0 BK321 BK322 BK332 HB
                  have HO_6:=n0_
                  have HO_333001:=n1_
                  have HL336_0:=n2_
                  have HL337_0:=n3_
                  have HL339_0:=n4_
                  have HL340_0:=n5_
                  have HL341_0:=n6_
                  have BK321:=n7_
                  have BK322:=n8_
                  have BK332:=n9_
                  have HB:=n10_
                  clear n0_ n1_ n2_ n3_ n4_ n5_ n6_ n7_ n8_ n9_ n10_
                  have p344:0≤(x19_1:Int):=bD_
                  have q344:x19_1 < (y343.length:Int):=(by have h_:(x19_1:Int) < ((x333001_2.length:Int):Int):=bD_;first|(have e_:=(Kd.N_reads' HO_333001.out).1;omega)|simpa only[Ny343.out,List.length_set] using h_)
                  have ql344:((x19_1:Int) < ((x333001_2.length:Int):Int))=True:=eq_true (bD_)
                  obtain⟨ad344,A344_0,c344_0,e344,hx344_0,hx344_1,hx344_2,hl344_0,hi344_0⟩:=at_T34 (Kd.N_reads' HO_333001.out).2.2 x19_1 p344 q344
                  obtain rfl:(⟨go22,0,none⟩:Addr)=ad344:=(by injection e344)
                  obtain⟨ce344,hce344,hMe344,hcc344⟩:=Kd.N_get HO_333001.out z34 x19_1 p344 (by first|exact q344|exact bD_|(have e_:=(Kd.N_reads' HO_333001.out).1;omega))
                  obtain⟨ua344_0,uc344_0,rfl,ul344_0,ge344_0⟩:=k34_openF hMe344
                  have hv344_0:=hcc344 0 _ rfl
                  rw[Nat.add_zero] at hv344_0
                  replace hv344_0:=Option.some.inj (hv344_0.symm.trans hx344_0)
                  injection hv344_0 with hva_ hvn_ hvc_
                  rw[hva_] at ge344_0
                  rw[hvc_] at ul344_0
                  have HL344_0:=am (show Kd.V (Kd.int .i64) 3 _ w.heap.size _ _ ((rd_T34 y343 x19_1).f0) from Kd.V_mk ul344_0 ge344_0)
                  clear hva_ hvn_ hvc_ ge344_0 ul344_0 hcc344 hce344
                  (first|simp only[add_plain] at hx344_0|simp only[add_at] at hx344_0|simp only[Addr.add,Nat.zero_add] at hx344_0|skip)
                  (first|simp only[add_plain] at hx344_1|simp only[add_at] at hx344_1|simp only[Addr.add,Nat.zero_add] at hx344_1|skip)
                  (first|simp only[add_plain] at hx344_2|simp only[add_at] at hx344_2|simp only[Addr.add,Nat.zero_add] at hx344_2|skip)
                  have HR344_0:=am hi344_0
                  have HC344_0:=am hl344_0
                  clear hi344_0 hl344_0
                  replace p344:=eq_true p344
                  replace q344:=eq_true q344
                  have p345:0≤(x19_1:Int):=bD_
                  have q345:x19_1 < (y343.length:Int):=(by have h_:(x19_1:Int) < ((x333001_2.length:Int):Int):=bD_;first|(have e_:=(Kd.N_reads' HO_333001.out).1;omega)|simpa only[Ny343.out,List.length_set] using h_)
                  have ql345:((x19_1:Int) < ((x333001_2.length:Int):Int))=True:=eq_true (bD_)
                  obtain⟨ad345,A345_0,c345_0,e345,hx345_0,hx345_1,hx345_2,hl345_0,hi345_0⟩:=at_T34 (Kd.N_reads' HO_333001.out).2.2 x19_1 p345 q345
                  obtain rfl:(⟨go22,0,none⟩:Addr)=ad345:=(by injection e345)
                  obtain⟨ce345,hce345,hMe345,hcc345⟩:=Kd.N_get HO_333001.out z34 x19_1 p345 (by first|exact q345|exact bD_|(have e_:=(Kd.N_reads' HO_333001.out).1;omega))
                  obtain⟨ua345_0,uc345_0,rfl,ul345_0,ge345_0⟩:=k34_openF hMe345
                  have hv345_0:=hcc345 0 _ rfl
                  rw[Nat.add_zero] at hv345_0
                  replace hv345_0:=Option.some.inj (hv345_0.symm.trans hx345_0)
                  injection hv345_0 with hva_ hvn_ hvc_
                  rw[hva_] at ge345_0
                  rw[hvc_] at ul345_0
                  have HL345_0:=am (show Kd.V (Kd.int .i64) 3 _ w.heap.size _ _ ((rd_T34 y343 x19_1).f0) from Kd.V_mk ul345_0 ge345_0)
                  clear hva_ hvn_ hvc_ ge345_0 ul345_0 hcc345 hce345
                  (first|simp only[add_plain] at hx345_0|simp only[add_at] at hx345_0|simp only[Addr.add,Nat.zero_add] at hx345_0|skip)
                  (first|simp only[add_plain] at hx345_1|simp only[add_at] at hx345_1|simp only[Addr.add,Nat.zero_add] at hx345_1|skip)
                  (first|simp only[add_plain] at hx345_2|simp only[add_at] at hx345_2|simp only[Addr.add,Nat.zero_add] at hx345_2|skip)
                  have HR345_0:=am hi345_0
                  have HC345_0:=am hl345_0
                  clear hi345_0 hl345_0
                  replace p345:=eq_true p345
                  replace q345:=eq_true q345
                  have ea_:=Option.some.inj (hx344_0.symm.trans hx345_0)
                  injection ea_ with ea_ en_ ec_
                  subst ea_
                  subst ec_
                  clear en_
                  have p346:0≤(0:Int):=(by omega)
                  have q346:0 < (((rd_T34 y343 x19_1).f0).length:Int):=bD_
                  obtain⟨ad346,e346,hx346_0⟩:=Kd.at_int (by repeat (first|(with_reducible exact HR345_0.out)|(with_reducible refine Kd.C_alloc ?_ _)|(with_reducible refine Kd.C_drewN ?_ _)|(with_reducible refine Kd.C_drew ?_)|exact HR345_0.out)) 0 p346 q346
                  cases e346
                  have qi346:(0 < ((rd_T34 y343 x19_1).f0).length)=True:=eq_true (by omega)
                  (try rw[show((0:Int)).toNat=0 from rfl] at hx346_0)
                  (try rw[Addr.add_zero'] at hx346_0)
                  replace p346:=eq_true p346
                  replace q346:=eq_true q346
                  have p40:0≤(x19_1:Int):=bD_
                  have q40:(x19_1:Int) < ((x333001_2.length:Int):Int):=bD_
                  obtain⟨ce40,hcl40,hM40,hcc40,hfr40⟩:=Kd.N_elem HO_333001.out z34 (x19_1:Int) p40 q40
                  obtain⟨ua40_0,uc40_0,rfl,ul40_0,ge40_0⟩:=k34_openF hM40
                  have hx40_0:World.cell? _ ⟨go22,(x19_1:Int).toNat * 3,none⟩=some (.slice ua40_0 ((rd_T34 y343 x19_1).f0).length uc40_0):=hcc40 0 _ rfl
                  have hx40_1:World.cell? _ ⟨go22,(x19_1:Int).toNat * 3+1,none⟩=some (.int .i64 ((rd_T34 y343 x19_1).f1)):=hcc40 1 _ rfl
                  have hx40_2:World.cell? _ ⟨go22,(x19_1:Int).toNat * 3+2,none⟩=some (.int .i64 ((rd_T34 y343 x19_1).f2)):=hcc40 2 _ rfl
                  have hf40_0:World.frozen? _ ⟨go22,(x19_1:Int).toNat * 3,none⟩=false:=hfr40 0
                  have hf40_1:World.frozen? _ ⟨go22,(x19_1:Int).toNat * 3+1,none⟩=false:=hfr40 1
                  have hf40_2:World.frozen? _ ⟨go22,(x19_1:Int).toNat * 3+2,none⟩=false:=hfr40 2
                  clear hcl40 hcc40 hfr40 hM40
                  replace p40:=eq_true p40
                  replace q40:=eq_true q40
                  have HX49:=am (show Kd.N k34 34 _ w.heap.size (fun k_=>(w.heap.size≤k_)∧some k_≠(u6:Value).ownBlock∧k_≠gb321∧k_≠gb322∧k_≠gb332) (.slice (some ⟨go22,0,none⟩) x333001_2.length co18) y343 from (Kd.N_mono (HO_333001.out) (fun k_ hk=>⟨hk.1,⟨hk.2.1,⟨hk.2.2.1,⟨hk.2.2.2.1,hk.2.2.2.2⟩⟩⟩⟩)))
                  obtain⟨ce49,hcl49,hM49,hcc49,hfr49⟩:=Kd.N_elem HX49.out z34 (x19_1:Int) (bD_) (by have h_:(x19_1:Int) < ((x333001_2.length:Int):Int):=bD_;first|exact h_|(have e_:=(Kd.N_reads' HO_333001.out).1;omega)|simpa using h_)
                  obtain⟨ua49_0,uc49_0,rfl,ul49_0,ge49_0⟩:=k34_openF hM49
                  have HP49:=(Kd.N_seg HX49.out (x19_1:Int) (bD_) (by have h_:(x19_1:Int) < ((x333001_2.length:Int):Int):=bD_;first|exact h_|(have e_:=(Kd.N_reads' HO_333001.out).1;omega)|simpa using h_) (seg:=[.int .i64 (wrap64 (((rd_T34 y343 x19_1).f2)+(rd ((rd_T34 y343 x19_1).f0) 0)))]) (j:=2) hcl49 hcc49 (show 3≤3 from by decide) (x':=(⟨(rd_T34 y343 x19_1).f0,(rd_T34 y343 x19_1).f1,wrap64 (((rd_T34 y343 x19_1).f2)+(rd ((rd_T34 y343 x19_1).f0) 0))⟩:S34)) (k34_mkF _ _ (⟨(rd_T34 y343 x19_1).f0,(rd_T34 y343 x19_1).f1,wrap64 (((rd_T34 y343 x19_1).f2)+(rd ((rd_T34 y343 x19_1).f0) 0))⟩:S34) ul49_0 ge49_0) (fun _ hk=>hk)).1
                  rw[← Ny347.out] at HP49
                  have HQ49:=am HP49
                  clear hcl49 hcc49 hfr49 hM49 HP49
                  refine start_ (n:=14) (S:=fun w'=>w'.cell? ⟨go22,(x19_1).toNat * 3,none⟩=some (.slice (some ad346) ((rd_T34 y343 x19_1).f0).length c344_0)∧w'.cell? ⟨go22,(x19_1).toNat * 3+1,none⟩=some (.int .i64 ((rd_T34 y343 x19_1).f1))∧w'.cell? ⟨go22,(x19_1).toNat * 3+2,none⟩=some (.int .i64 ((rd_T34 y343 x19_1).f2))∧w'.cell? ⟨go22,(x19_1).toNat * 3,none⟩=some (.slice (some ad346) ((rd_T34 y343 x19_1).f0).length c344_0)∧w'.cell? ⟨go22,(x19_1).toNat * 3+1,none⟩=some (.int .i64 ((rd_T34 y343 x19_1).f1))∧w'.cell? ⟨go22,(x19_1).toNat * 3+2,none⟩=some (.int .i64 ((rd_T34 y343 x19_1).f2))∧w'.cell? ad346=some (.int .i64 (rd ((rd_T34 y343 x19_1).f0) 0))) (ds:=[13]) #[false,false,false,false,false,false,false,false,false,false,false,false,false,false] (by kernel_rfl) rfl rfl ⟨hx344_0,hx344_1,hx344_2,hx345_0,hx345_1,hx345_2,hx346_0⟩ (fun hHeld => ?_);refine with_tabW impl_NextRound.tab12 impl_NextRound.bits12 (fun HT_ HW_ => ?_)
                  generalize w47.drew=w48 at HO_6 HO_333001 HL336_0 HL337_0 HL339_0 HL340_0 HL341_0 BK321 BK322 BK332 HB HL344_0 HL345_0 HQ46 HQ49 HR344_0 HR345_0 hf40_0 hf40_1 hf40_2 hx344_0 hx344_1 hx344_2 hx345_0 hx345_1 hx345_2 hx346_0 hx40_0 hx40_1 hx40_2 hHeld ⊢
                  refine pS HT_ 0 73 ?_;refine pS HT_ 1 74 ?_;refine pS HT_ 2 75 ?_;refine pS HT_ 4 77 ?_;refine pS HT_ 5 78 ?_;refine pS HT_ 6 79 ?_;refine tS HT_ HW_ hHeld 3 76 ?_;refine tS HT_ HW_ hHeld 7 80 ?_;refine pS HT_ 8 81 ?_;refine tS HT_ HW_ hHeld 9 82 ?_;refine pS HT_ 10 83 ?_;refine pS HT_ 11 84 ?_;refine pS HT_ 12 85 ?_
                  refine last_ (i:=13) (N:=none) #[true,true,true,true,true,true,true,true,true,true,true,true,true,true] rfl rfl (one_of HT_.out (by kernel_rfl)) (by decide) (fun K hK => ?_)
                  refine skip_ (w1:=?_) (by rfl) rfl ?_ ?_
                  rotate_left
                  ·go_simp
                   rfl
                  refine hK.out _ _ ?_
                  clear hK K
                  refine done_ (done_of HT_.out (by kernel_rfl)) ?_
                  have n0_:Aside0 (Kd.R (Kd.int .i64) 3 (w48.setCell ⟨go22,(x19_1:Int).toNat * 3+2,none⟩ (.int .i64 (wrap64 (((rd_T34 y343 x19_1).f2)+(rd ((rd_T34 y343 x19_1).f0) 0))))) w.heap.size (fun k_=>(w.heap.size≤k_)) u6 x6_2):=⟨by(with_reducible repeat (first|apply Kd.R_alloc|apply Kd.R_drewN|apply Kd.R_drew));exact Kd.R_mono (Kd.R_far (p:=⟨go22,(x19_1:Int).toNat * 3+2,none⟩) (Kd.R_types HO_6.out (by first|exact GG22.out|exact(Kd.N_typed HO_333001.out _ rfl).choose_spec) (by decide)) (fun _ hk=>hk.2) (.int .i64 (wrap64 (((rd_T34 y343 x19_1).f2)+(rd ((rd_T34 y343 x19_1).f0) 0))))) (fun _ hk=>hk.1)⟩
                  have n1_:Aside0 (Kd.N k34 34 (w48.setCell ⟨go22,(x19_1:Int).toNat * 3+2,none⟩ (.int .i64 (wrap64 (((rd_T34 y343 x19_1).f2)+(rd ((rd_T34 y343 x19_1).f0) 0))))) w.heap.size (fun k_=>(w.heap.size≤k_)∧some k_≠(u6:Value).ownBlock∧k_≠gb321∧k_≠gb322∧k_≠gb332) (.slice (some ⟨go22,0,none⟩) x333001_2.length co18) y347):=⟨by(with_reducible repeat (first|apply Kd.N_alloc|apply Kd.N_drewN|apply Kd.N_drew));exact HQ49.out⟩
                  have n2_:Aside0 (Kd.V (Kd.int .i64) 3 (w48.setCell ⟨go22,(x19_1:Int).toNat * 3+2,none⟩ (.int .i64 (wrap64 (((rd_T34 y343 x19_1).f2)+(rd ((rd_T34 y343 x19_1).f0) 0))))) w.heap.size (fun k_=>(w.heap.size≤k_)∧some k_≠(u6:Value).ownBlock∧some k_≠(.slice (some ⟨go22,0,none⟩) x333001_2.length co18:Value).ownBlock∧k_≠gb321∧k_≠gb322∧k_≠gb332) (.slice (some ad338) ((rd_T34 x333001_2 x19_1).f0).length c336_0) ((rd_T34 x333001_2 x19_1).f0)):=⟨by(with_reducible repeat (first|apply Kd.V_alloc|apply Kd.V_drewN|apply Kd.V_drew));exact Kd.V_mono (Kd.V_far (p:=⟨go22,(x19_1:Int).toNat * 3+2,none⟩) (Kd.V_mono HL336_0.out (fun k_ hk=>(⟨hk,fun e_=>hk.2.2.1 (by rw[e_];rfl)⟩:_∧k_≠go22))) (fun _ hk=>hk.2) (.int .i64 (wrap64 (((rd_T34 y343 x19_1).f2)+(rd ((rd_T34 y343 x19_1).f0) 0))))) (fun _ hk=>⟨hk.1.1,⟨hk.1.2.1,⟨hk.1.2.2.1,⟨hk.1.2.2.2.1,⟨hk.1.2.2.2.2.1,hk.1.2.2.2.2.2⟩⟩⟩⟩⟩)⟩
                  have n3_:Aside0 (Kd.V (Kd.int .i64) 3 (w48.setCell ⟨go22,(x19_1:Int).toNat * 3+2,none⟩ (.int .i64 (wrap64 (((rd_T34 y343 x19_1).f2)+(rd ((rd_T34 y343 x19_1).f0) 0))))) w.heap.size (fun k_=>(w.heap.size≤k_)∧some k_≠(u6:Value).ownBlock∧some k_≠(.slice (some ⟨go22,0,none⟩) x333001_2.length co18:Value).ownBlock∧k_≠gb321∧k_≠gb322∧k_≠gb332) (.slice (some ad338) ((rd_T34 x333001_2 x19_1).f0).length c336_0) ((rd_T34 x333001_2 x19_1).f0)):=⟨by(with_reducible repeat (first|apply Kd.V_alloc|apply Kd.V_drewN|apply Kd.V_drew));exact Kd.V_mono (Kd.V_far (p:=⟨go22,(x19_1:Int).toNat * 3+2,none⟩) (Kd.V_mono HL337_0.out (fun k_ hk=>(⟨hk,fun e_=>hk.2.2.1 (by rw[e_];rfl)⟩:_∧k_≠go22))) (fun _ hk=>hk.2) (.int .i64 (wrap64 (((rd_T34 y343 x19_1).f2)+(rd ((rd_T34 y343 x19_1).f0) 0))))) (fun _ hk=>⟨hk.1.1,⟨hk.1.2.1,⟨hk.1.2.2.1,⟨hk.1.2.2.2.1,⟨hk.1.2.2.2.2.1,hk.1.2.2.2.2.2⟩⟩⟩⟩⟩)⟩
                  have n4_:Aside0 (Kd.V (Kd.int .i64) 3 (w48.setCell ⟨go22,(x19_1:Int).toNat * 3+2,none⟩ (.int .i64 (wrap64 (((rd_T34 y343 x19_1).f2)+(rd ((rd_T34 y343 x19_1).f0) 0))))) w.heap.size (fun k_=>(w.heap.size≤k_)∧some k_≠(u6:Value).ownBlock∧some k_≠(.slice (some ⟨go22,0,none⟩) x333001_2.length co18:Value).ownBlock∧k_≠gb321∧k_≠gb322∧k_≠gb332) (.slice (some ad338) ((rd_T34 x333001_2 x19_1).f0).length c336_0) ((rd_T34 x333001_2 x19_1).f0)):=⟨by(with_reducible repeat (first|apply Kd.V_alloc|apply Kd.V_drewN|apply Kd.V_drew));exact Kd.V_mono (Kd.V_far (p:=⟨go22,(x19_1:Int).toNat * 3+2,none⟩) (Kd.V_mono HL339_0.out (fun k_ hk=>(⟨hk,fun e_=>hk.2.2.1 (by rw[e_];rfl)⟩:_∧k_≠go22))) (fun _ hk=>hk.2) (.int .i64 (wrap64 (((rd_T34 y343 x19_1).f2)+(rd ((rd_T34 y343 x19_1).f0) 0))))) (fun _ hk=>⟨hk.1.1,⟨hk.1.2.1,⟨hk.1.2.2.1,⟨hk.1.2.2.2.1,⟨hk.1.2.2.2.2.1,hk.1.2.2.2.2.2⟩⟩⟩⟩⟩)⟩
                  have n5_:Aside0 (Kd.V (Kd.int .i64) 3 (w48.setCell ⟨go22,(x19_1:Int).toNat * 3+2,none⟩ (.int .i64 (wrap64 (((rd_T34 y343 x19_1).f2)+(rd ((rd_T34 y343 x19_1).f0) 0))))) w.heap.size (fun k_=>(w.heap.size≤k_)∧some k_≠(u6:Value).ownBlock∧some k_≠(.slice (some ⟨go22,0,none⟩) x333001_2.length co18:Value).ownBlock∧k_≠gb321∧k_≠gb322∧k_≠gb332) (.slice (some ad342) ((rd_T34 x333001_2 x19_1).f0).length c340_0) ((rd_T34 x333001_2 x19_1).f0)):=⟨by(with_reducible repeat (first|apply Kd.V_alloc|apply Kd.V_drewN|apply Kd.V_drew));exact Kd.V_mono (Kd.V_far (p:=⟨go22,(x19_1:Int).toNat * 3+2,none⟩) (Kd.V_mono HL340_0.out (fun k_ hk=>(⟨hk,fun e_=>hk.2.2.1 (by rw[e_];rfl)⟩:_∧k_≠go22))) (fun _ hk=>hk.2) (.int .i64 (wrap64 (((rd_T34 y343 x19_1).f2)+(rd ((rd_T34 y343 x19_1).f0) 0))))) (fun _ hk=>⟨hk.1.1,⟨hk.1.2.1,⟨hk.1.2.2.1,⟨hk.1.2.2.2.1,⟨hk.1.2.2.2.2.1,hk.1.2.2.2.2.2⟩⟩⟩⟩⟩)⟩
                  have n6_:Aside0 (Kd.V (Kd.int .i64) 3 (w48.setCell ⟨go22,(x19_1:Int).toNat * 3+2,none⟩ (.int .i64 (wrap64 (((rd_T34 y343 x19_1).f2)+(rd ((rd_T34 y343 x19_1).f0) 0))))) w.heap.size (fun k_=>(w.heap.size≤k_)∧some k_≠(u6:Value).ownBlock∧some k_≠(.slice (some ⟨go22,0,none⟩) x333001_2.length co18:Value).ownBlock∧k_≠gb321∧k_≠gb322∧k_≠gb332) (.slice (some ad342) ((rd_T34 x333001_2 x19_1).f0).length c340_0) ((rd_T34 x333001_2 x19_1).f0)):=⟨by(with_reducible repeat (first|apply Kd.V_alloc|apply Kd.V_drewN|apply Kd.V_drew));exact Kd.V_mono (Kd.V_far (p:=⟨go22,(x19_1:Int).toNat * 3+2,none⟩) (Kd.V_mono HL341_0.out (fun k_ hk=>(⟨hk,fun e_=>hk.2.2.1 (by rw[e_];rfl)⟩:_∧k_≠go22))) (fun _ hk=>hk.2) (.int .i64 (wrap64 (((rd_T34 y343 x19_1).f2)+(rd ((rd_T34 y343 x19_1).f0) 0))))) (fun _ hk=>⟨hk.1.1,⟨hk.1.2.1,⟨hk.1.2.2.1,⟨hk.1.2.2.2.1,⟨hk.1.2.2.2.2.1,hk.1.2.2.2.2.2⟩⟩⟩⟩⟩)⟩
                  have n7_:Aside0 (Kd.V (Kd.int .i64) 3 (w48.setCell ⟨go22,(x19_1:Int).toNat * 3+2,none⟩ (.int .i64 (wrap64 (((rd_T34 y343 x19_1).f2)+(rd ((rd_T34 y343 x19_1).f0) 0))))) w.heap.size (fun k_=>(w.heap.size≤k_)∧some k_≠(u6:Value).ownBlock∧some k_≠(.slice (some ⟨go22,0,none⟩) x333001_2.length co18:Value).ownBlock∧k_≠gb321∧k_≠gb322∧k_≠gb332) (.slice (some ad346) ((rd_T34 y343 x19_1).f0).length c344_0) ((rd_T34 y343 x19_1).f0)):=⟨by(with_reducible repeat (first|apply Kd.V_alloc|apply Kd.V_drewN|apply Kd.V_drew));exact Kd.V_mono (Kd.V_far (p:=⟨go22,(x19_1:Int).toNat * 3+2,none⟩) (Kd.V_mono HL344_0.out (fun k_ hk=>(⟨hk,fun e_=>hk.2 (by rw[e_];rfl)⟩:_∧k_≠go22))) (fun _ hk=>hk.2) (.int .i64 (wrap64 (((rd_T34 y343 x19_1).f2)+(rd ((rd_T34 y343 x19_1).f0) 0))))) (fun _ hk=>⟨hk.1.1.1,⟨hk.1.1.2.1,⟨hk.1.2,⟨hk.1.1.2.2.1,⟨hk.1.1.2.2.2.1,hk.1.1.2.2.2.2⟩⟩⟩⟩⟩)⟩
                  have n8_:Aside0 (Kd.V (Kd.int .i64) 3 (w48.setCell ⟨go22,(x19_1:Int).toNat * 3+2,none⟩ (.int .i64 (wrap64 (((rd_T34 y343 x19_1).f2)+(rd ((rd_T34 y343 x19_1).f0) 0))))) w.heap.size (fun k_=>(w.heap.size≤k_)∧some k_≠(u6:Value).ownBlock∧some k_≠(.slice (some ⟨go22,0,none⟩) x333001_2.length co18:Value).ownBlock∧k_≠gb321∧k_≠gb322∧k_≠gb332) (.slice (some ad346) ((rd_T34 y343 x19_1).f0).length c344_0) ((rd_T34 y343 x19_1).f0)):=⟨by(with_reducible repeat (first|apply Kd.V_alloc|apply Kd.V_drewN|apply Kd.V_drew));exact Kd.V_mono (Kd.V_far (p:=⟨go22,(x19_1:Int).toNat * 3+2,none⟩) (Kd.V_mono HL345_0.out (fun k_ hk=>(⟨hk,fun e_=>hk.2 (by rw[e_];rfl)⟩:_∧k_≠go22))) (fun _ hk=>hk.2) (.int .i64 (wrap64 (((rd_T34 y343 x19_1).f2)+(rd ((rd_T34 y343 x19_1).f0) 0))))) (fun _ hk=>⟨hk.1.1.1,⟨hk.1.1.2.1,⟨hk.1.2,⟨hk.1.1.2.2.1,⟨hk.1.1.2.2.2.1,hk.1.1.2.2.2.2⟩⟩⟩⟩⟩)⟩
                  have n9_:Aside0 ((w48.setCell ⟨go22,(x19_1:Int).toNat * 3+2,none⟩ (.int .i64 (wrap64 (((rd_T34 y343 x19_1).f2)+(rd ((rd_T34 y343 x19_1).f0) 0))))).heap[gb321]?=some (.cells #[.int .i64 a0_0,.slice A0_1 l0_1.length c0_1,.int .i64 a0_2] 25 (0,0))):=⟨by(with_reducible repeat (first|refine blk_drewN ?_ _|refine blk_drew ?_|refine blk_alloc ?_ _));refine blk_far ?_ (by have h_:=Kd.N_away HO_333001.out (fun _ hk=>hk.2.2.1);intro e_;exact h_ (by rw[e_];rfl)) _;(with_reducible repeat (first|refine blk_drewN ?_ _|refine blk_drew ?_|refine blk_alloc ?_ _));exact BK321.out⟩
                  have n10_:Aside0 ((w48.setCell ⟨go22,(x19_1:Int).toNat * 3+2,none⟩ (.int .i64 (wrap64 (((rd_T34 y343 x19_1).f2)+(rd ((rd_T34 y343 x19_1).f0) 0))))).heap[gb322]?=some (.cells #[.int .i64 0,.slice none 0 0,.int .i64 0] 25 (0,0))):=⟨by(with_reducible repeat (first|refine blk_drewN ?_ _|refine blk_drew ?_|refine blk_alloc ?_ _));refine blk_far ?_ (by have h_:=Kd.N_away HO_333001.out (fun _ hk=>hk.2.2.2.1);intro e_;exact h_ (by rw[e_];rfl)) _;(with_reducible repeat (first|refine blk_drewN ?_ _|refine blk_drew ?_|refine blk_alloc ?_ _));exact BK322.out⟩
                  have n11_:Aside0 ((w48.setCell ⟨go22,(x19_1:Int).toNat * 3+2,none⟩ (.int .i64 (wrap64 (((rd_T34 y343 x19_1).f2)+(rd ((rd_T34 y343 x19_1).f0) 0))))).heap[gb332]?=some (.cells #[.int .i64 t324,.slice (some ⟨go22,0,none⟩) x333001_2.length co18,.int .i64 t328] 25 (0,0))):=⟨by(with_reducible repeat (first|refine blk_drewN ?_ _|refine blk_drew ?_|refine blk_alloc ?_ _));refine blk_far ?_ (by have h_:=Kd.N_away HO_333001.out (fun _ hk=>hk.2.2.2.2);intro e_;exact h_ (by rw[e_];rfl)) _;(with_reducible repeat (first|refine blk_drewN ?_ _|refine blk_drew ?_|refine blk_alloc ?_ _));exact BK332.out⟩
                  have n12_:Aside0 (Below w.heap.size w (w48.setCell ⟨go22,(x19_1:Int).toNat * 3+2,none⟩ (.int .i64 (wrap64 (((rd_T34 y343 x19_1).f2)+(rd ((rd_T34 y343 x19_1).f0) 0)))))):=⟨bS4 GB22.out GE321.out GE322.out GE332.out⟩
                  (try clear HO_6)
                  (try clear HO_333001)
                  (try clear HL336_0)
                  (try clear HL337_0)
                  (try clear HL339_0)
                  (try clear HL340_0)
                  (try clear HL341_0)
                  (try clear HL344_0)
                  (try clear HL345_0)
                  (try clear BK321)
                  (try clear BK322)
                  (try clear BK332)
                  (try clear HB)
                  generalize (w48.setCell ⟨go22,(x19_1:Int).toNat * 3+2,none⟩ (.int .i64 (wrap64 (((rd_T34 y343 x19_1).f2)+(rd ((rd_T34 y343 x19_1).f0) 0)))))=w50 at n0_ n1_ n2_ n3_ n4_ n5_ n6_ n7_ n8_ n9_ n10_ n11_ n12_ ⊢
                  have HO_6:=n0_
                  have HO_333001:=n1_
                  have HL336_0:=n2_
                  have HL337_0:=n3_
                  have HL339_0:=n4_
                  have HL340_0:=n5_
                  have HL341_0:=n6_
                  have HL344_0:=n7_
                  have HL345_0:=n8_
                  have BK321:=n9_
                  have BK322:=n10_
                  have BK332:=n11_
                  have HB:=n12_
                  clear n0_ n1_ n2_ n3_ n4_ n5_ n6_ n7_ n8_ n9_ n10_ n11_ n12_
                  have p348:0≤(x19_1:Int):=bD_
                  have q348:x19_1 < (y347.length:Int):=(by have h_:(x19_1:Int) < ((x333001_2.length:Int):Int):=bD_;first|(have e_:=(Kd.N_reads' HO_333001.out).1;omega)|simpa only[Ny343.out,Ny347.out,List.length_set] using h_)
                  have ql348:((x19_1:Int) < ((x333001_2.length:Int):Int))=True:=eq_true (bD_)
                  obtain⟨ad348,A348_0,c348_0,e348,hx348_0,hx348_1,hx348_2,hl348_0,hi348_0⟩:=at_T34 (Kd.N_reads' HO_333001.out).2.2 x19_1 p348 q348
                  obtain rfl:(⟨go22,0,none⟩:Addr)=ad348:=(by injection e348)
                  obtain⟨ce348,hce348,hMe348,hcc348⟩:=Kd.N_get HO_333001.out z34 x19_1 p348 (by first|exact q348|exact bD_|(have e_:=(Kd.N_reads' HO_333001.out).1;omega))
                  obtain⟨ua348_0,uc348_0,rfl,ul348_0,ge348_0⟩:=k34_openF hMe348
                  have hv348_0:=hcc348 0 _ rfl
                  rw[Nat.add_zero] at hv348_0
                  replace hv348_0:=Option.some.inj (hv348_0.symm.trans hx348_0)
                  injection hv348_0 with hva_ hvn_ hvc_
                  rw[hva_] at ge348_0
                  rw[hvc_] at ul348_0
                  have HL348_0:=am (show Kd.V (Kd.int .i64) 3 _ w.heap.size _ _ ((rd_T34 y347 x19_1).f0) from Kd.V_mk ul348_0 ge348_0)
                  clear hva_ hvn_ hvc_ ge348_0 ul348_0 hcc348 hce348
                  (first|simp only[add_plain] at hx348_0|simp only[add_at] at hx348_0|simp only[Addr.add,Nat.zero_add] at hx348_0|skip)
                  (first|simp only[add_plain] at hx348_1|simp only[add_at] at hx348_1|simp only[Addr.add,Nat.zero_add] at hx348_1|skip)
                  (first|simp only[add_plain] at hx348_2|simp only[add_at] at hx348_2|simp only[Addr.add,Nat.zero_add] at hx348_2|skip)
                  have HR348_0:=am hi348_0
                  have HC348_0:=am hl348_0
                  clear hi348_0 hl348_0
                  replace p348:=eq_true p348
                  replace q348:=eq_true q348
                  have q51:(1:Int)≤((((rd_T34 y347 x19_1).f0).length:Int):Int):=bD_
                  obtain⟨i051,hi051,_,hsz51,_⟩:=info_parts info3
                  have hroom51:((rd_T34 y347 x19_1).f0).length≤c348_0:=HC348_0.out
                  have hC51:Kd.F (Kd.int .i64) _ _ A348_0 ((rd_T34 y347 x19_1).f0).length ((rd_T34 y347 x19_1).f0):=(Kd.V_at (base:=w.heap.size) HL348_0.out).2.2
                  have hcut51:=cut_from (P:=Try.prog) 27 3 .i64 Try.underlying27 hi051 1 hsz51 A348_0 ((rd_T34 y347 x19_1).f0).length c348_0 1 (by omega) q51
                  have hr51:=Kd.F_cut (m:=(1:Int).toNat) (c:=c348_0) hC51 (by omega) hroom51
                  obtain⟨A51,hA51⟩ : ∃ A1,A1=(if c348_0=(1:Int).toNat then A348_0 else (A348_0:Option Addr).map (·.add ((1:Int).toNat * 1))):=⟨_,rfl⟩
                  obtain⟨c51,hc51⟩ : ∃ c1,c1=c348_0 - (1:Int).toNat:=⟨_,rfl⟩
                  have hy51:y349.length=((rd_T34 y347 x19_1).f0).length - (1:Int).toNat:=(by rw[Ny349.out,List.length_drop]<;>omega)
                  rw[show((rd_T34 y347 x19_1).f0).drop (1:Int).toNat=y349 from Ny349.out.symm] at hr51
                  replace hr51:Kd.F (Kd.int .i64) _ _ A51 y349.length y349:=(by rw[hA51];exact hr51)
                  rw[← hy51,← hA51,← hc51] at hcut51
                  have HO353:=am (show Kd.V (Kd.int .i64) 3 _ w.heap.size _ (.slice A51 y349.length c51) y349 from Kd.V_mk (by rw[hy51,hc51];exact Nat.sub_le_sub_right hroom51 _) hr51)
                  have HC353:=am (show y349.length≤c51 from by rw[hy51,hc51];exact Nat.sub_le_sub_right hroom51 _)
                  clear hr51 hC51 hroom51 hi051 hsz51 hc51
                  have KY51:=am hy51
                  have KA51:=am hA51
                  clear hy51 hA51
                  replace q51:=eq_true q51
                  have p42:0≤(x19_1:Int):=bD_
                  have q42:(x19_1:Int) < ((x333001_2.length:Int):Int):=bD_
                  replace p42:=eq_true p42
                  replace q42:=eq_true q42
                  have HX52:=am (show Kd.N k34 34 w50 w.heap.size (fun k_=>(w.heap.size≤k_)∧some k_≠(u6:Value).ownBlock∧k_≠gb321∧k_≠gb322∧k_≠gb332) (.slice (some ⟨go22,0,none⟩) x333001_2.length co18) y347 from (by(with_reducible repeat (first|apply Kd.N_alloc|apply Kd.N_drewN|apply Kd.N_drew));exact HO_333001.out))
                  obtain⟨ce52,hcl52,hM52,hcc52,hfr52⟩:=Kd.N_elem HX52.out z34 (x19_1:Int) (bD_) (by have h_:(x19_1:Int) < ((x333001_2.length:Int):Int):=bD_;first|exact h_|(have e_:=(Kd.N_reads' HO_333001.out).1;omega)|simpa using h_)
                  obtain⟨ua52_0,uc52_0,rfl,ul52_0,ge52_0⟩:=k34_openF hM52
                  have HP52:=Kd.N_seg HX52.out (x19_1:Int) (bD_) (by have h_:(x19_1:Int) < ((x333001_2.length:Int):Int):=bD_;first|exact h_|(have e_:=(Kd.N_reads' HO_333001.out).1;omega)|simpa using h_) (seg:=[.slice A51 y349.length c51]) (j:=0) hcl52 hcc52 (show 1≤3 from by decide) (x':=(⟨y349,(rd_T34 y347 x19_1).f1,(rd_T34 y347 x19_1).f2⟩:S34)) (k34_mkF _ _ (⟨y349,(rd_T34 y347 x19_1).f1,(rd_T34 y347 x19_1).f2⟩:S34) (Kd.V_reads' (Kd.V_mono (ok':=(fun k_=>((fun k_=>(w.heap.size≤k_)∧some k_≠(u6:Value).ownBlock∧k_≠gb321∧k_≠gb322∧k_≠gb332)) k_∧k_≠go22)) (HO353.out) (fun k_ hk=>⟨⟨hk.1.1,⟨hk.1.2.1,⟨hk.1.2.2.1,⟨hk.1.2.2.2.1,hk.1.2.2.2.2⟩⟩⟩⟩,fun e_=>(hk.2) (by rw[e_];rfl)⟩))).2.1 (Kd.V_F (Kd.V_mono (ok':=(fun k_=>((fun k_=>(w.heap.size≤k_)∧some k_≠(u6:Value).ownBlock∧k_≠gb321∧k_≠gb322∧k_≠gb332)) k_∧k_≠go22)) (HO353.out) (fun k_ hk=>⟨⟨hk.1.1,⟨hk.1.2.1,⟨hk.1.2.2.1,⟨hk.1.2.2.2.1,hk.1.2.2.2.2⟩⟩⟩⟩,fun e_=>(hk.2) (by rw[e_];rfl)⟩)))) (fun _ hk=>hk)
                  have hx52_0:=hcc52 0 _ rfl
                  (try simp only[show(k34).sz=3 from rfl,Nat.mul_one,Nat.add_zero] at hx52_0)
                  have hf52_0:=hfr52 0
                  (try simp only[show(k34).sz=3 from rfl,Nat.mul_one,Nat.add_zero] at hf52_0)
                  clear hcl52 hcc52 hfr52 hM52
                  try go_wp2_with (first|((with_reducible refine gate_store (t:=27) (p:=93) rfl ?_);refine store_event (t:=27) (p:=93) (v:=?vo_w53) (w1:=(w50.setCell ⟨go22,(x19_1:Int).toNat * 3,none⟩ (.slice A51 y349.length c51))) ?hg ?ho ?hn ?hr ?_;(case ho=>rfl);(case hg=>rfl);(case hn=>rfl);(case hr=>(try (obtain⟨Aq_,cq_,eq_⟩:=Kd.V_slice HO353.out;subst eq_));first|(go_simp;done)|(go_simp;rfl));intro w53 hw;have hg:w50.grownBy w53 (some go22):=(by rw[hw];exact HP52.2);have hp_:Kd.N k34 34 w53 w.heap.size (fun k_=>(w.heap.size≤k_)∧some k_≠(u6:Value).ownBlock∧k_≠gb321∧k_≠gb322∧k_≠gb332) (.slice (some ⟨go22,0,none⟩) x333001_2.length co18) y354:=(by rw[hw,Ny354.out];exact HP52.1);clear HP52;have n0_:=am (Kd.R_over' (v:=(.slice (some ⟨go22,0,none⟩) x333001_2.length co18)) (bK HO_6.out) (Kd.N_typed HO_333001.out) (by decide) hg);have n1_:=am (hp_);have n2_:=am (blk_grown (g:=gb321) (o:=.cells #[.int .i64 a0_0,.slice A0_1 l0_1.length c0_1,.int .i64 a0_2] 25 (0,0)) (bL BK321.out) hg (Kd.N_ne HO_333001.out BK321.out (by decide)));have n3_:=am (blk_grown (g:=gb322) (o:=.cells #[.int .i64 0,.slice none 0 0,.int .i64 0] 25 (0,0)) (bL BK322.out) hg (Kd.N_ne HO_333001.out BK322.out (by decide)));have n4_:=am (blk_grown (g:=gb332) (o:=.cells #[.int .i64 t324,.slice (some ⟨go22,0,none⟩) x333001_2.length co18,.int .i64 t328] 25 (0,0)) (bL BK332.out) hg (Kd.N_ne HO_333001.out BK332.out (by decide)));have n5_:=am (Kd.V_afterv (v:=(.slice (some ⟨go22,0,none⟩) x333001_2.length co18)) (v1:=(.slice (some ⟨go22,0,none⟩) x333001_2.length co18)) (ok:=(fun k_=>(w.heap.size≤k_)∧some k_≠(u6:Value).ownBlock∧k_≠gb321∧k_≠gb322∧k_≠gb332)) (by(with_reducible repeat (first|apply Kd.V_alloc|apply Kd.V_drewN|apply Kd.V_drew));exact Kd.V_mono HL336_0.out (fun _ hk=>⟨⟨hk.1,⟨hk.2.1,⟨hk.2.2.2.1,⟨hk.2.2.2.2.1,hk.2.2.2.2.2⟩⟩⟩⟩,hk.2.2.1⟩)) hg (.inl rfl));have n6_:=am (Kd.V_afterv (v:=(.slice (some ⟨go22,0,none⟩) x333001_2.length co18)) (v1:=(.slice (some ⟨go22,0,none⟩) x333001_2.length co18)) (ok:=(fun k_=>(w.heap.size≤k_)∧some k_≠(u6:Value).ownBlock∧k_≠gb321∧k_≠gb322∧k_≠gb332)) (by(with_reducible repeat (first|apply Kd.V_alloc|apply Kd.V_drewN|apply Kd.V_drew));exact Kd.V_mono HL337_0.out (fun _ hk=>⟨⟨hk.1,⟨hk.2.1,⟨hk.2.2.2.1,⟨hk.2.2.2.2.1,hk.2.2.2.2.2⟩⟩⟩⟩,hk.2.2.1⟩)) hg (.inl rfl));have n7_:=am (Kd.V_afterv (v:=(.slice (some ⟨go22,0,none⟩) x333001_2.length co18)) (v1:=(.slice (some ⟨go22,0,none⟩) x333001_2.length co18)) (ok:=(fun k_=>(w.heap.size≤k_)∧some k_≠(u6:Value).ownBlock∧k_≠gb321∧k_≠gb322∧k_≠gb332)) (by(with_reducible repeat (first|apply Kd.V_alloc|apply Kd.V_drewN|apply Kd.V_drew));exact Kd.V_mono HL339_0.out (fun _ hk=>⟨⟨hk.1,⟨hk.2.1,⟨hk.2.2.2.1,⟨hk.2.2.2.2.1,hk.2.2.2.2.2⟩⟩⟩⟩,hk.2.2.1⟩)) hg (.inl rfl));have n8_:=am (Kd.V_afterv (v:=(.slice (some ⟨go22,0,none⟩) x333001_2.length co18)) (v1:=(.slice (some ⟨go22,0,none⟩) x333001_2.length co18)) (ok:=(fun k_=>(w.heap.size≤k_)∧some k_≠(u6:Value).ownBlock∧k_≠gb321∧k_≠gb322∧k_≠gb332)) (by(with_reducible repeat (first|apply Kd.V_alloc|apply Kd.V_drewN|apply Kd.V_drew));exact Kd.V_mono HL340_0.out (fun _ hk=>⟨⟨hk.1,⟨hk.2.1,⟨hk.2.2.2.1,⟨hk.2.2.2.2.1,hk.2.2.2.2.2⟩⟩⟩⟩,hk.2.2.1⟩)) hg (.inl rfl));have n9_:=am (Kd.V_afterv (v:=(.slice (some ⟨go22,0,none⟩) x333001_2.length co18)) (v1:=(.slice (some ⟨go22,0,none⟩) x333001_2.length co18)) (ok:=(fun k_=>(w.heap.size≤k_)∧some k_≠(u6:Value).ownBlock∧k_≠gb321∧k_≠gb322∧k_≠gb332)) (by(with_reducible repeat (first|apply Kd.V_alloc|apply Kd.V_drewN|apply Kd.V_drew));exact Kd.V_mono HL341_0.out (fun _ hk=>⟨⟨hk.1,⟨hk.2.1,⟨hk.2.2.2.1,⟨hk.2.2.2.2.1,hk.2.2.2.2.2⟩⟩⟩⟩,hk.2.2.1⟩)) hg (.inl rfl));have n10_:=am (Kd.V_afterv (v:=(.slice (some ⟨go22,0,none⟩) x333001_2.length co18)) (v1:=(.slice (some ⟨go22,0,none⟩) x333001_2.length co18)) (ok:=(fun k_=>(w.heap.size≤k_)∧some k_≠(u6:Value).ownBlock∧k_≠gb321∧k_≠gb322∧k_≠gb332)) (by(with_reducible repeat (first|apply Kd.V_alloc|apply Kd.V_drewN|apply Kd.V_drew));exact Kd.V_mono HL344_0.out (fun _ hk=>⟨⟨hk.1,⟨hk.2.1,⟨hk.2.2.2.1,⟨hk.2.2.2.2.1,hk.2.2.2.2.2⟩⟩⟩⟩,hk.2.2.1⟩)) hg (.inl rfl));have n11_:=am (Kd.V_afterv (v:=(.slice (some ⟨go22,0,none⟩) x333001_2.length co18)) (v1:=(.slice (some ⟨go22,0,none⟩) x333001_2.length co18)) (ok:=(fun k_=>(w.heap.size≤k_)∧some k_≠(u6:Value).ownBlock∧k_≠gb321∧k_≠gb322∧k_≠gb332)) (by(with_reducible repeat (first|apply Kd.V_alloc|apply Kd.V_drewN|apply Kd.V_drew));exact Kd.V_mono HL345_0.out (fun _ hk=>⟨⟨hk.1,⟨hk.2.1,⟨hk.2.2.2.1,⟨hk.2.2.2.2.1,hk.2.2.2.2.2⟩⟩⟩⟩,hk.2.2.1⟩)) hg (.inl rfl));have n12_:=am (Kd.V_afterv (v:=(.slice (some ⟨go22,0,none⟩) x333001_2.length co18)) (v1:=(.slice (some ⟨go22,0,none⟩) x333001_2.length co18)) (ok:=(fun k_=>(w.heap.size≤k_)∧some k_≠(u6:Value).ownBlock∧k_≠gb321∧k_≠gb322∧k_≠gb332)) (by(with_reducible repeat (first|apply Kd.V_alloc|apply Kd.V_drewN|apply Kd.V_drew));exact HL348_0.out) hg (.inl rfl));have n13_:=am (Kd.V_afterv (v:=(.slice (some ⟨go22,0,none⟩) x333001_2.length co18)) (v1:=(.slice (some ⟨go22,0,none⟩) x333001_2.length co18)) (ok:=(fun k_=>(w.heap.size≤k_)∧some k_≠(u6:Value).ownBlock∧k_≠gb321∧k_≠gb322∧k_≠gb332)) (by(with_reducible repeat (first|apply Kd.V_alloc|apply Kd.V_drewN|apply Kd.V_drew));exact HO353.out) hg (.inl rfl));have n14_:=am ((by rw[hw];exact below_set (HB.out) GB22.out:Below w.heap.size w w53));clear HO_6 HO_333001 BK321 BK322 BK332 HL336_0 HL337_0 HL339_0 HL340_0 HL341_0 HL344_0 HL345_0 HL348_0 HO353 HB;have HO_6:=n0_;have HO_333001:=n1_;have BK321:=n2_;have BK322:=n3_;have BK332:=n4_;have HL336_0:=n5_;have HL337_0:=n6_;have HL339_0:=n7_;have HL340_0:=n8_;have HL341_0:=n9_;have HL344_0:=n10_;have HL345_0:=n11_;have HL348_0:=n12_;have HO353:=n13_;have HB:=n14_;clear n0_ n1_ n2_ n3_ n4_ n5_ n6_ n7_ n8_ n9_ n10_ n11_ n12_ n13_ n14_;clear hg hw hp_)|((with_reducible refine gate_builtin (b:=.append) (xs:=#[.tmp 94,.tmp 96]) rfl ?_);at_builtin;refine Kd.R_append (Kd.int .i64) (w0:=w) w.heap.size rfl (.tmp 94) (.tmp 96) 27 3 (.int .i64 0) 8 rfl Try.underlying27 info3 rfl (by decide) (by omega) u6 x6_2 x19_1 [.int .i64 x19_1] (fun k_=>(w.heap.size≤k_)) (fun _=>False) rfl rfl ?aP (fun _ hk=>hk.elim) ?aF ?aO ?aB ?aS ?aL ?_;(case aP=>exact rfl);(case aB=>exact(bS3 GE321.out GE322.out GE332.out));(case aF=>exact(fun k_ hk=>(Nat.le_trans (below_size (bS3 GE321.out GE322.out GE332.out)) hk)));(case aO=>exact(bK HO_6.out));(case aS=>exact(below_size (bS3 GE321.out GE322.out GE332.out)));(case aL=>have:=LMc43.out;omega);intro v356 w54 ho hb hg hat;rw[← Ny355.out] at ho;have n0_:=am (Kd.N_afterv (ok:=(fun k_=>(w.heap.size≤k_)∧k_≠gb321∧k_≠gb322∧k_≠gb332)) (by(with_reducible repeat (first|apply Kd.N_alloc|apply Kd.N_drewN|apply Kd.N_drew));exact Kd.N_mono HO_333001.out (fun _ hk=>⟨⟨hk.1,⟨hk.2.2.1,⟨hk.2.2.2.1,hk.2.2.2.2⟩⟩⟩,hk.2.1⟩)) hg hat);have n1_:=am (blk_grown (g:=gb321) (o:=.cells #[.int .i64 a0_0,.slice A0_1 l0_1.length c0_1,.int .i64 a0_2] 25 (0,0)) (bL BK321.out) hg (Kd.R_ne HO_6.out BK321.out (by decide)));have n2_:=am (blk_grown (g:=gb322) (o:=.cells #[.int .i64 0,.slice none 0 0,.int .i64 0] 25 (0,0)) (bL BK322.out) hg (Kd.R_ne HO_6.out BK322.out (by decide)));have n3_:=am (blk_grown (g:=gb332) (o:=.cells #[.int .i64 t324,.slice (some ⟨go22,0,none⟩) x333001_2.length co18,.int .i64 t328] 25 (0,0)) (bL BK332.out) hg (Kd.R_ne HO_6.out BK332.out (by decide)));have n4_:=am (Kd.V_afterv (ok:=(fun k_=>(w.heap.size≤k_)∧some k_≠(.slice (some ⟨go22,0,none⟩) x333001_2.length co18:Value).ownBlock∧k_≠gb321∧k_≠gb322∧k_≠gb332)) (by(with_reducible repeat (first|apply Kd.V_alloc|apply Kd.V_drewN|apply Kd.V_drew));exact Kd.V_mono HL336_0.out (fun _ hk=>⟨⟨hk.1.1,⟨hk.2,⟨hk.1.2.2.1,⟨hk.1.2.2.2.1,hk.1.2.2.2.2⟩⟩⟩⟩,hk.1.2.1⟩)) hg hat);have n5_:=am (Kd.V_afterv (ok:=(fun k_=>(w.heap.size≤k_)∧some k_≠(.slice (some ⟨go22,0,none⟩) x333001_2.length co18:Value).ownBlock∧k_≠gb321∧k_≠gb322∧k_≠gb332)) (by(with_reducible repeat (first|apply Kd.V_alloc|apply Kd.V_drewN|apply Kd.V_drew));exact Kd.V_mono HL337_0.out (fun _ hk=>⟨⟨hk.1.1,⟨hk.2,⟨hk.1.2.2.1,⟨hk.1.2.2.2.1,hk.1.2.2.2.2⟩⟩⟩⟩,hk.1.2.1⟩)) hg hat);have n6_:=am (Kd.V_afterv (ok:=(fun k_=>(w.heap.size≤k_)∧some k_≠(.slice (some ⟨go22,0,none⟩) x333001_2.length co18:Value).ownBlock∧k_≠gb321∧k_≠gb322∧k_≠gb332)) (by(with_reducible repeat (first|apply Kd.V_alloc|apply Kd.V_drewN|apply Kd.V_drew));exact Kd.V_mono HL339_0.out (fun _ hk=>⟨⟨hk.1.1,⟨hk.2,⟨hk.1.2.2.1,⟨hk.1.2.2.2.1,hk.1.2.2.2.2⟩⟩⟩⟩,hk.1.2.1⟩)) hg hat);have n7_:=am (Kd.V_afterv (ok:=(fun k_=>(w.heap.size≤k_)∧some k_≠(.slice (some ⟨go22,0,none⟩) x333001_2.length co18:Value).ownBlock∧k_≠gb321∧k_≠gb322∧k_≠gb332)) (by(with_reducible repeat (first|apply Kd.V_alloc|apply Kd.V_drewN|apply Kd.V_drew));exact Kd.V_mono HL340_0.out (fun _ hk=>⟨⟨hk.1.1,⟨hk.2,⟨hk.1.2.2.1,⟨hk.1.2.2.2.1,hk.1.2.2.2.2⟩⟩⟩⟩,hk.1.2.1⟩)) hg hat);have n8_:=am (Kd.V_afterv (ok:=(fun k_=>(w.heap.size≤k_)∧some k_≠(.slice (some ⟨go22,0,none⟩) x333001_2.length co18:Value).ownBlock∧k_≠gb321∧k_≠gb322∧k_≠gb332)) (by(with_reducible repeat (first|apply Kd.V_alloc|apply Kd.V_drewN|apply Kd.V_drew));exact Kd.V_mono HL341_0.out (fun _ hk=>⟨⟨hk.1.1,⟨hk.2,⟨hk.1.2.2.1,⟨hk.1.2.2.2.1,hk.1.2.2.2.2⟩⟩⟩⟩,hk.1.2.1⟩)) hg hat);have n9_:=am (Kd.V_afterv (ok:=(fun k_=>(w.heap.size≤k_)∧some k_≠(.slice (some ⟨go22,0,none⟩) x333001_2.length co18:Value).ownBlock∧k_≠gb321∧k_≠gb322∧k_≠gb332)) (by(with_reducible repeat (first|apply Kd.V_alloc|apply Kd.V_drewN|apply Kd.V_drew));exact Kd.V_mono HL344_0.out (fun _ hk=>⟨⟨hk.1.1,⟨hk.2,⟨hk.1.2.2.1,⟨hk.1.2.2.2.1,hk.1.2.2.2.2⟩⟩⟩⟩,hk.1.2.1⟩)) hg hat);have n10_:=am (Kd.V_afterv (ok:=(fun k_=>(w.heap.size≤k_)∧some k_≠(.slice (some ⟨go22,0,none⟩) x333001_2.length co18:Value).ownBlock∧k_≠gb321∧k_≠gb322∧k_≠gb332)) (by(with_reducible repeat (first|apply Kd.V_alloc|apply Kd.V_drewN|apply Kd.V_drew));exact Kd.V_mono HL345_0.out (fun _ hk=>⟨⟨hk.1.1,⟨hk.2,⟨hk.1.2.2.1,⟨hk.1.2.2.2.1,hk.1.2.2.2.2⟩⟩⟩⟩,hk.1.2.1⟩)) hg hat);have n11_:=am (Kd.V_afterv (ok:=(fun k_=>(w.heap.size≤k_)∧some k_≠(.slice (some ⟨go22,0,none⟩) x333001_2.length co18:Value).ownBlock∧k_≠gb321∧k_≠gb322∧k_≠gb332)) (by(with_reducible repeat (first|apply Kd.V_alloc|apply Kd.V_drewN|apply Kd.V_drew));exact Kd.V_mono HL348_0.out (fun _ hk=>⟨⟨hk.1.1,⟨hk.2,⟨hk.1.2.2.1,⟨hk.1.2.2.2.1,hk.1.2.2.2.2⟩⟩⟩⟩,hk.1.2.1⟩)) hg hat);have n12_:=am (Kd.V_afterv (ok:=(fun k_=>(w.heap.size≤k_)∧some k_≠(.slice (some ⟨go22,0,none⟩) x333001_2.length co18:Value).ownBlock∧k_≠gb321∧k_≠gb322∧k_≠gb332)) (by(with_reducible repeat (first|apply Kd.V_alloc|apply Kd.V_drewN|apply Kd.V_drew));exact Kd.V_mono HO353.out (fun _ hk=>⟨⟨hk.1.1,⟨hk.2,⟨hk.1.2.2.1,⟨hk.1.2.2.2.1,hk.1.2.2.2.2⟩⟩⟩⟩,hk.1.2.1⟩)) hg hat);have n13_:=am (hb);have n14_:=am (ho);clear HO_333001 BK321 BK322 BK332 HL336_0 HL337_0 HL339_0 HL340_0 HL341_0 HL344_0 HL345_0 HL348_0 HO353 HB HO_6;have HO_333001:=n0_;have BK321:=n1_;have BK322:=n2_;have BK332:=n3_;have HL336_0:=n4_;have HL337_0:=n5_;have HL339_0:=n6_;have HL340_0:=n7_;have HL341_0:=n8_;have HL344_0:=n9_;have HL345_0:=n10_;have HL348_0:=n11_;have HO353:=n12_;have HB:=n13_;have HO357:=n14_;clear n0_ n1_ n2_ n3_ n4_ n5_ n6_ n7_ n8_ n9_ n10_ n11_ n12_ n13_ n14_;clear ho hb hg hat))
                  (try simp only[← hl333001_2])
                  go_roundg k2
                  case measure=>have:=HK1.out;have:=HK2.out;omega
                  case rel=>exact⟨(y355),(y354),H',⟨by have:=HK1.out;have:=HK2.out;omega⟩,⟨by(try simp only[hl333001_1]);(try simp only[hl333001_2]);(with_reducible repeat (first|apply Kd.R_alloc|apply Kd.R_drewN|apply Kd.R_drew));exact HO357.out⟩,⟨by(try simp only[hl333001_1]);(try simp only[hl333001_2]);(with_reducible repeat (first|apply Kd.N_alloc|apply Kd.N_drewN|apply Kd.N_drew));exact Kd.N_mono HO_333001.out (fun _ hk=>⟨hk.1.1,⟨hk.2,⟨hk.1.2.1,⟨hk.1.2.2.1,hk.1.2.2.2⟩⟩⟩⟩)⟩,⟨by(try simp only[hl333001_1]);(try simp only[hl333001_2]);(with_reducible repeat (first|refine blk_drewN ?_ _|refine blk_drew ?_|refine blk_alloc ?_ _));exact BK321.out⟩,⟨by(try simp only[hl333001_1]);(try simp only[hl333001_2]);(with_reducible repeat (first|refine blk_drewN ?_ _|refine blk_drew ?_|refine blk_alloc ?_ _));exact BK322.out⟩,⟨by(try simp only[hl333001_1]);(try simp only[hl333001_2]);(with_reducible repeat (first|refine blk_drewN ?_ _|refine blk_drew ?_|refine blk_alloc ?_ _));exact BK332.out⟩,⟨bS3 GE321.out GE322.out GE332.out⟩⟩
                 ·rw[if_neg c43] at H
                  exact absurd H (by simp)
                ·rw[if_neg c41] at H
                 exact absurd H (by simp)
               ·rw[if_neg c39] at H
                exact absurd H (by simp)
              ·rw[if_neg c37] at H
               have c37b0:decide ((rd ((rd_T34 x333001_2 x19_1).f0) 0)≤((rd_T34 x333001_2 x19_1).f1))=false:=decide_eq_false c37
               clear c37
               by_cases c55:(((rd_T34 x333001_2 x19_1).f0).length:Int)=0
               ·rw[if_pos c55] at H
                have c55b0:((((rd_T34 x333001_2 x19_1).f0).length:Int) == 0)=true:=beq_iff_eq.mpr c55
                have c55b1:((((rd_T34 x333001_2 x19_1).f0).length:Int) != 0)=false:=bne_eq_false_iff_eq.mpr c55
                clear c55
                obtain⟨y359,hy359⟩ : ∃ y_:List (S34),y_=(x333001_2.set (x19_1:Int).toNat (⟨(rd_T34 x333001_2 x19_1).f0,0,(rd_T34 x333001_2 x19_1).f2⟩:S34)):=⟨_,rfl⟩
                replace H:(impl_NextRound.l0 k2 x6_2 (t325.length:Int) (wrap64 (x19_1+1)) t324 y359 t328)=some (r1,r2,r3,r4,r5):=by first|(rw[hy359];with_reducible exact H)|(have H2_:=(Option.bind_some _ _).symm.trans H;rw[hy359];with_reducible exact H2_)|(have H2_:=(Option.bind_some _ _).symm.trans H;with_reducible exact H2_)|with_reducible exact H|(rw[hy359];exact H)|exact H
                have Ny359:=am hy359
                clear hy359
                have H':=am H
                clear H
                try go_wp2
                (try (rw[drewN_self wr];generalize hq_:World.drewN wr _=wr;have n0_:=am (Kd.R_at hq_ HO_6.out);have n1_:=am (Kd.N_at hq_ HO_333001.out);have n2_:=am (blk_at hq_ BK321.out);have n3_:=am (blk_at hq_ BK322.out);have n4_:=am (blk_at hq_ BK332.out);have n5_:=am (below_at hq_ HB.out);clear hq_ HO_6 HO_333001 BK321 BK322 BK332 HB;have HO_6:=n0_;have HO_333001:=n1_;have BK321:=n2_;have BK322:=n3_;have BK332:=n4_;have HB:=n5_;clear n0_ n1_ n2_ n3_ n4_ n5_))
                have n0_:=am (Kd.R_drew HO_6.out)
                have n1_:=am (Kd.N_drew HO_333001.out)
                have n2_:=am (blk_drew BK321.out)
                have n3_:=am (blk_drew BK322.out)
                have n4_:=am (blk_drew BK332.out)
                have n5_:=am (below_drew1 HB.out)
                clear HO_6 HO_333001 BK321 BK322 BK332 HB
                have HO_6:=n0_
                have HO_333001:=n1_
                have BK321:=n2_
                have BK322:=n3_
                have BK332:=n4_
                have HB:=n5_
                clear n0_ n1_ n2_ n3_ n4_ n5_
                have p336:0≤(x19_1:Int):=bD_
                have q336:x19_1 < (x333001_2.length:Int):=bD_
                obtain⟨ad336,A336_0,c336_0,e336,hx336_0,hx336_1,hx336_2,hl336_0,hi336_0⟩:=at_T34 (Kd.N_reads' HO_333001.out).2.2 x19_1 p336 q336
                obtain rfl:(⟨go22,0,none⟩:Addr)=ad336:=(by injection e336)
                obtain⟨ce336,hce336,hMe336,hcc336⟩:=Kd.N_get HO_333001.out z34 x19_1 p336 (by first|exact q336|exact bD_|(have e_:=(Kd.N_reads' HO_333001.out).1;omega))
                obtain⟨ua336_0,uc336_0,rfl,ul336_0,ge336_0⟩:=k34_openF hMe336
                have hv336_0:=hcc336 0 _ rfl
                rw[Nat.add_zero] at hv336_0
                replace hv336_0:=Option.some.inj (hv336_0.symm.trans hx336_0)
                injection hv336_0 with hva_ hvn_ hvc_
                rw[hva_] at ge336_0
                rw[hvc_] at ul336_0
                have HL336_0:=am (show Kd.V (Kd.int .i64) 3 _ w.heap.size _ _ ((rd_T34 x333001_2 x19_1).f0) from Kd.V_mk ul336_0 ge336_0)
                clear hva_ hvn_ hvc_ ge336_0 ul336_0 hcc336 hce336
                (first|simp only[add_plain] at hx336_0|simp only[add_at] at hx336_0|simp only[Addr.add,Nat.zero_add] at hx336_0|skip)
                (first|simp only[add_plain] at hx336_1|simp only[add_at] at hx336_1|simp only[Addr.add,Nat.zero_add] at hx336_1|skip)
                (first|simp only[add_plain] at hx336_2|simp only[add_at] at hx336_2|simp only[Addr.add,Nat.zero_add] at hx336_2|skip)
                have HR336_0:=am hi336_0
                have HC336_0:=am hl336_0
                clear hi336_0 hl336_0
                replace p336:=eq_true p336
                replace q336:=eq_true q336
                have p337:0≤(x19_1:Int):=bD_
                have q337:x19_1 < (x333001_2.length:Int):=bD_
                obtain⟨ad337,A337_0,c337_0,e337,hx337_0,hx337_1,hx337_2,hl337_0,hi337_0⟩:=at_T34 (Kd.N_reads' HO_333001.out).2.2 x19_1 p337 q337
                obtain rfl:(⟨go22,0,none⟩:Addr)=ad337:=(by injection e337)
                obtain⟨ce337,hce337,hMe337,hcc337⟩:=Kd.N_get HO_333001.out z34 x19_1 p337 (by first|exact q337|exact bD_|(have e_:=(Kd.N_reads' HO_333001.out).1;omega))
                obtain⟨ua337_0,uc337_0,rfl,ul337_0,ge337_0⟩:=k34_openF hMe337
                have hv337_0:=hcc337 0 _ rfl
                rw[Nat.add_zero] at hv337_0
                replace hv337_0:=Option.some.inj (hv337_0.symm.trans hx337_0)
                injection hv337_0 with hva_ hvn_ hvc_
                rw[hva_] at ge337_0
                rw[hvc_] at ul337_0
                have HL337_0:=am (show Kd.V (Kd.int .i64) 3 _ w.heap.size _ _ ((rd_T34 x333001_2 x19_1).f0) from Kd.V_mk ul337_0 ge337_0)
                clear hva_ hvn_ hvc_ ge337_0 ul337_0 hcc337 hce337
                (first|simp only[add_plain] at hx337_0|simp only[add_at] at hx337_0|simp only[Addr.add,Nat.zero_add] at hx337_0|skip)
                (first|simp only[add_plain] at hx337_1|simp only[add_at] at hx337_1|simp only[Addr.add,Nat.zero_add] at hx337_1|skip)
                (first|simp only[add_plain] at hx337_2|simp only[add_at] at hx337_2|simp only[Addr.add,Nat.zero_add] at hx337_2|skip)
                have HR337_0:=am hi337_0
                have HC337_0:=am hl337_0
                clear hi337_0 hl337_0
                replace p337:=eq_true p337
                replace q337:=eq_true q337
                have ea_:=Option.some.inj (hx336_0.symm.trans hx337_0)
                injection ea_ with ea_ en_ ec_
                subst ea_
                subst ec_
                clear en_
                have p338:0≤(0:Int):=(by omega)
                have q338:0 < (((rd_T34 x333001_2 x19_1).f0).length:Int):=bD_
                obtain⟨ad338,e338,hx338_0⟩:=Kd.at_int (by repeat (first|(with_reducible exact HR337_0.out)|(with_reducible refine Kd.C_alloc ?_ _)|(with_reducible refine Kd.C_drewN ?_ _)|(with_reducible refine Kd.C_drew ?_)|exact HR337_0.out)) 0 p338 q338
                cases e338
                have qi338:(0 < ((rd_T34 x333001_2 x19_1).f0).length)=True:=eq_true (by omega)
                (try rw[show((0:Int)).toNat=0 from rfl] at hx338_0)
                (try rw[Addr.add_zero'] at hx338_0)
                replace p338:=eq_true p338
                replace q338:=eq_true q338
                have p339:0≤(x19_1:Int):=bD_
                have q339:x19_1 < (x333001_2.length:Int):=bD_
                obtain⟨ad339,A339_0,c339_0,e339,hx339_0,hx339_1,hx339_2,hl339_0,hi339_0⟩:=at_T34 (Kd.N_reads' HO_333001.out).2.2 x19_1 p339 q339
                obtain rfl:(⟨go22,0,none⟩:Addr)=ad339:=(by injection e339)
                obtain⟨ce339,hce339,hMe339,hcc339⟩:=Kd.N_get HO_333001.out z34 x19_1 p339 (by first|exact q339|exact bD_|(have e_:=(Kd.N_reads' HO_333001.out).1;omega))
                obtain⟨ua339_0,uc339_0,rfl,ul339_0,ge339_0⟩:=k34_openF hMe339
                have hv339_0:=hcc339 0 _ rfl
                rw[Nat.add_zero] at hv339_0
                replace hv339_0:=Option.some.inj (hv339_0.symm.trans hx339_0)
                injection hv339_0 with hva_ hvn_ hvc_
                rw[hva_] at ge339_0
                rw[hvc_] at ul339_0
                have HL339_0:=am (show Kd.V (Kd.int .i64) 3 _ w.heap.size _ _ ((rd_T34 x333001_2 x19_1).f0) from Kd.V_mk ul339_0 ge339_0)
                clear hva_ hvn_ hvc_ ge339_0 ul339_0 hcc339 hce339
                (first|simp only[add_plain] at hx339_0|simp only[add_at] at hx339_0|simp only[Addr.add,Nat.zero_add] at hx339_0|skip)
                (first|simp only[add_plain] at hx339_1|simp only[add_at] at hx339_1|simp only[Addr.add,Nat.zero_add] at hx339_1|skip)
                (first|simp only[add_plain] at hx339_2|simp only[add_at] at hx339_2|simp only[Addr.add,Nat.zero_add] at hx339_2|skip)
                have HR339_0:=am hi339_0
                have HC339_0:=am hl339_0
                clear hi339_0 hl339_0
                replace p339:=eq_true p339
                replace q339:=eq_true q339
                have ea_:=Option.some.inj (hx336_0.symm.trans hx339_0)
                injection ea_ with ea_ en_ ec_
                subst ea_
                subst ec_
                clear en_
                refine start_ (n:=19) (S:=fun w'=>w'.cell? ⟨go22,(x19_1).toNat * 3,none⟩=some (.slice (some ad338) ((rd_T34 x333001_2 x19_1).f0).length c336_0)∧w'.cell? ⟨go22,(x19_1).toNat * 3+1,none⟩=some (.int .i64 ((rd_T34 x333001_2 x19_1).f1))∧w'.cell? ⟨go22,(x19_1).toNat * 3+2,none⟩=some (.int .i64 ((rd_T34 x333001_2 x19_1).f2))∧w'.cell? ⟨go22,(x19_1).toNat * 3,none⟩=some (.slice (some ad338) ((rd_T34 x333001_2 x19_1).f0).length c336_0)∧w'.cell? ⟨go22,(x19_1).toNat * 3+1,none⟩=some (.int .i64 ((rd_T34 x333001_2 x19_1).f1))∧w'.cell? ⟨go22,(x19_1).toNat * 3+2,none⟩=some (.int .i64 ((rd_T34 x333001_2 x19_1).f2))∧w'.cell? ad338=some (.int .i64 (rd ((rd_T34 x333001_2 x19_1).f0) 0))∧w'.cell? ⟨go22,(x19_1).toNat * 3,none⟩=some (.slice (some ad338) ((rd_T34 x333001_2 x19_1).f0).length c336_0)∧w'.cell? ⟨go22,(x19_1).toNat * 3+1,none⟩=some (.int .i64 ((rd_T34 x333001_2 x19_1).f1))∧w'.cell? ⟨go22,(x19_1).toNat * 3+2,none⟩=some (.int .i64 ((rd_T34 x333001_2 x19_1).f2))) (ds:=[]) #[false,false,false,false,false,false,false,false,false,false,false,false,false,false,false,false,false,false,false] (by kernel_rfl) rfl rfl ⟨hx336_0,hx336_1,hx336_2,hx337_0,hx337_1,hx337_2,hx338_0,hx339_0,hx339_1,hx339_2⟩ (fun hHeld => ?_);refine with_tabW impl_NextRound.tab10 impl_NextRound.bits10 (fun HT_ HW_ => ?_)
                generalize wr.drew=w57 at HO_6 HO_333001 BK321 BK322 BK332 HB HL336_0 HL337_0 HL339_0 HR336_0 HR337_0 HR339_0 hx336_0 hx336_1 hx336_2 hx337_0 hx337_1 hx337_2 hx338_0 hx339_0 hx339_1 hx339_2 hHeld ⊢
                refine pS HT_ 0 41 ?_;refine pS HT_ 1 42 ?_;refine pS HT_ 2 43 ?_;refine tS HT_ HW_ hHeld 3 44 ?_;refine pS HT_ 4 45 ?_;refine pS HT_ 5 46 ?_;refine pS HT_ 6 47 ?_;refine pS HT_ 7 48 ?_;refine pS HT_ 8 49 ?_;refine pS HT_ 9 50 ?_;refine pS HT_ 13 54 ?_;refine pS HT_ 14 55 ?_;refine pS HT_ 15 56 ?_;refine tS HT_ HW_ hHeld 10 51 ?_;refine pS HT_ 11 52 ?_;refine tS HT_ HW_ hHeld 12 53 ?_;refine tS HT_ HW_ hHeld 16 57 ?_;refine pS HT_ 17 58 ?_;refine pS HT_ 18 59 ?_
                refine done_ (done_of HT_.out (by kernel_rfl)) ?_
                have p358:0≤(x19_1:Int):=bD_
                have q358:x19_1 < (x333001_2.length:Int):=bD_
                obtain⟨ad358,A358_0,c358_0,e358,hx358_0,hx358_1,hx358_2,hl358_0,hi358_0⟩:=at_T34 (Kd.N_reads' HO_333001.out).2.2 x19_1 p358 q358
                obtain rfl:(⟨go22,0,none⟩:Addr)=ad358:=(by injection e358)
                obtain⟨ce358,hce358,hMe358,hcc358⟩:=Kd.N_get HO_333001.out z34 x19_1 p358 (by first|exact q358|exact bD_|(have e_:=(Kd.N_reads' HO_333001.out).1;omega))
                obtain⟨ua358_0,uc358_0,rfl,ul358_0,ge358_0⟩:=k34_openF hMe358
                have hv358_0:=hcc358 0 _ rfl
                rw[Nat.add_zero] at hv358_0
                replace hv358_0:=Option.some.inj (hv358_0.symm.trans hx358_0)
                injection hv358_0 with hva_ hvn_ hvc_
                rw[hva_] at ge358_0
                rw[hvc_] at ul358_0
                have HL358_0:=am (show Kd.V (Kd.int .i64) 3 _ w.heap.size _ _ ((rd_T34 x333001_2 x19_1).f0) from Kd.V_mk ul358_0 ge358_0)
                clear hva_ hvn_ hvc_ ge358_0 ul358_0 hcc358 hce358
                (first|simp only[add_plain] at hx358_0|simp only[add_at] at hx358_0|simp only[Addr.add,Nat.zero_add] at hx358_0|skip)
                (first|simp only[add_plain] at hx358_1|simp only[add_at] at hx358_1|simp only[Addr.add,Nat.zero_add] at hx358_1|skip)
                (first|simp only[add_plain] at hx358_2|simp only[add_at] at hx358_2|simp only[Addr.add,Nat.zero_add] at hx358_2|skip)
                have HR358_0:=am hi358_0
                have HC358_0:=am hl358_0
                clear hi358_0 hl358_0
                replace p358:=eq_true p358
                replace q358:=eq_true q358
                have ea_:=Option.some.inj (hx336_0.symm.trans hx358_0)
                injection ea_ with ea_ en_ ec_
                subst ea_
                subst ec_
                clear en_
                have p56:0≤(x19_1:Int):=bD_
                have q56:(x19_1:Int) < ((x333001_2.length:Int):Int):=bD_
                obtain⟨ce56,hcl56,hM56,hcc56,hfr56⟩:=Kd.N_elem HO_333001.out z34 (x19_1:Int) p56 q56
                obtain⟨ua56_0,uc56_0,rfl,ul56_0,ge56_0⟩:=k34_openF hM56
                have hx56_0:w57.cell? ⟨go22,(x19_1:Int).toNat * 3,none⟩=some (.slice ua56_0 ((rd_T34 x333001_2 x19_1).f0).length uc56_0):=hcc56 0 _ rfl
                have hx56_1:w57.cell? ⟨go22,(x19_1:Int).toNat * 3+1,none⟩=some (.int .i64 ((rd_T34 x333001_2 x19_1).f1)):=hcc56 1 _ rfl
                have hx56_2:w57.cell? ⟨go22,(x19_1:Int).toNat * 3+2,none⟩=some (.int .i64 ((rd_T34 x333001_2 x19_1).f2)):=hcc56 2 _ rfl
                have hf56_0:w57.frozen? ⟨go22,(x19_1:Int).toNat * 3,none⟩=false:=hfr56 0
                have hf56_1:w57.frozen? ⟨go22,(x19_1:Int).toNat * 3+1,none⟩=false:=hfr56 1
                have hf56_2:w57.frozen? ⟨go22,(x19_1:Int).toNat * 3+2,none⟩=false:=hfr56 2
                clear hcl56 hcc56 hfr56 hM56
                replace p56:=eq_true p56
                replace q56:=eq_true q56
                have HX58:=am (show Kd.N k34 34 w57 w.heap.size (fun k_=>(w.heap.size≤k_)∧some k_≠(u6:Value).ownBlock∧k_≠gb321∧k_≠gb322∧k_≠gb332) (.slice (some ⟨go22,0,none⟩) x333001_2.length co18) x333001_2 from (by(with_reducible repeat (first|apply Kd.N_alloc|apply Kd.N_drewN|apply Kd.N_drew));exact HO_333001.out))
                obtain⟨ce58,hcl58,hM58,hcc58,hfr58⟩:=Kd.N_elem HX58.out z34 (x19_1:Int) (bD_) (by have h_:(x19_1:Int) < ((x333001_2.length:Int):Int):=bD_;first|exact h_|(have e_:=(Kd.N_reads' HO_333001.out).1;omega)|simpa using h_)
                obtain⟨ua58_0,uc58_0,rfl,ul58_0,ge58_0⟩:=k34_openF hM58
                have HP58:=Kd.N_seg HX58.out (x19_1:Int) (bD_) (by have h_:(x19_1:Int) < ((x333001_2.length:Int):Int):=bD_;first|exact h_|(have e_:=(Kd.N_reads' HO_333001.out).1;omega)|simpa using h_) (seg:=[.int .i64 0]) (j:=1) hcl58 hcc58 (show 2≤3 from by decide) (x':=(⟨(rd_T34 x333001_2 x19_1).f0,0,(rd_T34 x333001_2 x19_1).f2⟩:S34)) (k34_mkF _ _ (⟨(rd_T34 x333001_2 x19_1).f0,0,(rd_T34 x333001_2 x19_1).f2⟩:S34) ul58_0 ge58_0) (fun _ hk=>hk)
                have hx58_1:=hcc58 1 _ rfl
                (try simp only[show(k34).sz=3 from rfl,Nat.mul_one,Nat.add_zero] at hx58_1)
                have hf58_1:=hfr58 1
                (try simp only[show(k34).sz=3 from rfl,Nat.mul_one,Nat.add_zero] at hf58_1)
                clear hcl58 hcc58 hfr58 hM58
                try go_wp2_with (first|((with_reducible refine gate_store (t:=3) (p:=106) rfl ?_);refine store_event (t:=3) (p:=106) (v:=?vo_w59) (w1:=(w57.setCell ⟨go22,(x19_1:Int).toNat * 3+1,none⟩ (.int .i64 0))) ?hg ?ho ?hn ?hr ?_;(case ho=>rfl);(case hg=>rfl);(case hn=>rfl);(case hr=>first|(go_simp;done)|(go_simp;rfl));intro w59 hw;have hg:w57.grownBy w59 (some go22):=(by rw[hw];exact HP58.2);have hp_:Kd.N k34 34 w59 w.heap.size (fun k_=>(w.heap.size≤k_)∧some k_≠(u6:Value).ownBlock∧k_≠gb321∧k_≠gb322∧k_≠gb332) (.slice (some ⟨go22,0,none⟩) x333001_2.length co18) y359:=(by rw[hw,Ny359.out];exact HP58.1);clear HP58;have n0_:=am (Kd.R_over' (v:=(.slice (some ⟨go22,0,none⟩) x333001_2.length co18)) (bK HO_6.out) (Kd.N_typed HO_333001.out) (by decide) hg);have n1_:=am (hp_);have n2_:=am (blk_grown (g:=gb321) (o:=.cells #[.int .i64 a0_0,.slice A0_1 l0_1.length c0_1,.int .i64 a0_2] 25 (0,0)) (bL BK321.out) hg (Kd.N_ne HO_333001.out BK321.out (by decide)));have n3_:=am (blk_grown (g:=gb322) (o:=.cells #[.int .i64 0,.slice none 0 0,.int .i64 0] 25 (0,0)) (bL BK322.out) hg (Kd.N_ne HO_333001.out BK322.out (by decide)));have n4_:=am (blk_grown (g:=gb332) (o:=.cells #[.int .i64 t324,.slice (some ⟨go22,0,none⟩) x333001_2.length co18,.int .i64 t328] 25 (0,0)) (bL BK332.out) hg (Kd.N_ne HO_333001.out BK332.out (by decide)));have n5_:=am (Kd.V_afterv (v:=(.slice (some ⟨go22,0,none⟩) x333001_2.length co18)) (v1:=(.slice (some ⟨go22,0,none⟩) x333001_2.length co18)) (ok:=(fun k_=>(w.heap.size≤k_)∧some k_≠(u6:Value).ownBlock∧k_≠gb321∧k_≠gb322∧k_≠gb332)) (by(with_reducible repeat (first|apply Kd.V_alloc|apply Kd.V_drewN|apply Kd.V_drew));exact HL336_0.out) hg (.inl rfl));have n6_:=am (Kd.V_afterv (v:=(.slice (some ⟨go22,0,none⟩) x333001_2.length co18)) (v1:=(.slice (some ⟨go22,0,none⟩) x333001_2.length co18)) (ok:=(fun k_=>(w.heap.size≤k_)∧some k_≠(u6:Value).ownBlock∧k_≠gb321∧k_≠gb322∧k_≠gb332)) (by(with_reducible repeat (first|apply Kd.V_alloc|apply Kd.V_drewN|apply Kd.V_drew));exact HL337_0.out) hg (.inl rfl));have n7_:=am (Kd.V_afterv (v:=(.slice (some ⟨go22,0,none⟩) x333001_2.length co18)) (v1:=(.slice (some ⟨go22,0,none⟩) x333001_2.length co18)) (ok:=(fun k_=>(w.heap.size≤k_)∧some k_≠(u6:Value).ownBlock∧k_≠gb321∧k_≠gb322∧k_≠gb332)) (by(with_reducible repeat (first|apply Kd.V_alloc|apply Kd.V_drewN|apply Kd.V_drew));exact HL339_0.out) hg (.inl rfl));have n8_:=am (Kd.V_afterv (v:=(.slice (some ⟨go22,0,none⟩) x333001_2.length co18)) (v1:=(.slice (some ⟨go22,0,none⟩) x333001_2.length co18)) (ok:=(fun k_=>(w.heap.size≤k_)∧some k_≠(u6:Value).ownBlock∧k_≠gb321∧k_≠gb322∧k_≠gb332)) (by(with_reducible repeat (first|apply Kd.V_alloc|apply Kd.V_drewN|apply Kd.V_drew));exact HL358_0.out) hg (.inl rfl));have n9_:=am ((by rw[hw];exact below_set (HB.out) GB22.out:Below w.heap.size w w59));clear HO_6 HO_333001 BK321 BK322 BK332 HL336_0 HL337_0 HL339_0 HL358_0 HB;have HO_6:=n0_;have HO_333001:=n1_;have BK321:=n2_;have BK322:=n3_;have BK332:=n4_;have HL336_0:=n5_;have HL337_0:=n6_;have HL339_0:=n7_;have HL358_0:=n8_;have HB:=n9_;clear n0_ n1_ n2_ n3_ n4_ n5_ n6_ n7_ n8_ n9_;clear hg hw hp_))
                (try simp only[← hl333001_1,← hl333001_2])
                go_roundg k2
                case measure=>have:=HK1.out;have:=HK2.out;omega
                case rel=>exact⟨(x6_2),(wrap64 (x19_1+1)),(y359),(bR),H',⟨by have:=HK1.out;have:=HK2.out;omega⟩,⟨by(try simp only[hl333001_1]);(try simp only[hl333001_2]);(with_reducible repeat (first|apply Kd.R_alloc|apply Kd.R_drewN|apply Kd.R_drew));exact HO_6.out⟩,⟨by(try simp only[hl333001_1]);(try simp only[hl333001_2]);(with_reducible repeat (first|apply Kd.N_alloc|apply Kd.N_drewN|apply Kd.N_drew));exact HO_333001.out⟩,⟨by(try simp only[hl333001_1]);(try simp only[hl333001_2]);(with_reducible repeat (first|refine blk_drewN ?_ _|refine blk_drew ?_|refine blk_alloc ?_ _));exact BK321.out⟩,⟨by(try simp only[hl333001_1]);(try simp only[hl333001_2]);(with_reducible repeat (first|refine blk_drewN ?_ _|refine blk_drew ?_|refine blk_alloc ?_ _));exact BK322.out⟩,⟨by(try simp only[hl333001_1]);(try simp only[hl333001_2]);(with_reducible repeat (first|refine blk_drewN ?_ _|refine blk_drew ?_|refine blk_alloc ?_ _));exact BK332.out⟩,⟨bS3 GE321.out GE322.out GE332.out⟩⟩
               ·rw[if_neg c55] at H
                have c55b0:((((rd_T34 x333001_2 x19_1).f0).length:Int) == 0)=false:=beq_eq_false_iff_ne.mpr c55
                have c55b1:((((rd_T34 x333001_2 x19_1).f0).length:Int) != 0)=true:=bne_iff_ne.mpr c55
                have c55b2 : ¬ (((rd_T34 x333001_2 x19_1).f0)=[]):=fun h_=>c55 (by rw[h_];rfl)
                have H':=am H
                clear H
                try go_wp2
                (try (rw[drewN_self wr];generalize hq_:World.drewN wr _=wr;have n0_:=am (Kd.R_at hq_ HO_6.out);have n1_:=am (Kd.N_at hq_ HO_333001.out);have n2_:=am (blk_at hq_ BK321.out);have n3_:=am (blk_at hq_ BK322.out);have n4_:=am (blk_at hq_ BK332.out);have n5_:=am (below_at hq_ HB.out);clear hq_ HO_6 HO_333001 BK321 BK322 BK332 HB;have HO_6:=n0_;have HO_333001:=n1_;have BK321:=n2_;have BK322:=n3_;have BK332:=n4_;have HB:=n5_;clear n0_ n1_ n2_ n3_ n4_ n5_))
                have n0_:=am (Kd.R_drew HO_6.out)
                have n1_:=am (Kd.N_drew HO_333001.out)
                have n2_:=am (blk_drew BK321.out)
                have n3_:=am (blk_drew BK322.out)
                have n4_:=am (blk_drew BK332.out)
                have n5_:=am (below_drew1 HB.out)
                clear HO_6 HO_333001 BK321 BK322 BK332 HB
                have HO_6:=n0_
                have HO_333001:=n1_
                have BK321:=n2_
                have BK322:=n3_
                have BK332:=n4_
                have HB:=n5_
                clear n0_ n1_ n2_ n3_ n4_ n5_
                have p336:0≤(x19_1:Int):=bD_
                have q336:x19_1 < (x333001_2.length:Int):=bD_
                obtain⟨ad336,A336_0,c336_0,e336,hx336_0,hx336_1,hx336_2,hl336_0,hi336_0⟩:=at_T34 (Kd.N_reads' HO_333001.out).2.2 x19_1 p336 q336
                obtain rfl:(⟨go22,0,none⟩:Addr)=ad336:=(by injection e336)
                obtain⟨ce336,hce336,hMe336,hcc336⟩:=Kd.N_get HO_333001.out z34 x19_1 p336 (by first|exact q336|exact bD_|(have e_:=(Kd.N_reads' HO_333001.out).1;omega))
                obtain⟨ua336_0,uc336_0,rfl,ul336_0,ge336_0⟩:=k34_openF hMe336
                have hv336_0:=hcc336 0 _ rfl
                rw[Nat.add_zero] at hv336_0
                replace hv336_0:=Option.some.inj (hv336_0.symm.trans hx336_0)
                injection hv336_0 with hva_ hvn_ hvc_
                rw[hva_] at ge336_0
                rw[hvc_] at ul336_0
                have HL336_0:=am (show Kd.V (Kd.int .i64) 3 _ w.heap.size _ _ ((rd_T34 x333001_2 x19_1).f0) from Kd.V_mk ul336_0 ge336_0)
                clear hva_ hvn_ hvc_ ge336_0 ul336_0 hcc336 hce336
                (first|simp only[add_plain] at hx336_0|simp only[add_at] at hx336_0|simp only[Addr.add,Nat.zero_add] at hx336_0|skip)
                (first|simp only[add_plain] at hx336_1|simp only[add_at] at hx336_1|simp only[Addr.add,Nat.zero_add] at hx336_1|skip)
                (first|simp only[add_plain] at hx336_2|simp only[add_at] at hx336_2|simp only[Addr.add,Nat.zero_add] at hx336_2|skip)
                have HR336_0:=am hi336_0
                have HC336_0:=am hl336_0
                clear hi336_0 hl336_0
                replace p336:=eq_true p336
                replace q336:=eq_true q336
                have p337:0≤(x19_1:Int):=bD_
                have q337:x19_1 < (x333001_2.length:Int):=bD_
                obtain⟨ad337,A337_0,c337_0,e337,hx337_0,hx337_1,hx337_2,hl337_0,hi337_0⟩:=at_T34 (Kd.N_reads' HO_333001.out).2.2 x19_1 p337 q337
                obtain rfl:(⟨go22,0,none⟩:Addr)=ad337:=(by injection e337)
                obtain⟨ce337,hce337,hMe337,hcc337⟩:=Kd.N_get HO_333001.out z34 x19_1 p337 (by first|exact q337|exact bD_|(have e_:=(Kd.N_reads' HO_333001.out).1;omega))
                obtain⟨ua337_0,uc337_0,rfl,ul337_0,ge337_0⟩:=k34_openF hMe337
                have hv337_0:=hcc337 0 _ rfl
                rw[Nat.add_zero] at hv337_0
                replace hv337_0:=Option.some.inj (hv337_0.symm.trans hx337_0)
                injection hv337_0 with hva_ hvn_ hvc_
                rw[hva_] at ge337_0
                rw[hvc_] at ul337_0
                have HL337_0:=am (show Kd.V (Kd.int .i64) 3 _ w.heap.size _ _ ((rd_T34 x333001_2 x19_1).f0) from Kd.V_mk ul337_0 ge337_0)
                clear hva_ hvn_ hvc_ ge337_0 ul337_0 hcc337 hce337
                (first|simp only[add_plain] at hx337_0|simp only[add_at] at hx337_0|simp only[Addr.add,Nat.zero_add] at hx337_0|skip)
                (first|simp only[add_plain] at hx337_1|simp only[add_at] at hx337_1|simp only[Addr.add,Nat.zero_add] at hx337_1|skip)
                (first|simp only[add_plain] at hx337_2|simp only[add_at] at hx337_2|simp only[Addr.add,Nat.zero_add] at hx337_2|skip)
                have HR337_0:=am hi337_0
                have HC337_0:=am hl337_0
                clear hi337_0 hl337_0
                replace p337:=eq_true p337
                replace q337:=eq_true q337
                have ea_:=Option.some.inj (hx336_0.symm.trans hx337_0)
                injection ea_ with ea_ en_ ec_
                subst ea_
                subst ec_
                clear en_
                have p338:0≤(0:Int):=(by omega)
                have q338:0 < (((rd_T34 x333001_2 x19_1).f0).length:Int):=bD_
                obtain⟨ad338,e338,hx338_0⟩:=Kd.at_int (by repeat (first|(with_reducible exact HR337_0.out)|(with_reducible refine Kd.C_alloc ?_ _)|(with_reducible refine Kd.C_drewN ?_ _)|(with_reducible refine Kd.C_drew ?_)|exact HR337_0.out)) 0 p338 q338
                cases e338
                have qi338:(0 < ((rd_T34 x333001_2 x19_1).f0).length)=True:=eq_true (by omega)
                (try rw[show((0:Int)).toNat=0 from rfl] at hx338_0)
                (try rw[Addr.add_zero'] at hx338_0)
                replace p338:=eq_true p338
                replace q338:=eq_true q338
                have p339:0≤(x19_1:Int):=bD_
                have q339:x19_1 < (x333001_2.length:Int):=bD_
                obtain⟨ad339,A339_0,c339_0,e339,hx339_0,hx339_1,hx339_2,hl339_0,hi339_0⟩:=at_T34 (Kd.N_reads' HO_333001.out).2.2 x19_1 p339 q339
                obtain rfl:(⟨go22,0,none⟩:Addr)=ad339:=(by injection e339)
                obtain⟨ce339,hce339,hMe339,hcc339⟩:=Kd.N_get HO_333001.out z34 x19_1 p339 (by first|exact q339|exact bD_|(have e_:=(Kd.N_reads' HO_333001.out).1;omega))
                obtain⟨ua339_0,uc339_0,rfl,ul339_0,ge339_0⟩:=k34_openF hMe339
                have hv339_0:=hcc339 0 _ rfl
                rw[Nat.add_zero] at hv339_0
                replace hv339_0:=Option.some.inj (hv339_0.symm.trans hx339_0)
                injection hv339_0 with hva_ hvn_ hvc_
                rw[hva_] at ge339_0
                rw[hvc_] at ul339_0
                have HL339_0:=am (show Kd.V (Kd.int .i64) 3 _ w.heap.size _ _ ((rd_T34 x333001_2 x19_1).f0) from Kd.V_mk ul339_0 ge339_0)
                clear hva_ hvn_ hvc_ ge339_0 ul339_0 hcc339 hce339
                (first|simp only[add_plain] at hx339_0|simp only[add_at] at hx339_0|simp only[Addr.add,Nat.zero_add] at hx339_0|skip)
                (first|simp only[add_plain] at hx339_1|simp only[add_at] at hx339_1|simp only[Addr.add,Nat.zero_add] at hx339_1|skip)
                (first|simp only[add_plain] at hx339_2|simp only[add_at] at hx339_2|simp only[Addr.add,Nat.zero_add] at hx339_2|skip)
                have HR339_0:=am hi339_0
                have HC339_0:=am hl339_0
                clear hi339_0 hl339_0
                replace p339:=eq_true p339
                replace q339:=eq_true q339
                have ea_:=Option.some.inj (hx336_0.symm.trans hx339_0)
                injection ea_ with ea_ en_ ec_
                subst ea_
                subst ec_
                clear en_
                refine start_ (n:=19) (S:=fun w'=>w'.cell? ⟨go22,(x19_1).toNat * 3,none⟩=some (.slice (some ad338) ((rd_T34 x333001_2 x19_1).f0).length c336_0)∧w'.cell? ⟨go22,(x19_1).toNat * 3+1,none⟩=some (.int .i64 ((rd_T34 x333001_2 x19_1).f1))∧w'.cell? ⟨go22,(x19_1).toNat * 3+2,none⟩=some (.int .i64 ((rd_T34 x333001_2 x19_1).f2))∧w'.cell? ⟨go22,(x19_1).toNat * 3,none⟩=some (.slice (some ad338) ((rd_T34 x333001_2 x19_1).f0).length c336_0)∧w'.cell? ⟨go22,(x19_1).toNat * 3+1,none⟩=some (.int .i64 ((rd_T34 x333001_2 x19_1).f1))∧w'.cell? ⟨go22,(x19_1).toNat * 3+2,none⟩=some (.int .i64 ((rd_T34 x333001_2 x19_1).f2))∧w'.cell? ad338=some (.int .i64 (rd ((rd_T34 x333001_2 x19_1).f0) 0))∧w'.cell? ⟨go22,(x19_1).toNat * 3,none⟩=some (.slice (some ad338) ((rd_T34 x333001_2 x19_1).f0).length c336_0)∧w'.cell? ⟨go22,(x19_1).toNat * 3+1,none⟩=some (.int .i64 ((rd_T34 x333001_2 x19_1).f1))∧w'.cell? ⟨go22,(x19_1).toNat * 3+2,none⟩=some (.int .i64 ((rd_T34 x333001_2 x19_1).f2))) (ds:=[]) #[false,false,false,false,false,false,false,false,false,false,false,false,false,false,false,false,false,false,false] (by kernel_rfl) rfl rfl ⟨hx336_0,hx336_1,hx336_2,hx337_0,hx337_1,hx337_2,hx338_0,hx339_0,hx339_1,hx339_2⟩ (fun hHeld => ?_);refine with_tabW impl_NextRound.tab10 impl_NextRound.bits10 (fun HT_ HW_ => ?_)
                generalize wr.drew=w60 at HO_6 HO_333001 BK321 BK322 BK332 HB HL336_0 HL337_0 HL339_0 HR336_0 HR337_0 HR339_0 hx336_0 hx336_1 hx336_2 hx337_0 hx337_1 hx337_2 hx338_0 hx339_0 hx339_1 hx339_2 hHeld ⊢
                refine pS HT_ 0 41 ?_;refine pS HT_ 1 42 ?_;refine pS HT_ 2 43 ?_;refine tS HT_ HW_ hHeld 3 44 ?_;refine pS HT_ 4 45 ?_;refine pS HT_ 5 46 ?_;refine pS HT_ 6 47 ?_;refine pS HT_ 7 48 ?_;refine pS HT_ 8 49 ?_;refine pS HT_ 9 50 ?_;refine pS HT_ 13 54 ?_;refine pS HT_ 14 55 ?_;refine pS HT_ 15 56 ?_;refine tS HT_ HW_ hHeld 10 51 ?_;refine pS HT_ 11 52 ?_;refine tS HT_ HW_ hHeld 12 53 ?_;refine tS HT_ HW_ hHeld 16 57 ?_;refine pS HT_ 17 58 ?_;refine pS HT_ 18 59 ?_
                refine done_ (done_of HT_.out (by kernel_rfl)) ?_
                have p358:0≤(x19_1:Int):=bD_
                have q358:x19_1 < (x333001_2.length:Int):=bD_
                obtain⟨ad358,A358_0,c358_0,e358,hx358_0,hx358_1,hx358_2,hl358_0,hi358_0⟩:=at_T34 (Kd.N_reads' HO_333001.out).2.2 x19_1 p358 q358
                obtain rfl:(⟨go22,0,none⟩:Addr)=ad358:=(by injection e358)
                obtain⟨ce358,hce358,hMe358,hcc358⟩:=Kd.N_get HO_333001.out z34 x19_1 p358 (by first|exact q358|exact bD_|(have e_:=(Kd.N_reads' HO_333001.out).1;omega))
                obtain⟨ua358_0,uc358_0,rfl,ul358_0,ge358_0⟩:=k34_openF hMe358
                have hv358_0:=hcc358 0 _ rfl
                rw[Nat.add_zero] at hv358_0
                replace hv358_0:=Option.some.inj (hv358_0.symm.trans hx358_0)
                injection hv358_0 with hva_ hvn_ hvc_
                rw[hva_] at ge358_0
                rw[hvc_] at ul358_0
                have HL358_0:=am (show Kd.V (Kd.int .i64) 3 _ w.heap.size _ _ ((rd_T34 x333001_2 x19_1).f0) from Kd.V_mk ul358_0 ge358_0)
                clear hva_ hvn_ hvc_ ge358_0 ul358_0 hcc358 hce358
                (first|simp only[add_plain] at hx358_0|simp only[add_at] at hx358_0|simp only[Addr.add,Nat.zero_add] at hx358_0|skip)
                (first|simp only[add_plain] at hx358_1|simp only[add_at] at hx358_1|simp only[Addr.add,Nat.zero_add] at hx358_1|skip)
                (first|simp only[add_plain] at hx358_2|simp only[add_at] at hx358_2|simp only[Addr.add,Nat.zero_add] at hx358_2|skip)
                have HR358_0:=am hi358_0
                have HC358_0:=am hl358_0
                clear hi358_0 hl358_0
                replace p358:=eq_true p358
                replace q358:=eq_true q358
                have ea_:=Option.some.inj (hx336_0.symm.trans hx358_0)
                injection ea_ with ea_ en_ ec_
                subst ea_
                subst ec_
                clear en_
                try go_wp2
                (try simp only[← hl333001_1,← hl333001_2])
                go_roundg k2
                case measure=>have:=HK1.out;have:=HK2.out;omega
                case rel=>exact⟨(x6_2),(wrap64 (x19_1+1)),(x333001_2),(bR),H',⟨by have:=HK1.out;have:=HK2.out;omega⟩,⟨by(try simp only[hl333001_1]);(try simp only[hl333001_2]);(with_reducible repeat (first|apply Kd.R_alloc|apply Kd.R_drewN|apply Kd.R_drew));exact HO_6.out⟩,⟨by(try simp only[hl333001_1]);(try simp only[hl333001_2]);(with_reducible repeat (first|apply Kd.N_alloc|apply Kd.N_drewN|apply Kd.N_drew));exact HO_333001.out⟩,⟨by(try simp only[hl333001_1]);(try simp only[hl333001_2]);(with_reducible repeat (first|refine blk_drewN ?_ _|refine blk_drew ?_|refine blk_alloc ?_ _));exact BK321.out⟩,⟨by(try simp only[hl333001_1]);(try simp only[hl333001_2]);(with_reducible repeat (first|refine blk_drewN ?_ _|refine blk_drew ?_|refine blk_alloc ?_ _));exact BK322.out⟩,⟨by(try simp only[hl333001_1]);(try simp only[hl333001_2]);(with_reducible repeat (first|refine blk_drewN ?_ _|refine blk_drew ?_|refine blk_alloc ?_ _));exact BK332.out⟩,⟨bS3 GE321.out GE322.out GE332.out⟩⟩
             ·rw[if_neg c36] at H
              exact absurd H (by simp)
            ·rw[if_neg c35] at H
             have c35b0:decide (0 < (((rd_T34 x333001_2 x19_1).f0).length:Int))=false:=decide_eq_false c35
             have c35b1:decide (0 < ((rd_T34 x333001_2 x19_1).f0).length)=false:=decide_eq_false (by omega)
             clear c35
             by_cases c61:(((rd_T34 x333001_2 x19_1).f0).length:Int)=0
             ·rw[if_pos c61] at H
              have c61b0:((((rd_T34 x333001_2 x19_1).f0).length:Int) == 0)=true:=beq_iff_eq.mpr c61
              have c61b1:((((rd_T34 x333001_2 x19_1).f0).length:Int) != 0)=false:=bne_eq_false_iff_eq.mpr c61
              clear c61
              obtain⟨y361,hy361⟩ : ∃ y_:List (S34),y_=(x333001_2.set (x19_1:Int).toNat (⟨(rd_T34 x333001_2 x19_1).f0,0,(rd_T34 x333001_2 x19_1).f2⟩:S34)):=⟨_,rfl⟩
              replace H:(impl_NextRound.l0 k2 x6_2 (t325.length:Int) (wrap64 (x19_1+1)) t324 y361 t328)=some (r1,r2,r3,r4,r5):=by first|(rw[hy361];with_reducible exact H)|(have H2_:=(Option.bind_some _ _).symm.trans H;rw[hy361];with_reducible exact H2_)|(have H2_:=(Option.bind_some _ _).symm.trans H;with_reducible exact H2_)|with_reducible exact H|(rw[hy361];exact H)|exact H
              have Ny361:=am hy361
              clear hy361
              have H':=am H
              clear H
              try go_wp2
              (try (rw[drewN_self wr];generalize hq_:World.drewN wr _=wr;have n0_:=am (Kd.R_at hq_ HO_6.out);have n1_:=am (Kd.N_at hq_ HO_333001.out);have n2_:=am (blk_at hq_ BK321.out);have n3_:=am (blk_at hq_ BK322.out);have n4_:=am (blk_at hq_ BK332.out);have n5_:=am (below_at hq_ HB.out);clear hq_ HO_6 HO_333001 BK321 BK322 BK332 HB;have HO_6:=n0_;have HO_333001:=n1_;have BK321:=n2_;have BK322:=n3_;have BK332:=n4_;have HB:=n5_;clear n0_ n1_ n2_ n3_ n4_ n5_))
              have n0_:=am (Kd.R_drew HO_6.out)
              have n1_:=am (Kd.N_drew HO_333001.out)
              have n2_:=am (blk_drew BK321.out)
              have n3_:=am (blk_drew BK322.out)
              have n4_:=am (blk_drew BK332.out)
              have n5_:=am (below_drew1 HB.out)
              clear HO_6 HO_333001 BK321 BK322 BK332 HB
              have HO_6:=n0_
              have HO_333001:=n1_
              have BK321:=n2_
              have BK322:=n3_
              have BK332:=n4_
              have HB:=n5_
              clear n0_ n1_ n2_ n3_ n4_ n5_
              have p336:0≤(x19_1:Int):=bD_
              have q336:x19_1 < (x333001_2.length:Int):=bD_
              obtain⟨ad336,A336_0,c336_0,e336,hx336_0,hx336_1,hx336_2,hl336_0,hi336_0⟩:=at_T34 (Kd.N_reads' HO_333001.out).2.2 x19_1 p336 q336
              obtain rfl:(⟨go22,0,none⟩:Addr)=ad336:=(by injection e336)
              obtain⟨ce336,hce336,hMe336,hcc336⟩:=Kd.N_get HO_333001.out z34 x19_1 p336 (by first|exact q336|exact bD_|(have e_:=(Kd.N_reads' HO_333001.out).1;omega))
              obtain⟨ua336_0,uc336_0,rfl,ul336_0,ge336_0⟩:=k34_openF hMe336
              have hv336_0:=hcc336 0 _ rfl
              rw[Nat.add_zero] at hv336_0
              replace hv336_0:=Option.some.inj (hv336_0.symm.trans hx336_0)
              injection hv336_0 with hva_ hvn_ hvc_
              rw[hva_] at ge336_0
              rw[hvc_] at ul336_0
              have HL336_0:=am (show Kd.V (Kd.int .i64) 3 _ w.heap.size _ _ ((rd_T34 x333001_2 x19_1).f0) from Kd.V_mk ul336_0 ge336_0)
              clear hva_ hvn_ hvc_ ge336_0 ul336_0 hcc336 hce336
              (first|simp only[add_plain] at hx336_0|simp only[add_at] at hx336_0|simp only[Addr.add,Nat.zero_add] at hx336_0|skip)
              (first|simp only[add_plain] at hx336_1|simp only[add_at] at hx336_1|simp only[Addr.add,Nat.zero_add] at hx336_1|skip)
              (first|simp only[add_plain] at hx336_2|simp only[add_at] at hx336_2|simp only[Addr.add,Nat.zero_add] at hx336_2|skip)
              have HR336_0:=am hi336_0
              have HC336_0:=am hl336_0
              clear hi336_0 hl336_0
              replace p336:=eq_true p336
              replace q336:=eq_true q336
              refine start_ (n:=19) (S:=fun w'=>w'.cell? ⟨go22,(x19_1).toNat * 3,none⟩=some (.slice A336_0 ((rd_T34 x333001_2 x19_1).f0).length c336_0)∧w'.cell? ⟨go22,(x19_1).toNat * 3+1,none⟩=some (.int .i64 ((rd_T34 x333001_2 x19_1).f1))∧w'.cell? ⟨go22,(x19_1).toNat * 3+2,none⟩=some (.int .i64 ((rd_T34 x333001_2 x19_1).f2))) (ds:=[]) #[false,false,false,false,false,false,false,false,false,false,false,false,false,false,false,false,false,false,false] (by kernel_rfl) rfl rfl ⟨hx336_0,hx336_1,hx336_2⟩ (fun hHeld => ?_);refine with_tabW impl_NextRound.tab10 impl_NextRound.bits10 (fun HT_ HW_ => ?_)
              generalize wr.drew=w63 at HO_6 HO_333001 BK321 BK322 BK332 HB HL336_0 HR336_0 hx336_0 hx336_1 hx336_2 hHeld ⊢
              refine pS HT_ 0 41 ?_;refine pS HT_ 1 42 ?_;refine pS HT_ 2 43 ?_;refine tS HT_ HW_ hHeld 3 44 ?_;refine pS HT_ 4 45 ?_;refine pS HT_ 5 46 ?_;refine pS HT_ 6 47 ?_;refine uS HT_ 7 48 ?_;refine uS HT_ 8 49 ?_;refine uS HT_ 9 50 ?_;refine uS HT_ 10 51 ?_;refine uS HT_ 11 52 ?_;refine uS HT_ 12 53 ?_;refine uS HT_ 13 54 ?_;refine uS HT_ 14 55 ?_;refine uS HT_ 15 56 ?_;refine uS HT_ 16 57 ?_;refine uS HT_ 17 58 ?_;refine pS HT_ 18 59 ?_
              refine done_ (done_of HT_.out (by kernel_rfl)) ?_
              have p360:0≤(x19_1:Int):=bD_
              have q360:x19_1 < (x333001_2.length:Int):=bD_
              obtain⟨ad360,A360_0,c360_0,e360,hx360_0,hx360_1,hx360_2,hl360_0,hi360_0⟩:=at_T34 (Kd.N_reads' HO_333001.out).2.2 x19_1 p360 q360
              obtain rfl:(⟨go22,0,none⟩:Addr)=ad360:=(by injection e360)
              obtain⟨ce360,hce360,hMe360,hcc360⟩:=Kd.N_get HO_333001.out z34 x19_1 p360 (by first|exact q360|exact bD_|(have e_:=(Kd.N_reads' HO_333001.out).1;omega))
              obtain⟨ua360_0,uc360_0,rfl,ul360_0,ge360_0⟩:=k34_openF hMe360
              have hv360_0:=hcc360 0 _ rfl
              rw[Nat.add_zero] at hv360_0
              replace hv360_0:=Option.some.inj (hv360_0.symm.trans hx360_0)
              injection hv360_0 with hva_ hvn_ hvc_
              rw[hva_] at ge360_0
              rw[hvc_] at ul360_0
              have HL360_0:=am (show Kd.V (Kd.int .i64) 3 _ w.heap.size _ _ ((rd_T34 x333001_2 x19_1).f0) from Kd.V_mk ul360_0 ge360_0)
              clear hva_ hvn_ hvc_ ge360_0 ul360_0 hcc360 hce360
              (first|simp only[add_plain] at hx360_0|simp only[add_at] at hx360_0|simp only[Addr.add,Nat.zero_add] at hx360_0|skip)
              (first|simp only[add_plain] at hx360_1|simp only[add_at] at hx360_1|simp only[Addr.add,Nat.zero_add] at hx360_1|skip)
              (first|simp only[add_plain] at hx360_2|simp only[add_at] at hx360_2|simp only[Addr.add,Nat.zero_add] at hx360_2|skip)
              have HR360_0:=am hi360_0
              have HC360_0:=am hl360_0
              clear hi360_0 hl360_0
              replace p360:=eq_true p360
              replace q360:=eq_true q360
              have ea_:=Option.some.inj (hx336_0.symm.trans hx360_0)
              injection ea_ with ea_ en_ ec_
              subst ea_
              subst ec_
              clear en_
              have p62:0≤(x19_1:Int):=bD_
              have q62:(x19_1:Int) < ((x333001_2.length:Int):Int):=bD_
              obtain⟨ce62,hcl62,hM62,hcc62,hfr62⟩:=Kd.N_elem HO_333001.out z34 (x19_1:Int) p62 q62
              obtain⟨ua62_0,uc62_0,rfl,ul62_0,ge62_0⟩:=k34_openF hM62
              have hx62_0:w63.cell? ⟨go22,(x19_1:Int).toNat * 3,none⟩=some (.slice ua62_0 ((rd_T34 x333001_2 x19_1).f0).length uc62_0):=hcc62 0 _ rfl
              have hx62_1:w63.cell? ⟨go22,(x19_1:Int).toNat * 3+1,none⟩=some (.int .i64 ((rd_T34 x333001_2 x19_1).f1)):=hcc62 1 _ rfl
              have hx62_2:w63.cell? ⟨go22,(x19_1:Int).toNat * 3+2,none⟩=some (.int .i64 ((rd_T34 x333001_2 x19_1).f2)):=hcc62 2 _ rfl
              have hf62_0:w63.frozen? ⟨go22,(x19_1:Int).toNat * 3,none⟩=false:=hfr62 0
              have hf62_1:w63.frozen? ⟨go22,(x19_1:Int).toNat * 3+1,none⟩=false:=hfr62 1
              have hf62_2:w63.frozen? ⟨go22,(x19_1:Int).toNat * 3+2,none⟩=false:=hfr62 2
              clear hcl62 hcc62 hfr62 hM62
              replace p62:=eq_true p62
              replace q62:=eq_true q62
              have HX64:=am (show Kd.N k34 34 w63 w.heap.size (fun k_=>(w.heap.size≤k_)∧some k_≠(u6:Value).ownBlock∧k_≠gb321∧k_≠gb322∧k_≠gb332) (.slice (some ⟨go22,0,none⟩) x333001_2.length co18) x333001_2 from (by(with_reducible repeat (first|apply Kd.N_alloc|apply Kd.N_drewN|apply Kd.N_drew));exact HO_333001.out))
              obtain⟨ce64,hcl64,hM64,hcc64,hfr64⟩:=Kd.N_elem HX64.out z34 (x19_1:Int) (bD_) (by have h_:(x19_1:Int) < ((x333001_2.length:Int):Int):=bD_;first|exact h_|(have e_:=(Kd.N_reads' HO_333001.out).1;omega)|simpa using h_)
              obtain⟨ua64_0,uc64_0,rfl,ul64_0,ge64_0⟩:=k34_openF hM64
              have HP64:=Kd.N_seg HX64.out (x19_1:Int) (bD_) (by have h_:(x19_1:Int) < ((x333001_2.length:Int):Int):=bD_;first|exact h_|(have e_:=(Kd.N_reads' HO_333001.out).1;omega)|simpa using h_) (seg:=[.int .i64 0]) (j:=1) hcl64 hcc64 (show 2≤3 from by decide) (x':=(⟨(rd_T34 x333001_2 x19_1).f0,0,(rd_T34 x333001_2 x19_1).f2⟩:S34)) (k34_mkF _ _ (⟨(rd_T34 x333001_2 x19_1).f0,0,(rd_T34 x333001_2 x19_1).f2⟩:S34) ul64_0 ge64_0) (fun _ hk=>hk)
              have hx64_1:=hcc64 1 _ rfl
              (try simp only[show(k34).sz=3 from rfl,Nat.mul_one,Nat.add_zero] at hx64_1)
              have hf64_1:=hfr64 1
              (try simp only[show(k34).sz=3 from rfl,Nat.mul_one,Nat.add_zero] at hf64_1)
              clear hcl64 hcc64 hfr64 hM64
              try go_wp2_with (first|((with_reducible refine gate_store (t:=3) (p:=106) rfl ?_);refine store_event (t:=3) (p:=106) (v:=?vo_w65) (w1:=(w63.setCell ⟨go22,(x19_1:Int).toNat * 3+1,none⟩ (.int .i64 0))) ?hg ?ho ?hn ?hr ?_;(case ho=>rfl);(case hg=>rfl);(case hn=>rfl);(case hr=>first|(go_simp;done)|(go_simp;rfl));intro w65 hw;have hg:w63.grownBy w65 (some go22):=(by rw[hw];exact HP64.2);have hp_:Kd.N k34 34 w65 w.heap.size (fun k_=>(w.heap.size≤k_)∧some k_≠(u6:Value).ownBlock∧k_≠gb321∧k_≠gb322∧k_≠gb332) (.slice (some ⟨go22,0,none⟩) x333001_2.length co18) y361:=(by rw[hw,Ny361.out];exact HP64.1);clear HP64;have n0_:=am (Kd.R_over' (v:=(.slice (some ⟨go22,0,none⟩) x333001_2.length co18)) (bK HO_6.out) (Kd.N_typed HO_333001.out) (by decide) hg);have n1_:=am (hp_);have n2_:=am (blk_grown (g:=gb321) (o:=.cells #[.int .i64 a0_0,.slice A0_1 l0_1.length c0_1,.int .i64 a0_2] 25 (0,0)) (bL BK321.out) hg (Kd.N_ne HO_333001.out BK321.out (by decide)));have n3_:=am (blk_grown (g:=gb322) (o:=.cells #[.int .i64 0,.slice none 0 0,.int .i64 0] 25 (0,0)) (bL BK322.out) hg (Kd.N_ne HO_333001.out BK322.out (by decide)));have n4_:=am (blk_grown (g:=gb332) (o:=.cells #[.int .i64 t324,.slice (some ⟨go22,0,none⟩) x333001_2.length co18,.int .i64 t328] 25 (0,0)) (bL BK332.out) hg (Kd.N_ne HO_333001.out BK332.out (by decide)));have n5_:=am (Kd.V_afterv (v:=(.slice (some ⟨go22,0,none⟩) x333001_2.length co18)) (v1:=(.slice (some ⟨go22,0,none⟩) x333001_2.length co18)) (ok:=(fun k_=>(w.heap.size≤k_)∧some k_≠(u6:Value).ownBlock∧k_≠gb321∧k_≠gb322∧k_≠gb332)) (by(with_reducible repeat (first|apply Kd.V_alloc|apply Kd.V_drewN|apply Kd.V_drew));exact HL336_0.out) hg (.inl rfl));have n6_:=am (Kd.V_afterv (v:=(.slice (some ⟨go22,0,none⟩) x333001_2.length co18)) (v1:=(.slice (some ⟨go22,0,none⟩) x333001_2.length co18)) (ok:=(fun k_=>(w.heap.size≤k_)∧some k_≠(u6:Value).ownBlock∧k_≠gb321∧k_≠gb322∧k_≠gb332)) (by(with_reducible repeat (first|apply Kd.V_alloc|apply Kd.V_drewN|apply Kd.V_drew));exact HL360_0.out) hg (.inl rfl));have n7_:=am ((by rw[hw];exact below_set (HB.out) GB22.out:Below w.heap.size w w65));clear HO_6 HO_333001 BK321 BK322 BK332 HL336_0 HL360_0 HB;have HO_6:=n0_;have HO_333001:=n1_;have BK321:=n2_;have BK322:=n3_;have BK332:=n4_;have HL336_0:=n5_;have HL360_0:=n6_;have HB:=n7_;clear n0_ n1_ n2_ n3_ n4_ n5_ n6_ n7_;clear hg hw hp_))
              (try simp only[← hl333001_1,← hl333001_2])
              go_roundg k2
              case measure=>have:=HK1.out;have:=HK2.out;omega
              case rel=>exact⟨(x6_2),(wrap64 (x19_1+1)),(y361),(bR),H',⟨by have:=HK1.out;have:=HK2.out;omega⟩,⟨by(try simp only[hl333001_1]);(try simp only[hl333001_2]);(with_reducible repeat (first|apply Kd.R_alloc|apply Kd.R_drewN|apply Kd.R_drew));exact HO_6.out⟩,⟨by(try simp only[hl333001_1]);(try simp only[hl333001_2]);(with_reducible repeat (first|apply Kd.N_alloc|apply Kd.N_drewN|apply Kd.N_drew));exact HO_333001.out⟩,⟨by(try simp only[hl333001_1]);(try simp only[hl333001_2]);(with_reducible repeat (first|refine blk_drewN ?_ _|refine blk_drew ?_|refine blk_alloc ?_ _));exact BK321.out⟩,⟨by(try simp only[hl333001_1]);(try simp only[hl333001_2]);(with_reducible repeat (first|refine blk_drewN ?_ _|refine blk_drew ?_|refine blk_alloc ?_ _));exact BK322.out⟩,⟨by(try simp only[hl333001_1]);(try simp only[hl333001_2]);(with_reducible repeat (first|refine blk_drewN ?_ _|refine blk_drew ?_|refine blk_alloc ?_ _));exact BK332.out⟩,⟨bS3 GE321.out GE322.out GE332.out⟩⟩
             ·rw[if_neg c61] at H
              have c61b0:((((rd_T34 x333001_2 x19_1).f0).length:Int) == 0)=false:=beq_eq_false_iff_ne.mpr c61
              have c61b1:((((rd_T34 x333001_2 x19_1).f0).length:Int) != 0)=true:=bne_iff_ne.mpr c61
              have c61b2 : ¬ (((rd_T34 x333001_2 x19_1).f0)=[]):=fun h_=>c61 (by rw[h_];rfl)
              have H':=am H
              clear H
              try go_wp2
              (try (rw[drewN_self wr];generalize hq_:World.drewN wr _=wr;have n0_:=am (Kd.R_at hq_ HO_6.out);have n1_:=am (Kd.N_at hq_ HO_333001.out);have n2_:=am (blk_at hq_ BK321.out);have n3_:=am (blk_at hq_ BK322.out);have n4_:=am (blk_at hq_ BK332.out);have n5_:=am (below_at hq_ HB.out);clear hq_ HO_6 HO_333001 BK321 BK322 BK332 HB;have HO_6:=n0_;have HO_333001:=n1_;have BK321:=n2_;have BK322:=n3_;have BK332:=n4_;have HB:=n5_;clear n0_ n1_ n2_ n3_ n4_ n5_))
              have n0_:=am (Kd.R_drew HO_6.out)
              have n1_:=am (Kd.N_drew HO_333001.out)
              have n2_:=am (blk_drew BK321.out)
              have n3_:=am (blk_drew BK322.out)
              have n4_:=am (blk_drew BK332.out)
              have n5_:=am (below_drew1 HB.out)
              clear HO_6 HO_333001 BK321 BK322 BK332 HB
              have HO_6:=n0_
              have HO_333001:=n1_
              have BK321:=n2_
              have BK322:=n3_
              have BK332:=n4_
              have HB:=n5_
              clear n0_ n1_ n2_ n3_ n4_ n5_
              have p336:0≤(x19_1:Int):=bD_
              have q336:x19_1 < (x333001_2.length:Int):=bD_
              obtain⟨ad336,A336_0,c336_0,e336,hx336_0,hx336_1,hx336_2,hl336_0,hi336_0⟩:=at_T34 (Kd.N_reads' HO_333001.out).2.2 x19_1 p336 q336
              obtain rfl:(⟨go22,0,none⟩:Addr)=ad336:=(by injection e336)
              obtain⟨ce336,hce336,hMe336,hcc336⟩:=Kd.N_get HO_333001.out z34 x19_1 p336 (by first|exact q336|exact bD_|(have e_:=(Kd.N_reads' HO_333001.out).1;omega))
              obtain⟨ua336_0,uc336_0,rfl,ul336_0,ge336_0⟩:=k34_openF hMe336
              have hv336_0:=hcc336 0 _ rfl
              rw[Nat.add_zero] at hv336_0
              replace hv336_0:=Option.some.inj (hv336_0.symm.trans hx336_0)
              injection hv336_0 with hva_ hvn_ hvc_
              rw[hva_] at ge336_0
              rw[hvc_] at ul336_0
              have HL336_0:=am (show Kd.V (Kd.int .i64) 3 _ w.heap.size _ _ ((rd_T34 x333001_2 x19_1).f0) from Kd.V_mk ul336_0 ge336_0)
              clear hva_ hvn_ hvc_ ge336_0 ul336_0 hcc336 hce336
              (first|simp only[add_plain] at hx336_0|simp only[add_at] at hx336_0|simp only[Addr.add,Nat.zero_add] at hx336_0|skip)
              (first|simp only[add_plain] at hx336_1|simp only[add_at] at hx336_1|simp only[Addr.add,Nat.zero_add] at hx336_1|skip)
              (first|simp only[add_plain] at hx336_2|simp only[add_at] at hx336_2|simp only[Addr.add,Nat.zero_add] at hx336_2|skip)
              have HR336_0:=am hi336_0
              have HC336_0:=am hl336_0
              clear hi336_0 hl336_0
              replace p336:=eq_true p336
              replace q336:=eq_true q336
              refine start_ (n:=19) (S:=fun w'=>w'.cell? ⟨go22,(x19_1).toNat * 3,none⟩=some (.slice A336_0 ((rd_T34 x333001_2 x19_1).f0).length c336_0)∧w'.cell? ⟨go22,(x19_1).toNat * 3+1,none⟩=some (.int .i64 ((rd_T34 x333001_2 x19_1).f1))∧w'.cell? ⟨go22,(x19_1).toNat * 3+2,none⟩=some (.int .i64 ((rd_T34 x333001_2 x19_1).f2))) (ds:=[]) #[false,false,false,false,false,false,false,false,false,false,false,false,false,false,false,false,false,false,false] (by kernel_rfl) rfl rfl ⟨hx336_0,hx336_1,hx336_2⟩ (fun hHeld => ?_);refine with_tabW impl_NextRound.tab10 impl_NextRound.bits10 (fun HT_ HW_ => ?_)
              generalize wr.drew=w66 at HO_6 HO_333001 BK321 BK322 BK332 HB HL336_0 HR336_0 hx336_0 hx336_1 hx336_2 hHeld ⊢
              refine pS HT_ 0 41 ?_;refine pS HT_ 1 42 ?_;refine pS HT_ 2 43 ?_;refine tS HT_ HW_ hHeld 3 44 ?_;refine pS HT_ 4 45 ?_;refine pS HT_ 5 46 ?_;refine pS HT_ 6 47 ?_;refine uS HT_ 7 48 ?_;refine uS HT_ 8 49 ?_;refine uS HT_ 9 50 ?_;refine uS HT_ 10 51 ?_;refine uS HT_ 11 52 ?_;refine uS HT_ 12 53 ?_;refine uS HT_ 13 54 ?_;refine uS HT_ 14 55 ?_;refine uS HT_ 15 56 ?_;refine uS HT_ 16 57 ?_;refine uS HT_ 17 58 ?_;refine pS HT_ 18 59 ?_
              refine done_ (done_of HT_.out (by kernel_rfl)) ?_
              have p360:0≤(x19_1:Int):=bD_
              have q360:x19_1 < (x333001_2.length:Int):=bD_
              obtain⟨ad360,A360_0,c360_0,e360,hx360_0,hx360_1,hx360_2,hl360_0,hi360_0⟩:=at_T34 (Kd.N_reads' HO_333001.out).2.2 x19_1 p360 q360
              obtain rfl:(⟨go22,0,none⟩:Addr)=ad360:=(by injection e360)
              obtain⟨ce360,hce360,hMe360,hcc360⟩:=Kd.N_get HO_333001.out z34 x19_1 p360 (by first|exact q360|exact bD_|(have e_:=(Kd.N_reads' HO_333001.out).1;omega))
              obtain⟨ua360_0,uc360_0,rfl,ul360_0,ge360_0⟩:=k34_openF hMe360
              have hv360_0:=hcc360 0 _ rfl
              rw[Nat.add_zero] at hv360_0
              replace hv360_0:=Option.some.inj (hv360_0.symm.trans hx360_0)
              injection hv360_0 with hva_ hvn_ hvc_
              rw[hva_] at ge360_0
              rw[hvc_] at ul360_0
              have HL360_0:=am (show Kd.V (Kd.int .i64) 3 _ w.heap.size _ _ ((rd_T34 x333001_2 x19_1).f0) from Kd.V_mk ul360_0 ge360_0)
              clear hva_ hvn_ hvc_ ge360_0 ul360_0 hcc360 hce360
              (first|simp only[add_plain] at hx360_0|simp only[add_at] at hx360_0|simp only[Addr.add,Nat.zero_add] at hx360_0|skip)
              (first|simp only[add_plain] at hx360_1|simp only[add_at] at hx360_1|simp only[Addr.add,Nat.zero_add] at hx360_1|skip)
              (first|simp only[add_plain] at hx360_2|simp only[add_at] at hx360_2|simp only[Addr.add,Nat.zero_add] at hx360_2|skip)
              have HR360_0:=am hi360_0
              have HC360_0:=am hl360_0
              clear hi360_0 hl360_0
              replace p360:=eq_true p360
              replace q360:=eq_true q360
              have ea_:=Option.some.inj (hx336_0.symm.trans hx360_0)
              injection ea_ with ea_ en_ ec_
              subst ea_
              subst ec_
              clear en_
              try go_wp2
              (try simp only[← hl333001_1,← hl333001_2])
              go_roundg k2
              case measure=>have:=HK1.out;have:=HK2.out;omega
              case rel=>exact⟨(x6_2),(wrap64 (x19_1+1)),(x333001_2),(bR),H',⟨by have:=HK1.out;have:=HK2.out;omega⟩,⟨by(try simp only[hl333001_1]);(try simp only[hl333001_2]);(with_reducible repeat (first|apply Kd.R_alloc|apply Kd.R_drewN|apply Kd.R_drew));exact HO_6.out⟩,⟨by(try simp only[hl333001_1]);(try simp only[hl333001_2]);(with_reducible repeat (first|apply Kd.N_alloc|apply Kd.N_drewN|apply Kd.N_drew));exact HO_333001.out⟩,⟨by(try simp only[hl333001_1]);(try simp only[hl333001_2]);(with_reducible repeat (first|refine blk_drewN ?_ _|refine blk_drew ?_|refine blk_alloc ?_ _));exact BK321.out⟩,⟨by(try simp only[hl333001_1]);(try simp only[hl333001_2]);(with_reducible repeat (first|refine blk_drewN ?_ _|refine blk_drew ?_|refine blk_alloc ?_ _));exact BK322.out⟩,⟨by(try simp only[hl333001_1]);(try simp only[hl333001_2]);(with_reducible repeat (first|refine blk_drewN ?_ _|refine blk_drew ?_|refine blk_alloc ?_ _));exact BK332.out⟩,⟨bS3 GE321.out GE322.out GE332.out⟩⟩
           ·rw[if_neg c34] at H
            exact absurd H (by simp)
          ·rw[if_neg c33] at H
           exact absurd H (by simp)
      ·rw[if_neg c21] at H
       exact absurd H (by simp)
     ·rw[if_neg c20] at H
      exact absurd H (by simp)
    ·rw[if_neg c19] at H
     have c19b0:decide (x19_1 < (t325.length:Int))=false:=decide_eq_false c19
     have c19z_:=c19b0
     (try simp only[hl333001_1] at c19z_)
     clear c19
     replace H:=bI_ H
     obtain⟨t362,A670,H⟩:=H
     replace H:(if t362=true then ((impl_Turns_copied.f t324 x333001_1 (wrap64 (t328+1))).bind fun bt363=>(some (bt363.1,bt363.2.1,bt363.2.2,x6_1,true))) else (some (0,([]:List (S34)),0,([]:List Int),false)))=some (r1,r2,r3,r4,r5):=H
     have A67:=am A670
     clear A670
     by_cases c68:t362=true
     ·subst c68
      have H1:((impl_Turns_copied.f t324 x333001_1 (wrap64 (t328+1))).bind fun bt363=>(some (bt363.1,bt363.2.1,bt363.2.2,x6_1,true)))=some (r1,r2,r3,r4,r5):=by rw[if_pos rfl] at H;exact H
      clear H
      have H:=H1
      clear H1
      replace H:=bI_ H
      obtain⟨⟨t363,t364,t367⟩,A690,H⟩:=H
      replace H:(some (t363,t364,t367,x6_1,true))=some (r1,r2,r3,r4,r5):=H
      have A69:=am A690
      clear A690
      simp only[Option.some.injEq,Prod.mk.injEq] at H
      obtain⟨rfl,rfl,rfl,rfl,rfl⟩:=H
      have hnb70:=NB332_321.out
      have hnc70:=NB321_332.out
      have hnb71:=NB332_322.out
      have hnc71:=NB322_332.out
      obtain⟨hcz72_0,hcz72_1,hcz72_2⟩:=cC3 BK332.out
      obtain⟨hfz72_0,hfz72_1,hfz72_2⟩:=cF3 BK332.out
      go_wp2_with (first|((with_reducible refine gate_callee (f:=10) rfl ?_);refine goesA (some 113) rfl rfl Try.func10 #[.agg #[.int .i64 t324,.slice Ao18 x333001_1.length co18,.int .i64 (wrap64 (t328+1))]] rfl ?_;(with_reducible refine(impl_GoodTurns.calls k1 t324 _ _ x333001_1 (wrap64 (t328+1)) true _ ?side1 ?side2 A67.out).mono ?_);(case side1=>refine(Kd.N_reads' (e:=34) (base:=w.heap.size) (ok:=fun k_=>((w.heap.size≤k_)∧(some k_≠(u6:Value).ownBlock∧(k_≠gb321∧(k_≠gb322∧k_≠gb332))))) (n:=x333001_1.length) (c:=co18) ?_).2.2;exact(by(with_reducible repeat (first|apply Kd.N_alloc|apply Kd.N_drewN|apply Kd.N_drew));exact(Kd.N_mono (Kd.N_far (p:=⟨gb332,2,none⟩) (Kd.N_mono HO_333001.out (fun k_ hk=>(⟨hk,hk.2.2.2.2⟩:_∧k_≠gb332))) (fun _ hk=>hk.2) (.int .i64 (wrap64 (t328+1)))) (fun _ h_=>h_.1))));(case side2=>exact(Kd.N_reads' HO_333001.out).2.1);rintro e w73 ⟨rfl,hb⟩;refine⟨_,rfl,?_⟩;have n0_:=am (Kd.R_below (by(with_reducible repeat (first|apply Kd.R_alloc|apply Kd.R_drewN|apply Kd.R_drew));exact(Kd.R_mono (Kd.R_far (p:=⟨gb332,2,none⟩) (Kd.R_types HO_6.out BK332.out (by decide)) (fun _ hk=>hk.2) (.int .i64 (wrap64 (t328+1)))) (fun _ h_=>h_.1))) hb);have n1_:=am (Kd.N_below (by(with_reducible repeat (first|apply Kd.N_alloc|apply Kd.N_drewN|apply Kd.N_drew));exact(Kd.N_mono (Kd.N_far (p:=⟨gb332,2,none⟩) (Kd.N_mono HO_333001.out (fun k_ hk=>(⟨hk,hk.2.2.2.2⟩:_∧k_≠gb332))) (fun _ hk=>hk.2) (.int .i64 (wrap64 (t328+1)))) (fun _ h_=>h_.1))) hb);have n2_:=am (blk_below (g:=gb321) (o:=.cells #[.int .i64 a0_0,.slice A0_1 l0_1.length c0_1,.int .i64 a0_2] 25 (0,0)) (by(with_reducible repeat (first|refine blk_drewN ?_ _|refine blk_drew ?_|refine blk_alloc ?_ _));refine blk_far ?_ NB321_332.out _;(with_reducible repeat (first|refine blk_drewN ?_ _|refine blk_drew ?_|refine blk_alloc ?_ _));exact BK321.out) hb);have n3_:=am (blk_below (g:=gb322) (o:=.cells #[.int .i64 0,.slice none 0 0,.int .i64 0] 25 (0,0)) (by(with_reducible repeat (first|refine blk_drewN ?_ _|refine blk_drew ?_|refine blk_alloc ?_ _));refine blk_far ?_ NB322_332.out _;(with_reducible repeat (first|refine blk_drewN ?_ _|refine blk_drew ?_|refine blk_alloc ?_ _));exact BK322.out) hb);have n4_:=am (blk_below (g:=gb332) (o:=.cells #[.int .i64 t324,.slice Ao18 x333001_1.length co18,.int .i64 (wrap64 (t328+1))] 25 (0,0)) (by(with_reducible repeat (first|refine blk_drewN ?_ _|refine blk_drew ?_|refine blk_alloc ?_ _));refine blk_put (cs:=#[.int .i64 t324,.slice Ao18 x333001_1.length co18,.int .i64 t328]) ?_ 2 _ rfl;(with_reducible repeat (first|refine blk_drewN ?_ _|refine blk_drew ?_|refine blk_alloc ?_ _));exact BK332.out) hb);have n5_:=am (below_step (bS3 GE321.out GE322.out GE332.out) hb);clear HO_6 HO_333001 BK321 BK322 BK332 HB;have HO_6:=n0_;have HO_333001:=n1_;have BK321:=n2_;have BK322:=n3_;have BK332:=n4_;have HB:=n5_;clear n0_ n1_ n2_ n3_ n4_ n5_;(try clear hb);(try clear hb2);(try clear hk);(try clear hi);obtain⟨hcz74_0,hcz74_1,hcz74_2⟩:=cC3 BK332.out;obtain⟨hfz74_0,hfz74_1,hfz74_2⟩:=cF3 BK332.out)|((with_reducible refine gate_callee (f:=20) rfl ?_);refine goesA (some 117) rfl rfl Try.func20 #[.agg #[.int .i64 t324,.slice Ao18 x333001_1.length co18,.int .i64 (wrap64 (t328+1))]] rfl ?_;(with_reducible refine(impl_Turns_copied.calls t324 _ _ x333001_1 (wrap64 (t328+1)) t363 t364 t367 _ ?side1 ?side2 A69.out).mono ?_);(case side1=>repeat (first|exact(Kd.N_reads' HO_333001.out).2.2|(with_reducible refine Kd.C_alloc ?_ _)|(with_reducible refine Kd.C_drewN ?_ _)|(with_reducible refine Kd.C_drew ?_)));(case side2=>exact(Kd.N_reads' HO_333001.out).2.1);rintro e w75 ⟨v365,rfl,ho0,hb⟩;refine⟨_,rfl,?_⟩;have n0_:=am (Kd.R_below (bK HO_6.out) hb);have n1_:=am (Kd.N_elder' (by(with_reducible repeat (first|apply Kd.N_alloc|apply Kd.N_drewN|apply Kd.N_drew));exact HO_333001.out) (by first|exact Kd.N_base ho0|exact Kd.S_base ho0) hb);have n2_:=am (Kd.S_lower (Kd.S_mono (ok':=fun k_=>(w.heap.size≤k_)∧some k_≠(u6:Value).ownBlock∧some k_≠(.slice Ao18 x333001_1.length co18:Value).ownBlock∧k_≠gb321∧k_≠gb322∧k_≠gb332) (Kd.S_bound ho0) (fun k_ hk_=>⟨(Nat.le_trans (below_size (bS3 GE321.out GE322.out GE332.out)) hk_.2.1),(Kd.fresh' (Kd.R_lt (bK HO_6.out)) k_ hk_.2.1),(Kd.fresh' (Kd.N_lt (by(with_reducible repeat (first|apply Kd.N_alloc|apply Kd.N_drewN|apply Kd.N_drew));exact HO_333001.out)) k_ hk_.2.1),(Kd.freshB (g:=gb321) (o:=.cells #[.int .i64 a0_0,.slice A0_1 l0_1.length c0_1,.int .i64 a0_2] 25 (0,0)) (bL BK321.out) k_ hk_.2.1),(Kd.freshB (g:=gb322) (o:=.cells #[.int .i64 0,.slice none 0 0,.int .i64 0] 25 (0,0)) (bL BK322.out) k_ hk_.2.1),(Kd.freshB (g:=gb332) (o:=.cells #[.int .i64 t324,.slice Ao18 x333001_1.length co18,.int .i64 (wrap64 (t328+1))] 25 (0,0)) (bL BK332.out) k_ hk_.2.1)⟩)) (below_size (bS3 GE321.out GE322.out GE332.out)));have n3_:=am (bM BK321.out hb);have n4_:=am (bM BK322.out hb);have n5_:=am (bM BK332.out hb);have n6_:=am (below_step (bS3 GE321.out GE322.out GE332.out) hb);clear HO_6 HO_333001 BK321 BK322 BK332 HB;have HO_6:=n0_;have HO_333001:=n1_;have HO366:=n2_;have BK321:=n3_;have BK322:=n4_;have BK332:=n5_;have HB:=n6_;clear n0_ n1_ n2_ n3_ n4_ n5_ n6_;(try clear hb);(try clear hb2);(try clear hk);(try clear hi);(try clear ho0);have hnb76:=NB322_321.out;have hnc76:=NB321_322.out;obtain⟨hcz77_0,hcz77_1,hcz77_2⟩:=cC3 BK322.out;obtain⟨hfz77_0,hfz77_1,hfz77_2⟩:=cF3 BK322.out;obtain⟨Ao78,co78,eo78⟩:=Kd.S_slice HO366.out;subst eo78))
      refine bodyPost_ret (results_ctt rfl _ _ gb322 25 #[.int .i64 t363,.slice Ao78 t364.length co78,.int .i64 t367] (0,0) _ rfl (by(with_reducible repeat (first|refine blk_drewN ?_ _|refine blk_drew ?_|refine blk_alloc ?_ _));apply bU3;(with_reducible repeat (first|refine blk_drewN ?_ _|refine blk_drew ?_|refine blk_alloc ?_ _));exact BK322.out) Try.underlying25 rfl (by kernel_rfl)) rfl ?_
      exact⟨_,_,by first|rfl|(simp[errW_none,errW_some]<;>rfl)|(simp[*,errW_none,errW_some]<;>rfl),by(with_reducible repeat (first|apply Kd.S_alloc|apply Kd.S_drewN|apply Kd.S_drew));exact Kd.S_mono (Kd.S_far (p:=⟨gb322,2,none⟩) (Kd.S_far (p:=⟨gb322,1,none⟩) (Kd.S_far (p:=⟨gb322,0,none⟩) (Kd.S_mono HO366.out (fun k_ hk=>(⟨hk,hk.2.2.2.2.1⟩:_∧k_≠gb322))) (fun _ hk=>hk.2) (.int .i64 t363)) (fun _ hk=>hk.2) (.slice Ao78 t364.length co78)) (fun _ hk=>hk.2) (.int .i64 t367)) (fun _ hk=>hk.1.2.1),by(with_reducible repeat (first|apply Kd.R_alloc|apply Kd.R_drewN|apply Kd.R_drew));exact Kd.R_mono (Kd.R_far (p:=⟨gb322,2,none⟩) (Kd.R_far (p:=⟨gb322,1,none⟩) (Kd.R_far (p:=⟨gb322,0,none⟩) (Kd.R_types HO_6.out BK322.out (by decide)) (fun _ hk=>hk.2) (.int .i64 t363)) (fun _ hk=>hk.2) (.slice Ao78 t364.length co78)) (fun _ hk=>hk.2) (.int .i64 t367)) (fun _ _=>trivial),bS3 GE321.out GE322.out GE332.out⟩
     ·replace c68:=Bool.eq_false_iff.mpr c68
      subst c68
      have H1:(some (0,([]:List (S34)),0,([]:List Int),false))=some (r1,r2,r3,r4,r5):=by rw[if_neg (show ¬ (false=true) by decide)] at H;exact H
      clear H
      have H:=H1
      clear H1
      simp only[Option.some.injEq,Prod.mk.injEq] at H
      obtain⟨rfl,rfl,rfl,rfl,rfl⟩:=H
      have hnb79:=NB332_321.out
      have hnc79:=NB321_332.out
      have hnb80:=NB332_322.out
      have hnc80:=NB322_332.out
      obtain⟨hcz81_0,hcz81_1,hcz81_2⟩:=cC3 BK332.out
      obtain⟨hfz81_0,hfz81_1,hfz81_2⟩:=cF3 BK332.out
      go_wp2_with (first|((with_reducible refine gate_callee (f:=10) rfl ?_);refine goesA (some 113) rfl rfl Try.func10 #[.agg #[.int .i64 t324,.slice Ao18 x333001_1.length co18,.int .i64 (wrap64 (t328+1))]] rfl ?_;(with_reducible refine(impl_GoodTurns.calls k1 t324 _ _ x333001_1 (wrap64 (t328+1)) false _ ?side1 ?side2 A67.out).mono ?_);(case side1=>refine(Kd.N_reads' (e:=34) (base:=w.heap.size) (ok:=fun k_=>((w.heap.size≤k_)∧(some k_≠(u6:Value).ownBlock∧(k_≠gb321∧(k_≠gb322∧k_≠gb332))))) (n:=x333001_1.length) (c:=co18) ?_).2.2;exact(by(with_reducible repeat (first|apply Kd.N_alloc|apply Kd.N_drewN|apply Kd.N_drew));exact(Kd.N_mono (Kd.N_far (p:=⟨gb332,2,none⟩) (Kd.N_mono HO_333001.out (fun k_ hk=>(⟨hk,hk.2.2.2.2⟩:_∧k_≠gb332))) (fun _ hk=>hk.2) (.int .i64 (wrap64 (t328+1)))) (fun _ h_=>h_.1))));(case side2=>exact(Kd.N_reads' HO_333001.out).2.1);rintro e w82 ⟨rfl,hb⟩;refine⟨_,rfl,?_⟩;have n0_:=am (Kd.R_below (by(with_reducible repeat (first|apply Kd.R_alloc|apply Kd.R_drewN|apply Kd.R_drew));exact(Kd.R_mono (Kd.R_far (p:=⟨gb332,2,none⟩) (Kd.R_types HO_6.out BK332.out (by decide)) (fun _ hk=>hk.2) (.int .i64 (wrap64 (t328+1)))) (fun _ h_=>h_.1))) hb);have n1_:=am (Kd.N_below (by(with_reducible repeat (first|apply Kd.N_alloc|apply Kd.N_drewN|apply Kd.N_drew));exact(Kd.N_mono (Kd.N_far (p:=⟨gb332,2,none⟩) (Kd.N_mono HO_333001.out (fun k_ hk=>(⟨hk,hk.2.2.2.2⟩:_∧k_≠gb332))) (fun _ hk=>hk.2) (.int .i64 (wrap64 (t328+1)))) (fun _ h_=>h_.1))) hb);have n2_:=am (blk_below (g:=gb321) (o:=.cells #[.int .i64 a0_0,.slice A0_1 l0_1.length c0_1,.int .i64 a0_2] 25 (0,0)) (by(with_reducible repeat (first|refine blk_drewN ?_ _|refine blk_drew ?_|refine blk_alloc ?_ _));refine blk_far ?_ NB321_332.out _;(with_reducible repeat (first|refine blk_drewN ?_ _|refine blk_drew ?_|refine blk_alloc ?_ _));exact BK321.out) hb);have n3_:=am (blk_below (g:=gb322) (o:=.cells #[.int .i64 0,.slice none 0 0,.int .i64 0] 25 (0,0)) (by(with_reducible repeat (first|refine blk_drewN ?_ _|refine blk_drew ?_|refine blk_alloc ?_ _));refine blk_far ?_ NB322_332.out _;(with_reducible repeat (first|refine blk_drewN ?_ _|refine blk_drew ?_|refine blk_alloc ?_ _));exact BK322.out) hb);have n4_:=am (blk_below (g:=gb332) (o:=.cells #[.int .i64 t324,.slice Ao18 x333001_1.length co18,.int .i64 (wrap64 (t328+1))] 25 (0,0)) (by(with_reducible repeat (first|refine blk_drewN ?_ _|refine blk_drew ?_|refine blk_alloc ?_ _));refine blk_put (cs:=#[.int .i64 t324,.slice Ao18 x333001_1.length co18,.int .i64 t328]) ?_ 2 _ rfl;(with_reducible repeat (first|refine blk_drewN ?_ _|refine blk_drew ?_|refine blk_alloc ?_ _));exact BK332.out) hb);have n5_:=am (below_step (bS3 GE321.out GE322.out GE332.out) hb);clear HO_6 HO_333001 BK321 BK322 BK332 HB;have HO_6:=n0_;have HO_333001:=n1_;have BK321:=n2_;have BK322:=n3_;have BK332:=n4_;have HB:=n5_;clear n0_ n1_ n2_ n3_ n4_ n5_;(try clear hb);(try clear hb2);(try clear hk);(try clear hi);have hnb83:=NB322_321.out;have hnc83:=NB321_322.out;obtain⟨hcz84_0,hcz84_1,hcz84_2⟩:=cC3 BK322.out;obtain⟨hfz84_0,hfz84_1,hfz84_2⟩:=cF3 BK322.out))
      refine bodyPost_ret (results_ctt rfl _ _ gb322 25 #[.int .i64 0,.slice none 0 0,.int .i64 0] (0,0) _ rfl (by(with_reducible repeat (first|refine blk_drewN ?_ _|refine blk_drew ?_|refine blk_alloc ?_ _));apply bU3;(with_reducible repeat (first|refine blk_drewN ?_ _|refine blk_drew ?_|refine blk_alloc ?_ _));exact BK322.out) Try.underlying25 rfl (by kernel_rfl)) rfl ?_
      exact⟨_,_,by first|rfl|(simp[errW_none,errW_some]<;>rfl)|(simp[*,errW_none,errW_some]<;>rfl),by first|exact Kd.S_nil _ _ _ _ _|exact Kd.N_nil _ _ _ _ _|exact Kd.V_nil _ _ _ _ _|exact Kd.Q_nil _ _ _ _ _|exact Kd.R_nil _ _ _ _ _,by first|exact Kd.R_nil _ _ _ _ _|exact Kd.N_nil _ _ _ _ _|exact Kd.V_nil _ _ _ _ _|exact Kd.Q_nil _ _ _ _ _|exact Kd.S_nil _ _ _ _ _,bS3 GE321.out GE322.out GE332.out⟩
 ·replace c3:=Bool.eq_false_iff.mpr c3
  subst c3
  have H1:(some (0,([]:List (S34)),0,([]:List Int),false))=some (r1,r2,r3,r4,r5):=by rw[if_neg (show ¬ (false=true) by decide)] at H;exact H
  clear H
  have H:=H1
  clear H1
  simp only[Option.some.injEq,Prod.mk.injEq] at H
  obtain⟨rfl,rfl,rfl,rfl,rfl⟩:=H
  go_enter Try.func6,Try.ntmps6
  go_wp2_with (first|((with_reducible refine gate_dst (N:=1) rfl ?_);refine box_event ?hg (N:=1) ?hd (cs:=#[.int .i64 a0_0,.slice A0_1 l0_1.length c0_1,.int .i64 a0_2]) (t:=25) ?hr ?_;(case hd=>rfl);(case hg=>rfl);(case hr=>first|(go_simp;done)|(go_simp;rfl));intro gb321 hg w85 hbox hb;have n0_:=am (below_step (bB) hb);have n1_:=am (hbox);have n2_:=am ((bG:w.heap.size≤gb321));have n3_:=am ((bG:w.heap.size≤gb321));clear HB;have HB:=n0_;have BK321:=n1_;have GW321:=n2_;have GE321:=n3_;clear n0_ n1_ n2_ n3_;clear hb hbox hg)|((with_reducible refine gate_dst (N:=2) rfl ?_);refine box_event ?hg (N:=2) ?hd (cs:=#[.int .i64 0,.slice none 0 0,.int .i64 0]) (t:=25) ?hr ?_;(case hd=>rfl);(case hg=>rfl);(case hr=>first|(go_simp;done)|(go_simp;rfl));intro gb322 hg w86 hbox hb;have n0_:=am (bM BK321.out hb);have n1_:=am (below_step (bS GE321.out) hb);have n2_:=am (hbox);have n3_:=am ((by rw[hg];exact(below_size (bS GE321.out)):w.heap.size≤gb322));have n4_:=am ((by rw[hg];exact(below_size (bS GE321.out)):w.heap.size≤gb322));have n5_:=am ((bN BK321.out hg:gb321≠gb322));have n6_:=am ((bO BK321.out hg:gb322≠gb321));clear BK321 HB;have BK321:=n0_;have HB:=n1_;have BK322:=n2_;have GW322:=n3_;have GE322:=n4_;have NB321_322:=n5_;have NB322_321:=n6_;clear n0_ n1_ n2_ n3_ n4_ n5_ n6_;clear hb hbox hg;have hnb87:=NB321_322.out;have hnc87:=NB322_321.out;obtain⟨hcz88_0,hcz88_1,hcz88_2⟩:=cC3 BK321.out;obtain⟨hfz88_0,hfz88_1,hfz88_2⟩:=cF3 BK321.out)|((with_reducible refine gate_callee (f:=10) rfl ?_);refine goesA (some 10) rfl rfl Try.func10 #[.agg #[.int .i64 a0_0,.slice A0_1 l0_1.length c0_1,.int .i64 a0_2]] rfl ?_;(with_reducible refine(impl_GoodTurns.calls k a0_0 _ _ l0_1 a0_2 false _ ?side1 ?side2 A2.out).mono ?_);(case side1=>exact bC HR0_1.out);(case side2=>exact HC0_1.out);rintro e w89 ⟨rfl,hb⟩;refine⟨_,rfl,?_⟩;have n0_:=am (bM BK321.out hb);have n1_:=am (bM BK322.out hb);have n2_:=am (below_step (bS2 GE321.out GE322.out) hb);clear BK321 BK322 HB;have BK321:=n0_;have BK322:=n1_;have HB:=n2_;clear n0_ n1_ n2_;(try clear hb);(try clear hb2);(try clear hk);(try clear hi);obtain⟨hcz90_0,hcz90_1,hcz90_2⟩:=cC3 BK322.out;obtain⟨hfz90_0,hfz90_1,hfz90_2⟩:=cF3 BK322.out))
  refine bodyPost_ret (results_ctt rfl _ _ gb322 25 #[.int .i64 0,.slice none 0 0,.int .i64 0] (0,0) _ rfl (by(with_reducible repeat (first|refine blk_drewN ?_ _|refine blk_drew ?_|refine blk_alloc ?_ _));apply bU3;(with_reducible repeat (first|refine blk_drewN ?_ _|refine blk_drew ?_|refine blk_alloc ?_ _));exact BK322.out) Try.underlying25 rfl (by kernel_rfl)) rfl ?_
  exact⟨_,_,by first|rfl|(simp[errW_none,errW_some]<;>rfl)|(simp[*,errW_none,errW_some]<;>rfl),by first|exact Kd.S_nil _ _ _ _ _|exact Kd.N_nil _ _ _ _ _|exact Kd.V_nil _ _ _ _ _|exact Kd.Q_nil _ _ _ _ _|exact Kd.R_nil _ _ _ _ _,by first|exact Kd.R_nil _ _ _ _ _|exact Kd.N_nil _ _ _ _ _|exact Kd.V_nil _ _ _ _ _|exact Kd.Q_nil _ _ _ _ _|exact Kd.S_nil _ _ _ _ _,bS2 GE321.out GE322.out⟩

end Go.Proofs.Ythghcoepkknkeaa.XFnFair
